import PyProof.Rows.All
import Wide.All
import OpenK.AllK
import Wide.FinOn
import HandS.Base
import HandS.Call
import HandS.List
import HandS.Comp
import HandS.Ends
import HandS.Dict
import HandS.Iter
import HandS.Text
import HandS.Words
import HandS.WordsList
import HandS.IsInst
import PyProof.Rows.SortShellAny
import HandS.Set
import HandS.SetFor
import HandS.Strs
import HandS.SortInts
import PyProof.SeqRoads2
import HandS.TryOnly
import HandS.WordsDict
import HandS.Finally
import HandS.Style
import HandS.More
import HandS.Conv
import HandS.Deep
import HandS.TupAny
import KE.SortData
import PyProof.SetRoads
import PyProof.ReprRoads
import KE.KDictZip
import PySem.Challenge.RW_keyrooms_k52_whole_one_writing_each
set_option Elab.async false
set_option linter.all false
set_option maxRecDepth 100000
set_option maxHeartbeats 4000000
/-! layer Kr1 -/
namespace Kr
open PySem L2

/-! ## data in the abstract heap -/
/-- a dict's key as data -/
def KeyD : PyData → Key → Prop
  | .int i, .inl j => i = j
  | .str x, .inr y => x = y
  | _, _ => False
mutual
def Da (H : Hp) : PyData → V → Prop
  | .none, v => v = .non
  | .bool b, v => v = .bl b
  | .int i, v => v = .int i
  | .str x, v => v = .str x
  | .list ds, v => ∃ a xs, v = .ref a ∧ H a = some (.lst xs) ∧ DaAll H ds xs
  | .tuple ds, v => ∃ a xs, v = .ref a ∧ H a = some (.tup xs) ∧ DaAll H ds xs
  | .dict kvs, v => ∃ a es, v = .ref a ∧ Rd H a (.dK es) ∧ DaKV H kvs es
def DaAll (H : Hp) : List PyData → List V → Prop
  | [], vs => vs = []
  | d :: ds, vs => ∃ v r, vs = v :: r ∧ Da H d v ∧ DaAll H ds r
def DaKV (H : Hp) : List (PyData × PyData) → List (Key × V) → Prop
  | [], es => es = []
  | (k, d) :: kvs, es => ∃ k' v r, es = (k', v) :: r ∧ KeyD k k' ∧ Da H d v ∧ DaKV H kvs r
end
mutual
theorem Da.mono {H H' : Hp} (s : Same H H') : ∀ {d : PyData} {v : V}, Da H d v → Da H' d v
  | .none, _, h => h
  | .bool _, _, h => h
  | .int _, _, h => h
  | .str _, _, h => h
  | .list ds, v, h => by
    obtain ⟨a, xs, e, h1, h2⟩ := (show ∃ a xs, v = .ref a ∧ H a = some (.lst xs) ∧ DaAll H ds xs from h)
    exact (show ∃ a xs, v = .ref a ∧ H' a = some (.lst xs) ∧ DaAll H' ds xs from ⟨a, xs, e, s _ _ h1, DaAll.mono s h2⟩)
  | .tuple ds, v, h => by
    obtain ⟨a, xs, e, h1, h2⟩ := (show ∃ a xs, v = .ref a ∧ H a = some (.tup xs) ∧ DaAll H ds xs from h)
    exact (show ∃ a xs, v = .ref a ∧ H' a = some (.tup xs) ∧ DaAll H' ds xs from ⟨a, xs, e, s _ _ h1, DaAll.mono s h2⟩)
  | .dict kvs, v, h => by
    obtain ⟨a, xs, e, h1, h2⟩ := (show ∃ a es, v = .ref a ∧ Rd H a (.dK es) ∧ DaKV H kvs es from h)
    exact (show ∃ a es, v = .ref a ∧ Rd H' a (.dK es) ∧ DaKV H' kvs es from ⟨a, xs, e, h1.elim (fun z => .inl (s _ _ z)) (fun ⟨o, z⟩ => .inr ⟨o, s _ _ z⟩), DaKV.mono s h2⟩)
theorem DaAll.mono {H H' : Hp} (s : Same H H') : ∀ {ds : List PyData} {vs : List V}, DaAll H ds vs → DaAll H' ds vs
  | [], _, h => h
  | d :: ds, vs, h => by
    obtain ⟨v, r, e, h1, h2⟩ := (show ∃ v r, vs = v :: r ∧ Da H d v ∧ DaAll H ds r from h)
    exact (show ∃ v r, vs = v :: r ∧ Da H' d v ∧ DaAll H' ds r from ⟨v, r, e, h1.mono s, DaAll.mono s h2⟩)
theorem DaKV.mono {H H' : Hp} (s : Same H H') : ∀ {kvs : List (PyData × PyData)} {es : List (Key × V)}, DaKV H kvs es → DaKV H' kvs es
  | [], _, h => h
  | (k, d) :: kvs, es, h => by
    obtain ⟨k', v, r, e, h0, h1, h2⟩ := (show ∃ k' v r, es = (k', v) :: r ∧ KeyD k k' ∧ Da H d v ∧ DaKV H kvs r from h)
    exact (show ∃ k' v r, es = (k', v) :: r ∧ KeyD k k' ∧ Da H' d v ∧ DaKV H' kvs r from ⟨k', v, r, e, h0, h1.mono s, DaKV.mono s h2⟩)
end
mutual
theorem Da.dp {K : PySem.W.Frag} {H : Hp} : ∀ {d : PyData} {v : V}, Da H d v → d.canLay0 = true → Dp K H v d
  | .none, v, h, _ => by obtain rfl : v = .non := h; exact .non
  | .bool b, v, h, _ => by obtain rfl : v = .bl b := h; exact .bl b
  | .int i, v, h, _ => by obtain rfl : v = .int i := h; exact .int i
  | .str x, v, h, _ => by obtain rfl : v = .str x := h; exact .str x
  | .list ds, v, h, c => by
    obtain ⟨a, xs, rfl, h1, h2⟩ := (show ∃ a xs, v = .ref a ∧ H a = some (.lst xs) ∧ DaAll H ds xs from h)
    exact .lst (SqL.of h1) (DaAll.dp h2 (by simpa [PyData.canLay0] using c))
  | .tuple ds, v, h, c => by
    obtain ⟨a, xs, rfl, h1, h2⟩ := (show ∃ a xs, v = .ref a ∧ H a = some (.tup xs) ∧ DaAll H ds xs from h)
    exact .tup (SqT.of h1) (DaAll.dp h2 (by simpa [PyData.canLay0] using c))
  | .dict _, _, h, c => by simp [PyData.canLay0] at c
theorem DaAll.dp {K : PySem.W.Frag} {H : Hp} : ∀ {ds : List PyData} {vs : List V}, DaAll H ds vs → PyData.canLayAll0 ds = true → DpAll K H vs ds
  | [], vs, h, _ => by obtain rfl : vs = [] := h; exact .nil
  | d :: ds, vs, h, c => by
    obtain ⟨v, r, rfl, h1, h2⟩ := (show ∃ v r, vs = v :: r ∧ Da H d v ∧ DaAll H ds r from h)
    have c' : d.canLay0 = true ∧ PyData.canLayAll0 ds = true := by simpa [PyData.canLayAll0] using c
    exact .cons (h1.dp c'.1) (DaAll.dp h2 c'.2)
end
section
variable {H : Hp}
theorem daAll_nil : DaAll H [] [] := rfl
theorem daAll_cons {d : PyData} {ds : List PyData} {v : V} {vs : List V} (h : Da H d v) (t : DaAll H ds vs) : DaAll H (d :: ds) (v :: vs) := ⟨v, vs, rfl, h, t⟩
theorem DaAll.length : ∀ {ds : List PyData} {vs : List V}, DaAll H ds vs → vs.length = ds.length
  | [], _, h => by obtain rfl := (show _ = [] from h); rfl
  | d :: ds, _, h => by
    obtain ⟨v, r, rfl, _, h2⟩ := (show ∃ v r, _ = v :: r ∧ Da H d v ∧ DaAll H ds r from h)
    simp [DaAll.length h2]
theorem DaAll.get : ∀ {ds : List PyData} {vs : List V} {i : Nat} {d : PyData}, DaAll H ds vs → ds[i]? = some d → ∃ v, vs[i]? = some v ∧ Da H d v
  | [], _, _, _, _, e => by simp at e
  | d0 :: ds, _, i, d, h, e => by
    obtain ⟨v, r, rfl, h1, h2⟩ := (show ∃ v r, _ = v :: r ∧ Da H d0 v ∧ DaAll H ds r from h)
    cases i with
    | zero => simp at e; subst e; exact ⟨v, rfl, h1⟩
    | succ i => simpa using DaAll.get h2 (by simpa using e)
theorem DaAll.getV : ∀ {ds : List PyData} {vs : List V} {i : Nat} {v : V}, DaAll H ds vs → vs[i]? = some v → ∃ d, ds[i]? = some d ∧ Da H d v
  | [], _, _, _, h, e => by obtain rfl := (show _ = [] from h); simp at e
  | d0 :: ds, _, i, v, h, e => by
    obtain ⟨v0, r, rfl, h1, h2⟩ := (show ∃ v r, _ = v :: r ∧ Da H d0 v ∧ DaAll H ds r from h)
    cases i with
    | zero => simp at e; subst e; exact ⟨d0, rfl, h1⟩
    | succ i => simpa using DaAll.getV h2 (by simpa using e)
theorem DaAll.append : ∀ {ds es : List PyData} {vs us : List V}, DaAll H ds vs → DaAll H es us → DaAll H (ds ++ es) (vs ++ us)
  | [], _, _, _, h, h' => by obtain rfl := (show _ = [] from h); exact h'
  | d0 :: ds, _, _, _, h, h' => by
    obtain ⟨v0, r, rfl, h1, h2⟩ := (show ∃ v r, _ = v :: r ∧ Da H d0 v ∧ DaAll H ds r from h)
    exact daAll_cons h1 (DaAll.append h2 h')
theorem DaAll.snoc {ds : List PyData} {vs : List V} {d : PyData} {v : V} (h : DaAll H ds vs) (h' : Da H d v) : DaAll H (ds ++ [d]) (vs ++ [v]) := h.append (daAll_cons h' daAll_nil)
theorem DaAll.take : ∀ {ds : List PyData} {vs : List V} (n : Nat), DaAll H ds vs → DaAll H (ds.take n) (vs.take n)
  | [], _, n, h => by obtain rfl := (show _ = [] from h); simp [daAll_nil]
  | d0 :: ds, _, n, h => by
    obtain ⟨v0, r, rfl, h1, h2⟩ := (show ∃ v r, _ = v :: r ∧ Da H d0 v ∧ DaAll H ds r from h)
    cases n with
    | zero => exact daAll_nil
    | succ n => exact daAll_cons h1 (DaAll.take n h2)
theorem DaAll.drop : ∀ {ds : List PyData} {vs : List V} (n : Nat), DaAll H ds vs → DaAll H (ds.drop n) (vs.drop n)
  | [], _, n, h => by obtain rfl := (show _ = [] from h); simp [daAll_nil]
  | d0 :: ds, _, n, h => by
    obtain ⟨v0, r, rfl, h1, h2⟩ := (show ∃ v r, _ = v :: r ∧ Da H d0 v ∧ DaAll H ds r from h)
    cases n with
    | zero => exact daAll_cons h1 h2
    | succ n => exact DaAll.drop n h2
theorem daAll_strs : ∀ xs : List Str, DaAll H (xs.map .str) (xs.map V.str)
  | [] => daAll_nil
  | x :: xs => daAll_cons (show V.str x = V.str x from rfl) (daAll_strs xs)
theorem daAll_ints : ∀ xs : List Int, DaAll H (xs.map .int) (xs.map V.int)
  | [] => daAll_nil
  | x :: xs => daAll_cons (show V.int x = V.int x from rfl) (daAll_ints xs)
theorem DaAll.strs : ∀ {xs : List Str} {vs : List V}, DaAll H (xs.map .str) vs → vs = xs.map V.str
  | [], _, h => h
  | x :: xs, vs, h => by
    obtain ⟨v, r, rfl, h1, h2⟩ := (show ∃ v r, _ = v :: r ∧ Da H (.str x) v ∧ DaAll H (xs.map .str) r from h)
    obtain rfl : v = .str x := h1
    rw [DaAll.strs h2]; rfl
theorem DaAll.ints : ∀ {xs : List Int} {vs : List V}, DaAll H (xs.map .int) vs → vs = xs.map V.int
  | [], _, h => h
  | x :: xs, vs, h => by
    obtain ⟨v, r, rfl, h1, h2⟩ := (show ∃ v r, _ = v :: r ∧ Da H (.int x) v ∧ DaAll H (xs.map .int) r from h)
    obtain rfl : v = .int x := h1
    rw [DaAll.ints h2]; rfl
theorem DaAll.strsAll : ∀ {xs : List Bool} {vs : List V}, DaAll H (xs.map .bool) vs → vs = xs.map V.bl
  | [], _, h => h
  | x :: xs, vs, h => by
    obtain ⟨v, r, rfl, h1, h2⟩ := (show ∃ v r, _ = v :: r ∧ Da H (.bool x) v ∧ DaAll H (xs.map .bool) r from h)
    obtain rfl : v = .bl x := h1
    rw [DaAll.strsAll h2]; rfl
end

/-! ## heaps that grow: F what is told for good, H all -/
structure Gr (F H F2 H2 : Hp) : Prop where
  ff : Same F F2
  fh : Same F2 H2
  hh : Same H H2
  new : ∀ b, F b = none → H b ≠ none → F2 b = none
section
variable {F H F1 H1 F2 H2 F3 H3 : Hp} {p : Addr} {o : HO}
theorem Gr.refl (h : Same F H) : Gr F H F H := ⟨Same.refl _, h, Same.refl _, fun _ e _ => e⟩
theorem Gr.trans (a : Gr F H F1 H1) (b : Gr F1 H1 F2 H2) : Gr F H F2 H2 :=
  ⟨a.ff.trans b.ff, b.fh, a.hh.trans b.hh, fun q e n => b.new q (a.new q e n) (fun z => n (a.hh.free z))⟩
theorem same_upd (h : H p = none) : Same H (upd H p o) := fun b x e => by
  rw [upd_ne (ne_of_none e h)]
  exact e
theorem same_mut (s : Same F H) (h : F p = none) : Same F (upd H p o) := fun b x e => by
  rw [upd_ne (ne_of_none e h)]
  exact s _ _ e
theorem same_both (s : Same F H) : Same (upd F p o) (upd H p o) := fun b x e => by
  by_cases hb : b = p
  · subst hb; rw [upd_same] at e ⊢; exact e
  · rw [upd_ne hb] at e ⊢; exact s _ _ e
theorem upd_self (h : H p = some o) : upd H p o = H := by
  funext b
  by_cases hb : b = p
  · subst hb; rw [upd_same, h]
  · rw [upd_ne hb]
/-- a new object that stays open -/
theorem Gr.open' (g : Gr F H F1 H1) (h : H1 p = none) : Gr F H F1 (upd H1 p o) :=
  ⟨g.ff, same_mut g.fh (g.fh.free h), g.hh.trans (same_upd h), g.new⟩
/-- a new object that is told for good -/
theorem Gr.shut (g : Gr F H F1 H1) (h : H1 p = none) : Gr F H (upd F1 p o) (upd H1 p o) :=
  ⟨g.ff.trans (same_upd (g.fh.free h)), same_both g.fh, g.hh.trans (same_upd h), fun b e n => by
    have hb : b ≠ p := fun z => by subst z; exact n (g.hh.free h)
    rw [upd_ne hb]; exact g.new b e n⟩
/-- an open object of our own changes -/
theorem Gr.mut (g : Gr F H F1 H1) (h : H p = none) (h1 : F1 p = none) : Gr F H F1 (upd H1 p o) :=
  ⟨g.ff, same_mut g.fh h1, same_mut g.hh h, g.new⟩
/-- an open object of our own is told for good -/
theorem Gr.tell (g : Gr F H F1 H1) (h : H p = none) (h1 : F1 p = none) (ho : H1 p = some o) : Gr F H (upd F1 p o) H1 :=
  ⟨g.ff.trans (same_upd h1), fun b x e => by
    by_cases hb : b = p
    · subst hb; rw [upd_same] at e; rw [ho]; exact e
    · rw [upd_ne hb] at e; exact g.fh _ _ e, g.hh, fun b e n => by
    have hb : b ≠ p := fun z => by subst z; exact n h
    rw [upd_ne hb]; exact g.new b e n⟩
theorem Gr.da (g : Gr F H F1 H1) {d : PyData} {v : V} (h : Da F d v) : Da F1 d v := h.mono g.ff
theorem Gr.daH (g : Gr F H F1 H1) {d : PyData} {v : V} (h : Da F d v) : Da H1 d v := h.mono (g.ff.trans g.fh)
theorem Gr.f0 (g : Gr F H F1 H1) (h : F p = none) (hH : H p = some o) : F1 p = none := g.new p h (by rw [hH]; exact fun z => nomatch z)
theorem Gr.same (g : Gr F H F1 H1) : Same F H1 := g.ff.trans g.fh
end

/-! ## what running a piece of text wants -/
section
variable (X : Cx)
def WE (e : Expr) (σ : St) (H : Hp) (Q : VK) : Prop := ∀ (pins : List (Addr × Obj)) (s : Shared), Inv X pins σ H s → wpAny (model X.prog X.w) X.A (eval e X.env) (EP X pins σ Q) X.xe s
def WT (e : Expr) (σ : St) (H : Hp) (Q : Bool → Hp → Prop) : Prop := ∀ (pins : List (Addr × Obj)) (s : Shared), Inv X pins σ H s → wpAny (model X.prog X.w) X.A (isTrue e X.env (eval e X.env)) (TP X pins σ Q) X.xe s
def WW (e : Expr) (σ : St) (H : Hp) (Q : Bool → Hp → Prop) : Prop := ∀ (whole : Sem Value) (pins : List (Addr × Obj)) (s : Shared), Inv X pins σ H s → wpAny (model X.prog X.w) X.A (isTrue e X.env whole) (TP X pins σ Q) X.xe s
def WA (es : List Expr) (σ : St) (H : Hp) (Q : List V → Hp → Prop) : Prop := ∀ (pos : Pos) (pins : List (Addr × Obj)) (s : Shared), Inv X pins σ H s → wpAny (model X.prog X.w) X.A (spliced (backTo pos (starEach es X.env))) (AP X pins σ Q) X.xe s
def WS (st : Stmt) (D : Ends) (σ : St) (H : Hp) : Prop := ∀ (pins : List (Addr × Obj)) (s : Shared), Inv X pins σ H s → wpAny (model X.prog X.w) X.A (exec st X.env) (SP X pins D) X.xe s
def WSs (st : List Stmt) (D : Ends) (σ : St) (H : Hp) : Prop := ∀ (pins : List (Addr × Obj)) (s : Shared), Inv X pins σ H s → wpAny (model X.prog X.w) X.A (execs st X.env) (SP X pins D) X.xe s
def WI (tg iter : Expr) (σ : St) (H : Hp) (R : It → Hp → Prop) : Prop := ∀ (pins : List (Addr × Obj)) (s : Shared), Inv X pins σ H s →
  wpAny (model X.prog X.w) X.A (eval iter X.env) (fun v s1 => wpAny (model X.prog X.w) X.A (pyIter v) (PIE X pins σ tg R) X.xe s1) X.xe s
end
section
variable {X : Cx}
theorem pe_we {e : Expr} : PE X e (WE X e) := ⟨fun pins s σ H Q I h => h pins s I⟩
theorem pt_wt {e : Expr} : PT X e (WT X e) := ⟨fun pins s σ H Q I h => h pins s I⟩
theorem pw_ww {e : Expr} : PW X e (WW X e) := ⟨fun whole pins s σ H Q I h => h whole pins s I⟩
theorem pa_wa {es : List Expr} : PA X es (WA X es) := ⟨fun pos pins s σ H Q I h => h pos pins s I⟩
theorem ps_ws {st : Stmt} : PS X st (WS X st) := ⟨fun pins s σ H D I h => h pins s I⟩
theorem pss_wss {st : List Stmt} : PSs X st (WSs X st) := ⟨fun pins s σ H D I h => h pins s I⟩
theorem pi_wi {tg iter : Expr} : PI X tg iter (WI X tg iter) := ⟨fun pins s σ H R I h => h pins s I⟩
theorem we_of {e : Expr} {t : TE} {σ : St} {H : Hp} {Q : VK} (h : PE X e t) (q : t σ H Q) : WE X e σ H Q := fun pins s I => h.run pins s σ H Q I q
theorem wt_of {e : Expr} {t : TT} {σ : St} {H : Hp} {Q : Bool → Hp → Prop} (h : PT X e t) (q : t σ H Q) : WT X e σ H Q := fun pins s I => h.run pins s σ H Q I q
theorem ww_of {e : Expr} {t : TT} {σ : St} {H : Hp} {Q : Bool → Hp → Prop} (h : PW X e t) (q : t σ H Q) : WW X e σ H Q := fun whole pins s I => h.run whole pins s σ H Q I q
theorem wa_of {es : List Expr} {t : TA} {σ : St} {H : Hp} {Q : List V → Hp → Prop} (h : PA X es t) (q : t σ H Q) : WA X es σ H Q := fun pos pins s I => h.run pos pins s σ H Q I q
theorem ws_of {st : Stmt} {t : TS} {σ : St} {H : Hp} {D : Ends} (h : PS X st t) (q : t D σ H) : WS X st D σ H := fun pins s I => h.run pins s σ H D I q
theorem wss_of {st : List Stmt} {t : TS} {σ : St} {H : Hp} {D : Ends} (h : PSs X st t) (q : t D σ H) : WSs X st D σ H := fun pins s I => h.run pins s σ H D I q
theorem wi_of {tg iter : Expr} {t : TI} {σ : St} {H : Hp} {R : It → Hp → Prop} (h : PI X tg iter t) (q : t σ H R) : WI X tg iter σ H R := fun pins s I => h.run pins s σ H R I q
theorem WE.imp {e : Expr} {σ : St} {H : Hp} {Q Q' : VK} (h : WE X e σ H Q) (q : ∀ v H', Q v H' → Q' v H') : WE X e σ H Q' := fun pins s I => thn (h pins s I) fun u s' ⟨v, H', I', r, k⟩ => ⟨v, H', I', r, q v H' k⟩
theorem WT.imp {e : Expr} {σ : St} {H : Hp} {Q Q' : Bool → Hp → Prop} (h : WT X e σ H Q) (q : ∀ v H', Q v H' → Q' v H') : WT X e σ H Q' := fun pins s I => thn (h pins s I) fun u s' ⟨H', I', k⟩ => ⟨H', I', q _ H' k⟩
end

/-! ## expressions that tell data -/
section
variable (X : Cx)
def DE (e : Expr) (σ : St) (F H : Hp) (d : PyData) : Prop := ∀ F1 H1, Gr F H F1 H1 → ∀ Q : VK, (∀ v F2 H2, Gr F1 H1 F2 H2 → Da F2 d v → Q v H2) → WE X e σ H1 Q
def DT (e : Expr) (σ : St) (F H : Hp) (b : Bool) : Prop := ∀ F1 H1, Gr F H F1 H1 → ∀ Q : Bool → Hp → Prop, (∀ F2 H2, Gr F1 H1 F2 H2 → Q b H2) → WT X e σ H1 Q
def DW (e : Expr) (σ : St) (F H : Hp) (b : Bool) : Prop := ∀ F1 H1, Gr F H F1 H1 → ∀ Q : Bool → Hp → Prop, (∀ F2 H2, Gr F1 H1 F2 H2 → Q b H2) → WW X e σ H1 Q
def DL (es : List Expr) (σ : St) (F H : Hp) (ds : List PyData) : Prop := ∀ F1 H1, Gr F H F1 H1 → ∀ Q : List V → Hp → Prop, (∀ vs F2 H2, Gr F1 H1 F2 H2 → DaAll F2 ds vs → Q vs H2) → WA X es σ H1 Q
/-- a value that is known -/
def VE (e : Expr) (σ : St) (F H : Hp) (v : V) : Prop := ∀ F1 H1, Gr F H F1 H1 → ∀ Q : VK, (∀ F2 H2, Gr F1 H1 F2 H2 → Q v H2) → WE X e σ H1 Q
end
section
variable {X : Cx} {σ : St} {F H : Hp} {e a b : Expr} {es : List Expr} {d d1 d2 : PyData} {ds : List PyData} {v : V} {i j : Int} {pos p : Pos} {x : Str}
theorem DE.mono {F' H' : Hp} (g : Gr F H F' H') (h : DE X e σ F H d) : DE X e σ F' H' d := fun F1 H1 g1 => h F1 H1 (g.trans g1)
theorem DT.mono {F' H' : Hp} {c : Bool} (g : Gr F H F' H') (h : DT X e σ F H c) : DT X e σ F' H' c := fun F1 H1 g1 => h F1 H1 (g.trans g1)
theorem VE.mono {F' H' : Hp} (g : Gr F H F' H') (h : VE X e σ F H v) : VE X e σ F' H' v := fun F1 H1 g1 => h F1 H1 (g.trans g1)
theorem DE.go (h : DE X e σ F H d) (s : Same F H) {Q : VK} (q : ∀ v F2 H2, Gr F H F2 H2 → Da F2 d v → Q v H2) : WE X e σ H Q := h F H (.refl s) Q q
theorem VE.go (h : VE X e σ F H v) (s : Same F H) {Q : VK} (q : ∀ F2 H2, Gr F H F2 H2 → Q v H2) : WE X e σ H Q := h F H (.refl s) Q q
theorem DT.go {c : Bool} (h : DT X e σ F H c) (s : Same F H) {Q : Bool → Hp → Prop} (q : ∀ F2 H2, Gr F H F2 H2 → Q c H2) : WT X e σ H Q := h F H (.refl s) Q q
theorem de_of (h : VE X e σ F H v) (hd : Da F d v) : DE X e σ F H d := fun F1 H1 g Q q => h F1 H1 g Q fun F2 H2 g2 => q v F2 H2 g2 (g2.da (g.da hd))
theorem ve_int (h : DE X e σ F H (.int i)) : VE X e σ F H (.int i) := fun F1 H1 g Q q => h F1 H1 g Q fun v F2 H2 g2 e => by obtain rfl : v = .int i := e; exact q F2 H2 g2
theorem ve_str (h : DE X e σ F H (.str x)) : VE X e σ F H (.str x) := fun F1 H1 g Q q => h F1 H1 g Q fun v F2 H2 g2 e => by obtain rfl : v = .str x := e; exact q F2 H2 g2
theorem ve_bool {c : Bool} (h : DE X e σ F H (.bool c)) : VE X e σ F H (.bl c) := fun F1 H1 g Q q => h F1 H1 g Q fun v F2 H2 g2 e => by obtain rfl : v = .bl c := e; exact q F2 H2 g2
/-- by a rule of the layer that leaves the heap -/
theorem ve_of {t : TE} (h : PE X e t) (q : ∀ F1 H1, Gr F H F1 H1 → ∀ Q : VK, Q v H1 → t σ H1 Q) : VE X e σ F H v := fun F1 H1 g Q k => we_of h (q F1 H1 g Q (k F1 H1 (.refl g.fh)))
/-- names and constants -/
theorem ve_v (k : Nat) {w : V} (h : σ[k]? = some (some w) := by rfl) (hN : X.N[k]? = some x := by rfl) (hv : Vis X.env.scope x := by first | exact Or.inl rfl | exact Or.inr (Or.inl rfl) | exact Or.inr (Or.inr rfl)) (hd : (x == ("__debug__" : Str)) = false := by decide)
    (hcd : (x == ("__classdict__" : Str)) = false := by decide) : VE X (.Name x pos) σ F H w := ve_of (pe_var hN hv hd hcd) fun F1 H1 _ Q q => ⟨w, h, q⟩
theorem de_v (k : Nat) {w : V} (hw : Da F d w) (h : σ[k]? = some (some w) := by rfl) (hN : X.N[k]? = some x := by rfl) (hv : Vis X.env.scope x := by first | exact Or.inl rfl | exact Or.inr (Or.inl rfl) | exact Or.inr (Or.inr rfl)) (hd : (x == ("__debug__" : Str)) = false := by decide)
    (hcd : (x == ("__classdict__" : Str)) = false := by decide) : DE X (.Name x pos) σ F H d := de_of (ve_v k h hN hv hd hcd) hw
theorem de_int {k : Nat} : DE X (.Constant (.int i) k pos) σ F H (.int i) := de_of (v := .int i) (ve_of pe_int fun _ _ _ _ q => q) rfl
theorem de_str {k : Nat} : DE X (.Constant (.str x) k pos) σ F H (.str x) := de_of (v := .str x) (ve_of pe_str fun _ _ _ _ q => q) rfl
theorem de_bool {k : Nat} {c : Bool} : DE X (.Constant (.bool c) k pos) σ F H (.bool c) := de_of (v := .bl c) (ve_of pe_bl fun _ _ _ _ q => q) rfl
theorem de_none {k : Nat} : DE X (.Constant .none k pos) σ F H .none := de_of (v := .non) (ve_of pe_non fun _ _ _ _ q => q) rfl
/-- two operands -/
theorem de_op {op : Operator} {r : R2} (ho : OpR X (binaryOp op) r) (ha : DE X a σ F H d1) (hb : DE X b σ F H d2) (hr : ∀ x y F1 H1, Gr F H F1 H1 → Da F1 d1 x → Da F1 d2 y → ∀ Q : VK, (∀ v F2 H2, Gr F1 H1 F2 H2 → Da F2 d v → Q v H2) → r x y H1 Q) :
    DE X (.BinOp a op b pos) σ F H d := fun F1 H1 g Q q => we_of (pe_op ho pe_we pe_we) (ha F1 H1 g _ fun x F2 H2 g2 hx => hb F2 H2 (g.trans g2) _ fun y F3 H3 g3 hy =>
      hr x y F3 H3 ((g.trans g2).trans g3) (g3.da hx) hy Q fun v F4 H4 g4 hv => q v F4 H4 ((g2.trans g3).trans g4) hv)
theorem de_cmp {op : CmpOp} {r : R2} (ho : OpR X (compareOp op) r) (hm : behindInMarks op b = false) (ha : DE X a σ F H d1) (hb : DE X b σ F H d2) (hr : ∀ x y F1 H1, Gr F H F1 H1 → Da F1 d1 x → Da F1 d2 y → ∀ Q : VK, (∀ v F2 H2, Gr F1 H1 F2 H2 → Da F2 d v → Q v H2) → r x y H1 Q) :
    DE X (.Compare a [op] [b] pos) σ F H d := fun F1 H1 g Q q => we_of (pe_cmpR ho pe_we pe_we hm) (ha F1 H1 g _ fun x F2 H2 g2 hx => hb F2 H2 (g.trans g2) _ fun y F3 H3 g3 hy =>
      hr x y F3 H3 ((g.trans g2).trans g3) (g3.da hx) hy Q fun v F4 H4 g4 hv => q v F4 H4 ((g2.trans g3).trans g4) hv)
end
end Kr

/-! layer Kr2 -/
namespace Kr
open PySem L2
section
variable {X : Cx} {σ : St} {F H : Hp} {e a b c : Expr} {es : List Expr} {d d1 d2 : PyData} {ds ds' : List PyData} {v : V} {i j k : Int} {pos p : Pos} {x y : Str} {bb cc : Bool}
structure Pl (X : Cx) (e : Expr) (es : List Expr) (pos : Pos) : Prop where
  he : starEach (e :: es) X.env = (false, eval e X.env) :: starEach es X.env
  hpl : (backTo pos (starEach es X.env)).any (·.1) = false
structure Nm (x : Str) : Prop where
  hn : x ≠ "__name__"
  hdb : (x == ("__debug__" : Str)) = false
theorem de_is (h : DE X e σ F H d) (q : d = d1) : DE X e σ F H d1 := q ▸ h
theorem dt_is (h : DT X e σ F H bb) (q : bb = cc) : DT X e σ F H cc := q ▸ h
/-! ### numbers -/
theorem de_I0 {op : Operator} {g : Int → Int → Int} (ho : OpR X (binaryOp op) (rI0 fun i j => .int (g i j))) (ha : DE X a σ F H (.int i)) (hb : DE X b σ F H (.int j)) : DE X (.BinOp a op b pos) σ F H (.int (g i j)) :=
  de_op ho ha hb fun x y F1 H1 g1 hx hy Q q => ⟨i, j, hx, hy, q (.int (g i j)) F1 H1 (.refl g1.fh) rfl⟩
theorem de_I {op : Operator} {C : Int → Int → Prop} {g : Int → Int → Int} (ho : OpR X (binaryOp op) (rI C fun i j => .int (g i j))) (ha : DE X a σ F H (.int i)) (hb : DE X b σ F H (.int j)) (hc : C i j) : DE X (.BinOp a op b pos) σ F H (.int (g i j)) :=
  de_op ho ha hb fun x y F1 H1 g1 hx hy Q q => ⟨i, j, hx, hy, hc, q (.int (g i j)) F1 H1 (.refl g1.fh) rfl⟩
theorem de_add (ha : DE X a σ F H (.int i)) (hb : DE X b σ F H (.int j)) : DE X (.BinOp a .Add b pos) σ F H (.int (i + j)) := de_I0 op_add ha hb
theorem de_sub (ha : DE X a σ F H (.int i)) (hb : DE X b σ F H (.int j)) : DE X (.BinOp a .Sub b pos) σ F H (.int (i - j)) := de_I0 op_sub ha hb
theorem de_mul (ha : DE X a σ F H (.int i)) (hb : DE X b σ F H (.int j)) (hc : CMul i j) : DE X (.BinOp a .Mult b pos) σ F H (.int (i * j)) := de_I op_mul ha hb hc
theorem de_fdiv (ha : DE X a σ F H (.int i)) (hb : DE X b σ F H (.int j)) (hc : CDiv i j) : DE X (.BinOp a .FloorDiv b pos) σ F H (.int (i / j)) := de_I op_fdiv ha hb hc
theorem de_mod (ha : DE X a σ F H (.int i)) (hb : DE X b σ F H (.int j)) (hc : 0 < j) : DE X (.BinOp a .Mod b pos) σ F H (.int (i % j)) := de_I op_mod ha hb hc
theorem de_pow (ha : DE X a σ F H (.int i)) (hb : DE X b σ F H (.int j)) (hc : CPow i j) : DE X (.BinOp a .Pow b pos) σ F H (.int (i ^ j.toNat)) := de_I op_pow ha hb hc
theorem de_neg (ha : DE X a σ F H (.int i)) : DE X (.UnaryOp .USub a pos) σ F H (.int (-i)) := fun F1 H1 g Q q =>
  we_of (pe_un un_neg pe_we) (ha F1 H1 g _ fun v F2 H2 g2 hv => ⟨i, hv, q _ F2 H2 g2 rfl⟩)
/-- a comparison, as a value or as a test -/
def DC (X : Cx) (op : CmpOp) (a b : Expr) (σ : St) (F H : Hp) (bb : Bool) : Prop := behindInMarks op b = false ∧ ∃ r, OpR X (compareOp op) r ∧ ∀ F1 H1, Gr F H F1 H1 → ∀ Q : VK, (∀ F2 H2, Gr F1 H1 F2 H2 → Q (.bl bb) H2) → tOp r (WE X a) (WE X b) σ H1 Q
theorem de_c {op : CmpOp} (h : DC X op a b σ F H bb) : DE X (.Compare a [op] [b] pos) σ F H (.bool bb) := by
  obtain ⟨hm, r, ho, h⟩ := h
  exact fun F1 H1 g Q q => we_of (pe_cmpR ho pe_we pe_we hm) (h F1 H1 g Q fun F2 H2 g2 => q _ F2 H2 g2 rfl)
theorem dt_c {op : CmpOp} (h : DC X op a b σ F H bb) : DT X (.Compare a [op] [b] pos) σ F H bb := by
  obtain ⟨hm, r, ho, h⟩ := h
  exact fun F1 H1 g Q q => wt_of (pt_cmpR ho pe_we pe_we hm) (h F1 H1 g _ fun F2 H2 g2 => ⟨bb, rfl, q F2 H2 g2⟩)
theorem c_is {op : CmpOp} (h : DC X op a b σ F H bb) (q : bb = cc) : DC X op a b σ F H cc := q ▸ h
theorem c_cmp {op : CmpOp} {r : R2} (ho : OpR X (compareOp op) r) (hm : behindInMarks op b = false) (ha : DE X a σ F H d1) (hb : DE X b σ F H d2) (hr : ∀ x y F1 H1, Gr F H F1 H1 → Da F1 d1 x → Da F1 d2 y → ∀ Q : VK, (∀ v F2 H2, Gr F1 H1 F2 H2 → Da F2 (.bool bb) v → Q v H2) → r x y H1 Q) :
    DC X op a b σ F H bb := ⟨hm, r, ho, fun F1 H1 g Q q => ha F1 H1 g _ fun x F2 H2 g2 hx => hb F2 H2 (g.trans g2) _ fun y F3 H3 g3 hy =>
      hr x y F3 H3 ((g.trans g2).trans g3) (g3.da hx) hy Q fun v F4 H4 g4 hv => by obtain rfl : v = .bl bb := hv; exact q F4 H4 ((g2.trans g3).trans g4)⟩
theorem c_cI {op : CmpOp} {g : Int → Int → Bool} (ho : OpR X (compareOp op) (rI0 fun i j => .bl (g i j))) (hm : behindInMarks op b = false) (ha : DE X a σ F H (.int i)) (hb : DE X b σ F H (.int j)) : DC X op a b σ F H (g i j) :=
  c_cmp ho hm ha hb fun x y F1 H1 g1 hx hy Q q => ⟨i, j, hx, hy, q (.bl (g i j)) F1 H1 (.refl g1.fh) rfl⟩
theorem c_lt (ha : DE X a σ F H (.int i)) (hb : DE X b σ F H (.int j)) : DC X .Lt a b σ F H (decide (i < j)) := c_cI op_lt (nomark _) ha hb
theorem c_le (ha : DE X a σ F H (.int i)) (hb : DE X b σ F H (.int j)) : DC X .LtE a b σ F H (decide (i ≤ j)) := c_cI op_le (nomark _) ha hb
theorem c_gt (ha : DE X a σ F H (.int i)) (hb : DE X b σ F H (.int j)) : DC X .Gt a b σ F H (decide (j < i)) := c_cI op_gt (nomark _) ha hb
theorem c_ge (ha : DE X a σ F H (.int i)) (hb : DE X b σ F H (.int j)) : DC X .GtE a b σ F H (decide (j ≤ i)) := c_cI op_ge (nomark _) ha hb
/-- i <= j <= k -/
theorem de_lele (ha : DE X a σ F H (.int i)) (hb : DE X b σ F H (.int j)) (hc : DE X c σ F H (.int k)) (hm : lastMarks [.LtE, .LtE] [b, c] = false := by with_unfolding_all rfl) : DE X (.Compare a [.LtE, .LtE] [b, c] pos) σ F H (.bool (decide (i ≤ j) && decide (j ≤ k))) := fun F1 H1 g Q q =>
  we_of (pe_chain op_le op_le pe_we pe_we pe_we hm) (ha F1 H1 g _ fun x F2 H2 g2 hx => hb F2 H2 (g.trans g2) _ fun y F3 H3 g3 hy => by
    refine ⟨i, j, hx, hy, _, rfl, ?_⟩
    by_cases hij : i ≤ j
    · rw [decide_eq_true hij]
      refine iteT (hc F3 H3 ((g.trans g2).trans g3) _ fun z F4 H4 g4 hz => ⟨j, k, hy, hz, ?_⟩)
      exact q _ F4 H4 ((g2.trans g3).trans g4) (by show V.bl _ = V.bl _; simp [hij])
    · rw [decide_eq_false hij]
      exact iteF (q _ F3 H3 (g2.trans g3) (by show V.bl _ = V.bl _; simp [hij])))
/-- i <= j < k -/
theorem de_lelt (ha : DE X a σ F H (.int i)) (hb : DE X b σ F H (.int j)) (hc : DE X c σ F H (.int k)) (hm : lastMarks [.LtE, .Lt] [b, c] = false := by with_unfolding_all rfl) : DE X (.Compare a [.LtE, .Lt] [b, c] pos) σ F H (.bool (decide (i ≤ j) && decide (j < k))) := fun F1 H1 g Q q =>
  we_of (pe_chain op_le op_lt pe_we pe_we pe_we hm) (ha F1 H1 g _ fun x F2 H2 g2 hx => hb F2 H2 (g.trans g2) _ fun y F3 H3 g3 hy => by
    refine ⟨i, j, hx, hy, _, rfl, ?_⟩
    by_cases hij : i ≤ j
    · rw [decide_eq_true hij]
      refine iteT (hc F3 H3 ((g.trans g2).trans g3) _ fun z F4 H4 g4 hz => ⟨j, k, hy, hz, ?_⟩)
      exact q _ F4 H4 ((g2.trans g3).trans g4) (by show V.bl _ = V.bl _; simp [hij])
    · rw [decide_eq_false hij]
      exact iteF (q _ F3 H3 (g2.trans g3) (by show V.bl _ = V.bl _; simp [hij])))
/-- i <= j <= k -/
theorem dt_lele (ha : DE X a σ F H (.int i)) (hb : DE X b σ F H (.int j)) (hc : DE X c σ F H (.int k)) (hm : lastMarks [.LtE, .LtE] [b, c] = false := by with_unfolding_all rfl) : DT X (.Compare a [.LtE, .LtE] [b, c] pos) σ F H (decide (i ≤ j) && decide (j ≤ k)) := fun F1 H1 g Q q =>
  wt_of (pt_chain op_le op_le pe_we pe_we pe_we hm) (ha F1 H1 g _ fun x F2 H2 g2 hx => hb F2 H2 (g.trans g2) _ fun y F3 H3 g3 hy => by
    refine ⟨i, j, hx, hy, _, rfl, ?_⟩
    by_cases hij : i ≤ j
    · rw [decide_eq_true hij]
      refine iteT (hc F3 H3 ((g.trans g2).trans g3) _ fun z F4 H4 g4 hz => ⟨j, k, hy, hz, _, rfl, ?_⟩)
      have := q F4 H4 ((g2.trans g3).trans g4)
      simpa [hij] using this
    · rw [decide_eq_false hij]
      have := q F3 H3 (g2.trans g3)
      exact iteF ⟨_, rfl, by simpa [hij] using this⟩)
/-- i <= j < k -/
theorem dt_lelt (ha : DE X a σ F H (.int i)) (hb : DE X b σ F H (.int j)) (hc : DE X c σ F H (.int k)) (hm : lastMarks [.LtE, .Lt] [b, c] = false := by with_unfolding_all rfl) : DT X (.Compare a [.LtE, .Lt] [b, c] pos) σ F H (decide (i ≤ j) && decide (j < k)) := fun F1 H1 g Q q =>
  wt_of (pt_chain op_le op_lt pe_we pe_we pe_we hm) (ha F1 H1 g _ fun x F2 H2 g2 hx => hb F2 H2 (g.trans g2) _ fun y F3 H3 g3 hy => by
    refine ⟨i, j, hx, hy, _, rfl, ?_⟩
    by_cases hij : i ≤ j
    · rw [decide_eq_true hij]
      refine iteT (hc F3 H3 ((g.trans g2).trans g3) _ fun z F4 H4 g4 hz => ⟨j, k, hy, hz, _, rfl, ?_⟩)
      have := q F4 H4 ((g2.trans g3).trans g4)
      simpa [hij] using this
    · rw [decide_eq_false hij]
      have := q F3 H3 (g2.trans g3)
      exact iteF ⟨_, rfl, by simpa [hij] using this⟩)
/-! ### equality -/
theorem c_eq (hu : X.A.units + 64 < cLine) (ha : DE X a σ F H d1) (hb : DE X b σ F H d2) (h1 : SeqAt.shaped d1 = true) (h2 : SeqAt.shaped d2 = true) : DC X .Eq a b σ F H (PyData.eqv d1 d2) :=
  c_cmp (op_eqD hu) (nomark _) ha hb fun x y F1 H1 g1 hx hy Q q => ⟨d1, d2, (hx.mono g1.fh).dp (SeqAt.canLay_of_shaped h1), (hy.mono g1.fh).dp (SeqAt.canLay_of_shaped h2), h1, h2, q (.bl _) F1 H1 (.refl g1.fh) rfl⟩
theorem c_ne (hu : X.A.units + 64 < cLine) (ha : DE X a σ F H d1) (hb : DE X b σ F H d2) (h1 : SeqAt.shaped d1 = true) (h2 : SeqAt.shaped d2 = true) : DC X .NotEq a b σ F H (!PyData.eqv d1 d2) :=
  c_cmp (op_neD hu) (nomark _) ha hb fun x y F1 H1 g1 hx hy Q q => ⟨d1, d2, (hx.mono g1.fh).dp (SeqAt.canLay_of_shaped h1), (hy.mono g1.fh).dp (SeqAt.canLay_of_shaped h2), h1, h2, q (.bl _) F1 H1 (.refl g1.fh) rfl⟩
theorem c_eqI (ha : DE X a σ F H (.int i)) (hb : DE X b σ F H (.int j)) : DC X .Eq a b σ F H (decide (i = j)) :=
  c_cmp op_eq (nomark _) ha hb fun x y F1 H1 g1 hx hy Q q => by
    obtain rfl : x = .int i := hx
    obtain rfl : y = .int j := hy
    exact ⟨rfl, q _ F1 H1 (.refl g1.fh) (by show V.bl _ = V.bl _; simp)⟩
theorem c_neI (ha : DE X a σ F H (.int i)) (hb : DE X b σ F H (.int j)) : DC X .NotEq a b σ F H (!decide (i = j)) :=
  c_cmp op_ne (nomark _) ha hb fun x y F1 H1 g1 hx hy Q q => by
    obtain rfl : x = .int i := hx
    obtain rfl : y = .int j := hy
    exact ⟨rfl, q _ F1 H1 (.refl g1.fh) (by show V.bl _ = V.bl _; simp)⟩
theorem c_eqS (ha : DE X a σ F H (.str x)) (hb : DE X b σ F H (.str y)) : DC X .Eq a b σ F H (decide (x = y)) :=
  c_cmp op_eq (nomark _) ha hb fun x' y' F1 H1 g1 hx hy Q q => by
    obtain rfl : x' = .str x := hx
    obtain rfl : y' = .str y := hy
    exact ⟨rfl, q _ F1 H1 (.refl g1.fh) (by show V.bl _ = V.bl _; simp)⟩
theorem c_neS (ha : DE X a σ F H (.str x)) (hb : DE X b σ F H (.str y)) : DC X .NotEq a b σ F H (!decide (x = y)) :=
  c_cmp op_ne (nomark _) ha hb fun x' y' F1 H1 g1 hx hy Q q => by
    obtain rfl : x' = .str x := hx
    obtain rfl : y' = .str y := hy
    exact ⟨rfl, q _ F1 H1 (.refl g1.fh) (by show V.bl _ = V.bl _; simp)⟩
theorem c_eqB (ha : DE X a σ F H (.bool bb)) (hb : DE X b σ F H (.bool cc)) : DC X .Eq a b σ F H (decide (bb = cc)) :=
  c_cmp op_eq (nomark _) ha hb fun x' y' F1 H1 g1 hx hy Q q => by
    obtain rfl : x' = .bl bb := hx
    obtain rfl : y' = .bl cc := hy
    exact ⟨rfl, q _ F1 H1 (.refl g1.fh) (by show V.bl _ = V.bl _; simp)⟩
theorem c_neB (ha : DE X a σ F H (.bool bb)) (hb : DE X b σ F H (.bool cc)) : DC X .NotEq a b σ F H (!decide (bb = cc)) :=
  c_cmp op_ne (nomark _) ha hb fun x' y' F1 H1 g1 hx hy Q q => by
    obtain rfl : x' = .bl bb := hx
    obtain rfl : y' = .bl cc := hy
    exact ⟨rfl, q _ F1 H1 (.refl g1.fh) (by show V.bl _ = V.bl _; simp)⟩
/-! ### truth -/
theorem dt_val (h : DE X e σ F H (.bool bb)) (he : ∀ whole, isTrue e X.env whole = (do let v ← whole; standAt e.pos; holding [v] (truthy v)) := by intro _; rfl) : DT X e σ F H bb := fun F1 H1 g Q q =>
  wt_of (pt_val pe_we he) (h F1 H1 g _ fun v F2 H2 g2 hv => ⟨bb, hv, q F2 H2 g2⟩)
theorem DT.of_w (h : DW X e σ F H bb) : DT X e σ F H bb := fun F1 H1 g Q q => wt_of (PW.pt pw_ww) (h F1 H1 g Q q)
theorem dt_not (h : DT X a σ F H bb) : DT X (.UnaryOp .Not a pos) σ F H (!bb) := fun F1 H1 g Q q => wt_of (pt_not pt_wt) (h F1 H1 g _ fun F2 H2 g2 => q F2 H2 g2)
theorem dw_and1 (h : DT X a σ F H bb) : DW X (.BoolOp .And [a] pos) σ F H bb := fun F1 H1 g Q q => ww_of (pw_and1 pt_wt) (h F1 H1 g Q q)
theorem dt_is_w (h : DW X e σ F H bb) (q : bb = cc) : DW X e σ F H cc := q ▸ h
theorem dw_or1 (h : DT X a σ F H bb) : DW X (.BoolOp .Or [a] pos) σ F H bb := fun F1 H1 g Q q => ww_of (pw_or1 pt_wt) (h F1 H1 g Q q)
theorem dw_and (h : DT X a σ F H bb) (h2 : bb = true → DW X (.BoolOp .And (b :: es) pos) σ F H cc) : DW X (.BoolOp .And (a :: b :: es) pos) σ F H (bb && cc) := fun F1 H1 g Q q =>
  ww_of (pw_and pt_wt pw_ww) (h F1 H1 g _ fun F2 H2 g2 => by
    cases bb with
    | true => exact iteT (h2 rfl F2 H2 (g.trans g2) _ fun F3 H3 g3 => q F3 H3 (g2.trans g3))
    | false => exact iteF (q F2 H2 g2))
theorem dw_or (h : DT X a σ F H bb) (h2 : bb = false → DW X (.BoolOp .Or (b :: es) pos) σ F H cc) : DW X (.BoolOp .Or (a :: b :: es) pos) σ F H (bb || cc) := fun F1 H1 g Q q =>
  ww_of (pw_or pt_wt pw_ww) (h F1 H1 g _ fun F2 H2 g2 => by
    cases bb with
    | true => exact iteT (q F2 H2 g2)
    | false => exact iteF (h2 rfl F2 H2 (g.trans g2) _ fun F3 H3 g3 => q F3 H3 (g2.trans g3)))
theorem de_one {op} (h : DE X a σ F H d) : DE X (.BoolOp op [a] pos) σ F H d := fun F1 H1 g Q q => we_of (pe_one pe_we) (h F1 H1 g Q q)
theorem de_and (h : DE X a σ F H (.bool bb)) (h2 : bb = true → DE X (.BoolOp .And (b :: es) pos) σ F H (.bool cc)) : DE X (.BoolOp .And (a :: b :: es) pos) σ F H (.bool (bb && cc)) := fun F1 H1 g Q q =>
  we_of (pe_and pe_we pe_we) (h F1 H1 g _ fun v F2 H2 g2 hv => ⟨bb, hv, by
    cases bb with
    | true => exact iteT (h2 rfl F2 H2 (g.trans g2) _ fun w F3 H3 g3 hw => q w F3 H3 (g2.trans g3) hw)
    | false => exact iteF (q _ F2 H2 g2 rfl)⟩)
theorem de_or (h : DE X a σ F H (.bool bb)) (h2 : bb = false → DE X (.BoolOp .Or (b :: es) pos) σ F H (.bool cc)) : DE X (.BoolOp .Or (a :: b :: es) pos) σ F H (.bool (bb || cc)) := fun F1 H1 g Q q =>
  we_of (pe_or pe_we pe_we) (h F1 H1 g _ fun v F2 H2 g2 hv => ⟨bb, hv, by
    cases bb with
    | true => exact iteT (q _ F2 H2 g2 rfl)
    | false => exact iteF (h2 rfl F2 H2 (g.trans g2) _ fun w F3 H3 g3 hw => q w F3 H3 (g2.trans g3) hw)⟩)
theorem de_not (h : DE X a σ F H (.bool bb)) : DE X (.UnaryOp .Not a pos) σ F H (.bool (!bb)) := fun F1 H1 g Q q => we_of (pe_not pe_we) (h F1 H1 g _ fun v F2 H2 g2 hv => ⟨bb, hv, q _ F2 H2 g2 rfl⟩)
theorem de_ifExp (hc : DT X c σ F H bb) (ha : bb = true → DE X a σ F H d) (hb : bb = false → DE X b σ F H d) : DE X (.IfExp c a b pos) σ F H d := fun F1 H1 g Q q =>
  we_of (pe_ifExp pt_wt pe_we pe_we) (hc F1 H1 g _ fun F2 H2 g2 => by
    cases bb with
    | true => exact iteT (ha rfl F2 H2 (g.trans g2) _ fun w F3 H3 g3 hw => q w F3 H3 (g2.trans g3) hw)
    | false => exact iteF (hb rfl F2 H2 (g.trans g2) _ fun w F3 H3 g3 hw => q w F3 H3 (g2.trans g3) hw))
/-! ### argument lists, displays -/
theorem dl_nil : DL X [] σ F H [] := fun F1 H1 g Q q => wa_of pa_nil (q [] F1 H1 (.refl g.fh) daAll_nil)
theorem dl_cons (h : DE X e σ F H d) (t : DL X es σ F H ds) (hs : starEach (e :: es) X.env = (false, eval e X.env) :: starEach es X.env := by rfl) : DL X (e :: es) σ F H (d :: ds) := fun F1 H1 g Q q =>
  wa_of (pa_cons pe_we pa_wa hs) (h F1 H1 g _ fun v F2 H2 g2 hv => t F2 H2 (g.trans g2) _ fun vs F3 H3 g3 hvs => q (v :: vs) F3 H3 (g2.trans g3) (daAll_cons (g3.da hv) hvs))
theorem de_lst (h : DL X es σ F H ds) (hz : ds.length ≤ sizeLine := by decide) : DE X (.List es pos) σ F H (.list ds) := fun F1 H1 g Q q =>
  we_of (pe_lst pa_wa) (h F1 H1 g _ fun vs F2 H2 g2 hvs => ⟨by rw [hvs.length]; exact hz, fun p hp => q (.ref p) (upd F2 p (.lst vs)) _ (g2.shut hp) ⟨p, vs, rfl, upd_same, hvs.mono (same_upd (g2.fh.free hp))⟩⟩)
theorem de_tup {x1} (h : DL X es σ F H ds) (hz : ds.length ≤ sizeLine := by decide) : DE X (.Tuple es x1 pos) σ F H (.tuple ds) := fun F1 H1 g Q q =>
  we_of (pe_tup pa_wa) (h F1 H1 g _ fun vs F2 H2 g2 hvs => ⟨by rw [hvs.length]; exact hz, fun p hp => q (.ref p) (upd F2 p (.tup vs)) _ (g2.shut hp) ⟨p, vs, rfl, upd_same, hvs.mono (same_upd (g2.fh.free hp))⟩⟩)
/-! ### items -/
theorem ixN_len {n m : Nat} {i : Int} (h : n = m) : ixN n i = ixN m i := by rw [h]
theorem DaAll.atI {H : Hp} {ds : List PyData} {vs : List V} {i : Int} {d : PyData} (h : DaAll H ds vs) (e : L2.atI ds i = some d) : ∃ v, L2.atI vs i = some v ∧ Da H d v := by
  unfold L2.atI at e ⊢
  rw [h.length]
  cases hj : ixN ds.length i with
  | none => rw [hj] at e; simp at e
  | some j =>
    rw [hj] at e
    exact h.get (by simpa using e)
theorem de_ixT (ha : DE X a σ F H (.tuple ds)) (hb : DE X b σ F H (.int i)) (h : L2.atI ds i = some d) (hs : PlainIx b := by exact fun _ _ => rfl) : DE X (.Subscript a b pos) σ F H d := fun F1 H1 g Q q =>
  we_of (pe_ix ix_tup pe_we pe_we hs) (ha F1 H1 g _ fun x F2 H2 g2 hx => hb F2 H2 (g.trans g2) _ fun y F3 H3 g3 hy => by
    obtain ⟨p, vs, rfl, h1, h2⟩ := hx
    obtain ⟨v, hv, hd⟩ := h2.atI h
    exact ⟨p, vs, i, v, rfl, hy, SqT.of (g3.same _ _ h1), hv, q v F3 H3 (g2.trans g3) (g3.da hd)⟩)
theorem de_ixL (ha : DE X a σ F H (.list ds)) (hb : DE X b σ F H (.int i)) (h : L2.atI ds i = some d) (hs : PlainIx b := by exact fun _ _ => rfl) : DE X (.Subscript a b pos) σ F H d := fun F1 H1 g Q q =>
  we_of (pe_ix ix_list pe_we pe_we hs) (ha F1 H1 g _ fun x F2 H2 g2 hx => hb F2 H2 (g.trans g2) _ fun y F3 H3 g3 hy => by
    obtain ⟨p, vs, rfl, h1, h2⟩ := hx
    obtain ⟨v, hv, hd⟩ := h2.atI h
    exact ⟨p, vs, i, v, rfl, hy, SqL.of (g3.same _ _ h1), hv, q v F3 H3 (g2.trans g3) (g3.da hd)⟩)
theorem de_ixS {z : Str} {cp : Nat} (ha : DE X a σ F H (.str z)) (hb : DE X b σ F H (.int i)) (hz : z.length ≤ sizeLine) (h : L2.atI z.cps.toList i = some cp) (hs : PlainIx b := by exact fun _ _ => rfl) : DE X (.Subscript a b pos) σ F H (.str ⟨#[cp]⟩) := fun F1 H1 g Q q =>
  we_of (pe_ix ix_str pe_we pe_we hs) (ha F1 H1 g _ fun x F2 H2 g2 hx => hb F2 H2 (g.trans g2) _ fun y F3 H3 g3 hy => by
    exact ⟨z, i, cp, hx, hy, hz, h, q _ F3 H3 (g2.trans g3) rfl⟩)
/-! ### calls of what is built in -/
theorem de_callB {id : String} {r : List V → Hp → VK → Prop} (hc : CallR X (.builtin id) r) (hg : Gl X x) (hm : X.mg x = none) (hv : bootBuiltins x = some (.builtin id)) (ha : DL X (e :: es) σ F H ds)
    (hr : ∀ vs F1 H1, Gr F H F1 H1 → DaAll F1 ds vs → ∀ Q : VK, (∀ v F2 H2, Gr F1 H1 F2 H2 → Da F2 d v → Q v H2) → r vs H1 Q)
    (n : Nm x) (l : Pl X e es pos) : DE X (.Call (.Name x p) (e :: es) [] pos) σ F H d := fun F1 H1 g Q q =>
  we_of (pe_callB hc hg hm hv pa_wa n.hn n.hdb l.he l.hpl) (ha F1 H1 g _ fun vs F2 H2 g2 hvs => hr vs F2 H2 (g.trans g2) hvs Q fun v F3 H3 g3 hv => q v F3 H3 (g2.trans g3) hv)
theorem de_callTy {T : String} {r : List V → Hp → VK → Prop} (hc : CallR X (.type T) r) (hg : Gl X x) (hm : X.mg x = none) (hv : bootBuiltins x = some (.type T)) (ha : DL X (e :: es) σ F H ds)
    (hr : ∀ vs F1 H1, Gr F H F1 H1 → DaAll F1 ds vs → ∀ Q : VK, (∀ v F2 H2, Gr F1 H1 F2 H2 → Da F2 d v → Q v H2) → r vs H1 Q)
    (n : Nm x) (l : Pl X e es pos) : DE X (.Call (.Name x p) (e :: es) [] pos) σ F H d := fun F1 H1 g Q q =>
  we_of (pe_callTy hc hg hm hv pa_wa n.hn n.hdb l.he l.hpl) (ha F1 H1 g _ fun vs F2 H2 g2 hvs => hr vs F2 H2 (g.trans g2) hvs Q fun v F3 H3 g3 hv => q v F3 H3 (g2.trans g3) hv)
theorem daAll1 {H : Hp} {vs : List V} (h : DaAll H [d] vs) : ∃ v, vs = [v] ∧ Da H d v := by
  obtain ⟨v, r, rfl, h1, h2⟩ := h
  obtain rfl : r = [] := h2
  exact ⟨v, rfl, h1⟩
theorem daAll2 {H : Hp} {vs : List V} (h : DaAll H [d1, d2] vs) : ∃ v u, vs = [v, u] ∧ Da H d1 v ∧ Da H d2 u := by
  obtain ⟨v, r, rfl, h1, h2⟩ := h
  obtain ⟨u, rfl, h3⟩ := daAll1 h2
  exact ⟨v, u, rfl, h1, h3⟩
theorem de_lenL (hm : X.mg "len" = none) (ha : DE X e σ F H (.list ds)) (hg : Gl X "len" := by rfl) (l : Pl X e [] pos := by exact ⟨rfl, rfl⟩) : DE X (.Call (.Name "len" p) [e] [] pos) σ F H (.int ds.length) :=
  de_callB call_len hg hm PySem.boot_len (dl_cons ha dl_nil l.he) (fun vs F1 H1 g1 hv Q q => by
    obtain ⟨v, rfl, a, xs, rfl, h1, h2⟩ := daAll1 hv
    exact ⟨_, xs.length, rfl, .inl ⟨xs, SqL.of (g1.fh _ _ h1), rfl⟩, q _ F1 H1 (.refl g1.fh) (by rw [h2.length]; rfl)⟩) ⟨by decide, by decide⟩ l
theorem de_lenT (hm : X.mg "len" = none) (ha : DE X e σ F H (.tuple ds)) (hg : Gl X "len" := by rfl) (l : Pl X e [] pos := by exact ⟨rfl, rfl⟩) : DE X (.Call (.Name "len" p) [e] [] pos) σ F H (.int ds.length) :=
  de_callB call_len hg hm PySem.boot_len (dl_cons ha dl_nil l.he) (fun vs F1 H1 g1 hv Q q => by
    obtain ⟨v, rfl, a, xs, rfl, h1, h2⟩ := daAll1 hv
    exact ⟨_, xs.length, rfl, .inr ⟨xs, SqT.of (g1.fh _ _ h1), rfl⟩, q _ F1 H1 (.refl g1.fh) (by rw [h2.length]; rfl)⟩) ⟨by decide, by decide⟩ l
theorem de_lenS {z : Str} (hm : X.mg "len" = none) (ha : DE X e σ F H (.str z)) (hz : z.length ≤ sizeLine) (hg : Gl X "len" := by rfl) (l : Pl X e [] pos := by exact ⟨rfl, rfl⟩) : DE X (.Call (.Name "len" p) [e] [] pos) σ F H (.int z.length) :=
  de_callB call_len hg hm PySem.boot_len (dl_cons ha dl_nil l.he) (fun vs F1 H1 g1 hv Q q => by
    obtain ⟨v, rfl, h1⟩ := daAll1 hv
    obtain rfl : v = .str z := h1
    exact ⟨_, z.length, rfl, ⟨hz, rfl⟩, q _ F1 H1 (.refl g1.fh) rfl⟩) ⟨by decide, by decide⟩ l
theorem de_listL (hm : X.mg "list" = none) (ha : DE X e σ F H (.list ds)) (hg : Gl X "list" := by rfl) (l : Pl X e [] pos := by exact ⟨rfl, rfl⟩) : DE X (.Call (.Name "list" p) [e] [] pos) σ F H (.list ds) :=
  de_callTy call_list_of hg hm (by decide +kernel) (dl_cons ha dl_nil l.he) (fun vs F1 H1 g1 hv Q q => by
    obtain ⟨v, rfl, a, xs, rfl, h1, h2⟩ := daAll1 hv
    exact ⟨_, xs, rfl, .inl (SqL.of (g1.fh _ _ h1)), fun l hl => q _ (upd F1 l (.lst xs)) _ ((Gr.refl g1.fh).shut hl) ⟨l, xs, rfl, upd_same, h2.mono (same_upd (g1.fh.free hl))⟩⟩) ⟨by decide, by decide⟩ l
theorem de_cat {ds es : List PyData} (ha : DE X a σ F H (.list ds)) (hb : DE X b σ F H (.list es)) (hz : ds.length + es.length ≤ sizeLine) : DE X (.BinOp a .Add b pos) σ F H (.list (ds ++ es)) :=
  de_op op_cat ha hb fun x y F1 H1 g1 hx hy Q q => by
    obtain ⟨p, xs, rfl, h1, h2⟩ := hx
    obtain ⟨r, ys, rfl, h3, h4⟩ := hy
    exact ⟨p, r, xs, ys, rfl, rfl, g1.fh _ _ h1, g1.fh _ _ h3, by rw [h2.length, h4.length]; exact hz, fun l hl => q _ (upd F1 l (.lst (xs ++ ys))) _ ((Gr.refl g1.fh).shut hl) ⟨l, xs ++ ys, rfl, upd_same, (h2.append h4).mono (same_upd (g1.fh.free hl))⟩⟩
theorem daAll_rep {H : Hp} {vs : List V} (h : DaAll H ds vs) : ∀ n : Nat, DaAll H (List.replicate n ds).flatten (List.replicate n vs).flatten
  | 0 => daAll_nil
  | n + 1 => by
    rw [List.replicate_succ, List.replicate_succ, List.flatten_cons, List.flatten_cons]
    exact h.append (daAll_rep h n)
theorem de_rep {n : Int} (ha : DE X a σ F H (.list ds)) (hb : DE X b σ F H (.int n)) (h1 : -(2 ^ 63) ≤ n) (h2 : n < 2 ^ 63) (hz : ds.length * n.toNat ≤ sizeLine) : DE X (.BinOp a .Mult b pos) σ F H (.list (List.replicate n.toNat ds).flatten) :=
  de_op op_rep ha hb fun x y F1 H1 g1 hx hy Q q => by
    obtain ⟨p, xs, rfl, h3, h4⟩ := hx
    exact ⟨p, n, xs, rfl, hy, g1.fh _ _ h3, h1, h2, by rw [h4.length]; exact hz, fun l hl => q _ (upd F1 l (.lst (List.replicate n.toNat xs).flatten)) _ ((Gr.refl g1.fh).shut hl) ⟨l, _, rfl, upd_same, (daAll_rep h4 _).mono (same_upd (g1.fh.free hl))⟩⟩
theorem de_addS {x y : Str} (ha : DE X a σ F H (.str x)) (hb : DE X b σ F H (.str y)) (hz : x.length + y.length ≤ sizeLine) : DE X (.BinOp a .Add b pos) σ F H (.str (x ++ y)) :=
  de_op op_add_str ha hb fun x' y' F1 H1 g1 hx hy Q q => ⟨x, y, hx, hy, hz, q _ F1 H1 (.refl g1.fh) rfl⟩
/-! ### isinstance -/
def tyName : PyData → String
  | .none => "NoneType"
  | .bool _ => "bool"
  | .int _ => "int"
  | .str _ => "str"
  | .list _ => "list"
  | .tuple _ => "tuple"
  | .dict _ => "dict"
theorem da_ty {K : PySem.W.Frag} {H : Hp} {d : PyData} {v : V} (h : Da H d v) : TyX K H v (.type (tyName d)) := by
  cases d with
  | none => obtain rfl : v = .non := h; exact .base .non
  | bool c => obtain rfl : v = .bl c := h; exact .base (.bl c)
  | int c => obtain rfl : v = .int c := h; exact .base (.int c)
  | str c => obtain rfl : v = .str c := h; exact .base (.str c)
  | list ds => obtain ⟨p, vs, rfl, h1, h2⟩ := h; exact .base (.lst h1)
  | tuple ds => obtain ⟨p, vs, rfl, h1, h2⟩ := h; exact .base (.tup h1)
  | dict _ => obtain ⟨p, es, rfl, h1, h2⟩ := h; exact h1.elim (fun z => .base (.dK z)) fun ⟨_, z⟩ => .fDict z
theorem de_isi {T : Str} {tn : String} {q1 q2 : Pos} (hm : X.mg "isinstance" = none) (hmT : X.mg T = none) (ha : DE X e σ F H d) (hb : kitB (tyName d) tn = some bb) (hv : bootBuiltins T = some (.type tn) := by decide +kernel) (hg : Gl X "isinstance" := by rfl) (hgT : Gl X T := by rfl) (n : Nm T := by exact ⟨by decide, by decide⟩)
    (l : Pl X e [.Name T pos] q2 := by exact ⟨rfl, rfl⟩) (l2 : starEach [.Name T pos] X.env = [(false, eval (.Name T pos) X.env)] := by rfl) : DE X (.Call (.Name "isinstance" q1) [e, .Name T pos] [] q2) σ F H (.bool bb) := fun F1 H1 g Q q =>
  we_of (pe_callB call_isi hg hm (by decide +kernel) (pa_cons pe_we (pa_cons (pe_bltn (v := .ty tn) hgT hmT hv rfl n.hn n.hdb) pa_nil l2) l.he) (by decide) (by decide) l.he l.hpl) (ha F1 H1 g _ fun v F2 H2 g2 hv2 =>
    ⟨v, .ty tn, .type (tyName d), .type tn, bb, rfl, .ty tn, da_ty (hv2.mono g2.fh), kit_ty hb, q _ F2 H2 g2 rfl⟩)
end
end Kr

/-! layer Kr3 -/
namespace Kr
open PySem L2
/-! ## targets -/
def WG (X : Cx) (tg : Expr) : TG := fun v σ H Q => ∀ (pins : List (Addr × Obj)) (s : Shared) (u : Value), Inv X pins σ H s → RelV v u →
  wpAny (model X.prog X.w) X.A (assign tg X.env u) (fun _ s' => ∃ σ' H', Inv X pins σ' H' s' ∧ Q σ' H') X.xe s
theorem pg_wg {X : Cx} {tg : Expr} : PG X tg (WG X tg) := ⟨fun pins s σ H v u Q I r h => h pins s u I r⟩
theorem wg_of {X : Cx} {tg : Expr} {t : TG} {v : V} {σ : St} {H : Hp} {Q : St → Hp → Prop} (h : PG X tg t) (q : t v σ H Q) : WG X tg v σ H Q := fun pins s u I r => h.run pins s σ H v u Q I r q
section
variable {X : Cx} {σ : St} {F H : Hp} {v : V} {Q : St → Hp → Prop} {x : Str} {pos : Pos} {t1 t2 t3 : Expr} {d1 d2 d3 : PyData}
theorem wg_name (i : Nat) (hN : X.N.Nodup) (q : Q (σ.set i (some v)) H) (hi : X.N[i]? = some x := by rfl) (hx : Loc X.env.scope x := by first | exact .inl rfl | exact .inr rfl) (hf : X.fn x = true ∨ X.env.scope.names.lookup x = some .local := by first | exact .inl rfl | exact .inr rfl) : WG X (.Name x pos) v σ H Q := wg_of (pg_name hN hi hx hf) q
theorem wg_tup2 {k : Nat} (hc : X.calm = true) (h : Da F (.tuple [d1, d2]) v) (s : Same F H) (q : ∀ v1 v2, Da F d1 v1 → Da F d2 v2 → WG X t1 v1 σ H (fun σ1 H1 => WG X t2 v2 σ1 H1 Q))
    (hs : (assignEach [t1, t2] X.env).map (·.2) = assign t1 X.env :: (assignEach [t2] X.env).map (·.2) := by rfl) (hs2 : (assignEach [t2] X.env).map (·.2) = assign t2 X.env :: (assignEach [] X.env).map (·.2) := by rfl)
    (hn : (assignEach [t1, t2] X.env).length = 2 := by rfl) (hst : (assignEach [t1, t2] X.env).findIdx? (·.1) = none := by rfl) : WG X (.Tuple [t1, t2] k pos) v σ H Q := by
  obtain ⟨a, xs, rfl, h1, h2⟩ := h
  obtain ⟨v1, v2, rfl, e1, e2⟩ := daAll2 h2
  refine wg_of (pg_tup hc (pgs_cons pg_wg (pgs_cons pg_wg pgs_nil hs2) hs) hn hst) ⟨a, [v1, v2], rfl, SqT.of (s _ _ h1), rfl, v1, [v2], rfl, ?_⟩
  intro pins sh u I r
  refine thn (q v1 v2 e1 e2 pins sh u I r) fun _ s' ⟨σ1, H1, I1, q1⟩ => ⟨σ1, H1, I1, v2, [], rfl, ?_⟩
  intro pins' sh' u' I' r'
  exact thn (q1 pins' sh' u' I' r') fun _ s2 ⟨σ2, H2, I2, q2⟩ => ⟨σ2, H2, I2, rfl, q2⟩
theorem wg_tup3 {k : Nat} (hc : X.calm = true) (h : Da F (.tuple [d1, d2, d3]) v) (s : Same F H) (q : ∀ v1 v2 v3, Da F d1 v1 → Da F d2 v2 → Da F d3 v3 → WG X t1 v1 σ H (fun σ1 H1 => WG X t2 v2 σ1 H1 (fun σ2 H2 => WG X t3 v3 σ2 H2 Q)))
    (hs : (assignEach [t1, t2, t3] X.env).map (·.2) = assign t1 X.env :: (assignEach [t2, t3] X.env).map (·.2) := by rfl) (hs2 : (assignEach [t2, t3] X.env).map (·.2) = assign t2 X.env :: (assignEach [t3] X.env).map (·.2) := by rfl) (hs3 : (assignEach [t3] X.env).map (·.2) = assign t3 X.env :: (assignEach [] X.env).map (·.2) := by rfl)
    (hn : (assignEach [t1, t2, t3] X.env).length = 3 := by rfl) (hst : (assignEach [t1, t2, t3] X.env).findIdx? (·.1) = none := by rfl) : WG X (.Tuple [t1, t2, t3] k pos) v σ H Q := by
  obtain ⟨a, xs, rfl, h1, v1, r, rfl, e1, h2⟩ := h
  obtain ⟨v2, v3, rfl, e2, e3⟩ := daAll2 h2
  refine wg_of (pg_tup hc (pgs_cons pg_wg (pgs_cons pg_wg (pgs_cons pg_wg pgs_nil hs3) hs2) hs) hn hst) ⟨a, [v1, v2, v3], rfl, SqT.of (s _ _ h1), rfl, v1, [v2, v3], rfl, ?_⟩
  intro pins sh u I r
  refine thn (q v1 v2 v3 e1 e2 e3 pins sh u I r) fun _ s' ⟨σ1, H1, I1, q1⟩ => ⟨σ1, H1, I1, v2, [v3], rfl, ?_⟩
  intro pins' sh' u' I' r'
  refine thn (q1 pins' sh' u' I' r') fun _ s2 ⟨σ2, H2, I2, q2⟩ => ⟨σ2, H2, I2, v3, [], rfl, ?_⟩
  intro pins3 sh3 u3 I3 r3
  exact thn (q2 pins3 sh3 u3 I3 r3) fun _ s4 ⟨σ4, H4, I4, q4⟩ => ⟨σ4, H4, I4, rfl, q4⟩
/-- o[i] = v of an open list -/
theorem wg_sub {o i : Expr} {l : Addr} {xs : List V} {k : Int} {j : Nat} (ho : VE X o σ F H (.ref l)) (hi : DE X i σ F H (.int k)) (s : Same F H) (hl : H l = some (.lst xs)) (hj : ixN xs.length k = some j) (q : ∀ F2 H2, Gr F H F2 H2 → Q σ (upd H2 l (.lst (xs.set j v))))
    (ha : ∀ v, assign (.Subscript o i pos) X.env v = (do
      let ov ← holding [v] (eval o X.env)
      let iv ← holding [v, ov] (eval i X.env)
      standAt pos
      holding [v, ov, iv] (setItem ov iv v)
      release [v, ov, iv] []) := by intro _; rfl) : WG X (.Subscript o i pos) v σ H Q :=
  wg_of (pg_sub pe_we pe_we set_list ha) (ho F H (.refl s) _ fun F2 H2 g2 => hi F2 H2 g2 _ fun y F3 H3 g3 hy => ⟨l, xs, k, j, rfl, hy, (g2.trans g3).hh _ _ hl, hj, q F3 H3 (g2.trans g3)⟩)
end

/-! ## what is walked -/
def Walks (J : It) (F2 : Hp) (ds : List PyData) : Prop := ∀ F3 H3, Same F2 F3 → Same F3 H3 →
  (∀ (i : Nat) d, ds[i]? = some d → J.go i H3 ∧ ∀ x H4, J.yld i H3 x H4 → ∃ F4, Gr F3 H3 F4 H4 ∧ Da F4 d x) ∧ J.stop ds.length H3
/-- .. leaving the heap at each turn -/
def Walks0 (J : It) (F2 : Hp) (ds : List PyData) : Prop := ∀ F3 H3, Same F2 F3 → Same F3 H3 →
  (∀ (i : Nat) d, ds[i]? = some d → J.go i H3 ∧ ∀ x H4, J.yld i H3 x H4 → H4 = H3 ∧ Da F3 d x) ∧ J.stop ds.length H3
theorem Walks0.w {J : It} {F2 : Hp} {ds : List PyData} (h : Walks0 J F2 ds) : Walks J F2 ds := fun F3 H3 s1 s2 => ⟨fun i d e => ⟨((h F3 H3 s1 s2).1 i d e).1, fun x H4 y => by
  obtain ⟨rfl, hd⟩ := ((h F3 H3 s1 s2).1 i d e).2 x H4 y
  exact ⟨F3, .refl s2, hd⟩⟩, (h F3 H3 s1 s2).2⟩
def DI (X : Cx) (tg iter : Expr) (σ : St) (F H : Hp) (ds : List PyData) : Prop := ∀ F1 H1, Gr F H F1 H1 → ∀ R : It → Hp → Prop, (∀ J F2 H2, Gr F1 H1 F2 H2 → Walks J F2 ds → R J H2) → WI X tg iter σ H1 R
def DI0 (X : Cx) (tg iter : Expr) (σ : St) (F H : Hp) (ds : List PyData) : Prop := ∀ F1 H1, Gr F H F1 H1 → ∀ R : It → Hp → Prop, (∀ J F2 H2, Gr F1 H1 F2 H2 → Walks0 J F2 ds → R J H2) → WI X tg iter σ H1 R
theorem DI0.i {X : Cx} {tg iter : Expr} {σ : St} {F H : Hp} {ds : List PyData} (h : DI0 X tg iter σ F H ds) : DI X tg iter σ F H ds := fun F1 H1 g R q => h F1 H1 g R fun J F2 H2 g2 w => q J F2 H2 g2 w.w
theorem getV {H : Hp} {ds : List PyData} {xs : List V} {i : Nat} {d : PyData} {x : V} (h : DaAll H ds xs) (e : ds[i]? = some d) (ex : xs[i]? = some x) : Da H d x := by
  obtain ⟨v, hv, hd⟩ := h.get e
  rw [ex] at hv; cases hv; exact hd
section
variable {X : Cx} {tg e e2 : Expr} {σ : St} {F H : Hp} {ds es : List PyData} {i j : Int} {pos p : Pos} {x : Str}
theorem di_list (h : DE X e σ F H (.list ds)) : DI0 X tg e σ F H ds := fun F1 H1 g R q => wi_of (pi_list pe_we) (h F1 H1 g _ fun v F2 H2 g2 hv => by
  obtain ⟨a, xs, rfl, h1, h2⟩ := hv
  refine ⟨a, rfl, ⟨xs, SqL.of (g2.fh _ _ h1)⟩, q _ F2 H2 g2 fun F3 H3 s1 s2 => ⟨fun i d e => ?_, xs, SqL.of (s2 _ _ (s1 _ _ h1)), by rw [h2.length]; exact Nat.le_refl _⟩⟩
  obtain ⟨v, hv, hd⟩ := h2.get e
  exact ⟨⟨xs, v, SqL.of (s2 _ _ (s1 _ _ h1)), hv⟩, fun x H4 y => ⟨y.1, (getV h2 e (y.2 xs (SqL.of (s2 _ _ (s1 _ _ h1))))).mono s1⟩⟩)
theorem di_tup (h : DE X e σ F H (.tuple ds)) : DI0 X tg e σ F H ds := fun F1 H1 g R q => wi_of (pi_tup pe_we) (h F1 H1 g _ fun v F2 H2 g2 hv => by
  obtain ⟨a, xs, rfl, h1, h2⟩ := hv
  refine ⟨a, rfl, ⟨xs, SqT.of (g2.fh _ _ h1)⟩, q _ F2 H2 g2 fun F3 H3 s1 s2 => ⟨fun i d e => ?_, xs, SqT.of (s2 _ _ (s1 _ _ h1)), by rw [h2.length]; exact Nat.le_refl _⟩⟩
  obtain ⟨v, hv, hd⟩ := h2.get e
  exact ⟨⟨xs, v, SqT.of (s2 _ _ (s1 _ _ h1)), hv⟩, fun x H4 y => ⟨y.1, (getV h2 e (y.2 xs (SqT.of (s2 _ _ (s1 _ _ h1))))).mono s1⟩⟩)
def signsD (z : Str) : List PyData := z.cps.toList.map fun c => .str ⟨#[c]⟩
theorem di_str {z : Str} (h : DE X e σ F H (.str z)) : DI0 X tg e σ F H (signsD z) := fun F1 H1 g R q => wi_of (pi_str pe_we) (h F1 H1 g _ fun v F2 H2 g2 hv => by
  refine ⟨z, hv, q _ F2 H2 g2 fun F3 H3 s1 s2 => ⟨fun i d e => ?_, by show z.cps.size ≤ _; simp [signsD]⟩⟩
  unfold signsD at e
  rw [List.getElem?_map] at e
  cases hc : z.cps.toList[i]? with
  | none => rw [hc] at e; simp at e
  | some c =>
    rw [hc] at e
    have e' : PyData.str ⟨#[c]⟩ = d := by simpa using e
    subst e'
    have hlt : i < z.cps.size := by
      have := (List.getElem?_eq_some_iff.mp hc).1
      simpa using this
    refine ⟨hlt, fun x H4 y => ⟨y.1, ?_⟩⟩
    obtain ⟨c', hc', rfl⟩ := y.2
    have : some c' = some c := by rw [← hc', ← hc]; simp
    cases this
    rfl)
/-- the intsD from i on, below j -/
def intsD (i j : Int) : List PyData := (List.range (j - i).toNat).map fun k => .int (i + (k : Nat))
theorem intsD_length {i j : Int} : (intsD i j).length = (j - i).toNat := by simp [intsD]
theorem intsD_get {i j : Int} {k : Nat} {d : PyData} (h : (intsD i j)[k]? = some d) : d = .int (i + k) ∧ k < (j - i).toNat := by
  unfold intsD at h
  rw [List.getElem?_map] at h
  cases hc : (List.range (j - i).toNat)[k]? with
  | none => rw [hc] at h; simp at h
  | some c =>
    rw [hc] at h
    obtain ⟨hl, e⟩ := List.getElem?_eq_some_iff.mp hc
    simp at e hl
    subst e
    simp at h
    exact ⟨h.symm, by omega⟩
theorem walks_rng (i : Int) (n : Nat) {F2 : Hp} {j : Int} (hn : n = (j - i).toNat) : Walks0 (Itr i n) F2 (intsD i j) := fun F3 H3 s1 s2 => ⟨fun k d e => by
  obtain ⟨rfl, hk⟩ := intsD_get e
  exact ⟨by show k < n; omega, fun x H4 y => ⟨y.1, y.2⟩⟩, by show n ≤ _; rw [intsD_length]; omega⟩
theorem di_range1 (hm : X.mg "range" = none) (h : DE X e σ F H (.int j)) (hj : -(2 ^ 62) ≤ j ∧ j < 2 ^ 62) (hg : Gl X "range" := by rfl) (l : Pl X e [] pos := by exact ⟨rfl, rfl⟩) : DI0 X tg (.Call (.Name "range" p) [e] [] pos) σ F H (intsD 0 j) := fun F1 H1 g R q =>
  wi_of (pi_range1 hg hm (pa_cons pe_we pa_nil l.he) (hs := l.he)) (h F1 H1 g _ fun v F2 H2 g2 hv => by
    obtain rfl : v = .int j := hv
    exact ⟨j, rfl, hj.1, hj.2, q _ F2 H2 g2 (walks_rng 0 _ (by simp))⟩)
theorem di_range2 (hm : X.mg "range" = none) (h : DE X e σ F H (.int i)) (h2 : DE X e2 σ F H (.int j)) (hi : -(2 ^ 62) ≤ i ∧ i < 2 ^ 62) (hj : -(2 ^ 62) ≤ j ∧ j < 2 ^ 62) (hg : Gl X "range" := by rfl) (l : Pl X e [e2] pos := by exact ⟨rfl, rfl⟩) (l2 : starEach [e2] X.env = [(false, eval e2 X.env)] := by rfl) :
    DI0 X tg (.Call (.Name "range" p) [e, e2] [] pos) σ F H (intsD i j) := fun F1 H1 g R q =>
  wi_of (pi_range2 hg hm (pa_cons pe_we (pa_cons pe_we pa_nil l2) l.he) (hs := l.he.trans (by rw [l2])) (hs2 := l2)) (h F1 H1 g _ fun v F2 H2 g2 hv => h2 F2 H2 (g.trans g2) _ fun v' F3 H3 g3 hv' => by
    obtain rfl : v = .int i := hv
    obtain rfl : v' = .int j := hv'
    exact ⟨i, j, rfl, ⟨hi.1, hi.2, hj.1, hj.2⟩, q _ F3 H3 (g2.trans g3) (walks_rng i _ rfl)⟩)
def enumsD (ds : List PyData) : List PyData := ds.mapIdx fun k d => .tuple [.int (k : Nat), d]
theorem di_enum {elts : List Expr} {kk : Nat} {tpos : Pos} (hm : X.mg "enumerate" = none) (h : DE X e σ F H (.list ds)) (hg : Gl X "enumerate" := by rfl) (l : starEach [e] X.env = [(false, eval e X.env)] := by rfl) : DI X (.Tuple elts kk tpos) (.Call (.Name "enumerate" p) [e] [] pos) σ F H (enumsD ds) := fun F1 H1 g R q =>
  wi_of (pi_enum hg hm (pa_cons pe_we pa_nil l) l) (h F1 H1 g _ fun v F2 H2 g2 hv => by
    obtain ⟨a, xs, rfl, h1, h2⟩ := hv
    refine ⟨a, xs, rfl, SqL.of (g2.fh _ _ h1), q _ F2 H2 g2 fun F3 H3 s1 s2 => ⟨fun i d e => ?_, xs, SqL.of (s2 _ _ (s1 _ _ h1)), by simp [enumsD, h2.length]⟩⟩
    unfold enumsD at e
    rw [List.getElem?_mapIdx] at e
    cases hc : ds[i]? with
    | none => rw [hc] at e; simp at e
    | some d0 =>
      rw [hc] at e
      have e' : PyData.tuple [.int (i : Nat), d0] = d := by simpa using e
      subst e'
      obtain ⟨v, hv, hd⟩ := h2.get hc
      refine ⟨⟨xs, v, SqL.of (s2 _ _ (s1 _ _ h1)), hv⟩, fun x H4 y => ?_⟩
      obtain ⟨T, x0, rfl, nT, rfl, hx⟩ := y
      have hx0 := (getV h2 hc (hx xs (SqL.of (s2 _ _ (s1 _ _ h1))))).mono s1
      exact ⟨upd F3 T (.tup [.int (i : Nat), x0]), (Gr.refl s2).shut nT, T, _, rfl, upd_same, daAll_cons rfl (daAll_cons (hx0.mono (same_upd (s2.free nT))) daAll_nil)⟩)
def zipsD (ds es : List PyData) : List PyData := (ds.zip es).map fun p => .tuple [p.1, p.2]
theorem di_zip {elts : List Expr} {kk : Nat} {tpos : Pos} (hm : X.mg "zip" = none) (h : DE X e σ F H (.list ds)) (h' : DE X e2 σ F H (.list es)) (hg : Gl X "zip" := by rfl) (l : Pl X e [e2] pos := by exact ⟨rfl, rfl⟩) (l2 : starEach [e2] X.env = [(false, eval e2 X.env)] := by rfl) :
    DI X (.Tuple elts kk tpos) (.Call (.Name "zip" p) [e, e2] [] pos) σ F H (zipsD ds es) := fun F1 H1 g R q =>
  wi_of (pi_zip hg hm (pa_cons pe_we (pa_cons pe_we pa_nil l2) l.he) l.he l.hpl) (h F1 H1 g _ fun v F2 H2 g2 hv => h' F2 H2 (g.trans g2) _ fun v' F3 H3 g3 hv' => by
    obtain ⟨a, xs, rfl, h1, h2⟩ := g3.da hv
    obtain ⟨b, ys, rfl, h3, h4⟩ := hv'
    refine ⟨a, b, xs, ys, rfl, SqL.of (g3.fh _ _ h1), SqL.of (g3.fh _ _ h3), q _ F3 H3 (g2.trans g3) fun F5 H5 s1 s2 => ⟨fun i d e => ?_, xs, ys, SqL.of (s2 _ _ (s1 _ _ h1)), SqL.of (s2 _ _ (s1 _ _ h3)), ?_⟩⟩
    · unfold zipsD at e
      rw [List.getElem?_map] at e
      cases hc : (ds.zip es)[i]? with
      | none => rw [hc] at e; simp at e
      | some pr =>
        rw [hc] at e
        have e' : PyData.tuple [pr.1, pr.2] = d := by simpa using e
        subst e'
        have hc' := List.getElem?_zip_eq_some.mp hc
        obtain ⟨v, hv, hd⟩ := h2.get hc'.1
        obtain ⟨v2, hv2, hd2⟩ := h4.get hc'.2
        refine ⟨⟨xs, ys, v, v2, SqL.of (s2 _ _ (s1 _ _ h1)), SqL.of (s2 _ _ (s1 _ _ h3)), hv, hv2⟩, fun x H6 y => ?_⟩
        obtain ⟨T, x0, y0, rfl, nT, rfl, hx, hy⟩ := y
        have hx0 := (getV h2 hc'.1 (hx xs (SqL.of (s2 _ _ (s1 _ _ h1))))).mono s1
        have hy0 := (getV h4 hc'.2 (hy ys (SqL.of (s2 _ _ (s1 _ _ h3))))).mono s1
        exact ⟨upd F5 T (.tup [x0, y0]), (Gr.refl s2).shut nT, T, _, rfl, upd_same, daAll_cons (hx0.mono (same_upd (s2.free nT))) (daAll_cons (hy0.mono (same_upd (s2.free nT))) daAll_nil)⟩
    · unfold zipsD
      rw [List.length_map, List.length_zip, h2.length, h4.length]
      omega)
end

/-! ## statements -/
section
variable {X : Cx} {σ : St} {F H : Hp} {e c : Expr} {d : PyData} {v : V} {D : Ends} {st : Stmt} {rest body orelse : List Stmt} {x : Str} {pos p : Pos} {b : Bool}
theorem ss_nil (q : D.nx σ H) : WSs X [] D σ H := wss_of pss_nil q
theorem ss_cons (h : WS X st { D with nx := WSs X rest D } σ H) : WSs X (st :: rest) D σ H := wss_of (pss_cons ps_ws pss_wss) h
theorem WS.nx {M N : St → Hp → Prop} (h : WS X st { D with nx := M } σ H) (k : ∀ σ' H', M σ' H' → N σ' H') : WS X st { D with nx := N } σ H := fun pins s I => thn (h pins s I) fun f s' q => by
  cases f with
  | next => obtain ⟨σ', H', I', q⟩ := q; exact ⟨σ', H', I', k σ' H' q⟩
  | brk => exact q
  | cont => exact q
  | ret u => exact q
/-- a word between a statement and the rest -/
theorem ss_cut (M : St → Hp → Prop) (h : WS X st { D with nx := M } σ H) (k : ∀ σ' H', M σ' H' → WSs X rest D σ' H') : WSs X (st :: rest) D σ H := ss_cons (h.nx k)
theorem ss_one (h : WS X st D σ H) : WSs X [st] D σ H := wss_of (pss_one ps_ws) h
theorem ws_set (i : Nat) (hN : X.N.Nodup) (h : WE X e σ H fun v H1 => D.nx (σ.set i (some v)) H1) (hs : swapsWith e (some (.Name x p)) pos.line X.env = pure false := by rfl) (hi : X.N[i]? = some x := by rfl) (hx : Loc X.env.scope x := by first | exact .inl rfl | exact .inr rfl)
    (hf : X.fn x = true ∨ X.env.scope.names.lookup x = some .local := by first | exact .inl rfl | exact .inr rfl) : WS X (.Assign [.Name x p] e pos) D σ H := ws_of (ps_set hN hi hx pe_we hs hf) h
theorem ws_ret (h : WE X e σ H D.rt) : WS X (.Return (some e) pos) D σ H := ws_of (ps_ret pe_we) h
theorem ws_retN (h : D.rt .non H) : WS X (.Return none pos) D σ H := ws_of ps_retN h
theorem ws_expr (h : WE X e σ H fun _ H1 => D.nx σ H1) (hs : swapsWith e none pos.line X.env = pure false := by rfl) : WS X (.Expr e pos) D σ H := ws_of (ps_expr pe_we hs) h
theorem ws_if (h : WT X c σ H fun b H1 => if b = true then WSs X body D σ H1 else WSs X orelse D σ H1) : WS X (.If c body orelse pos) D σ H := ws_of (ps_if pt_wt pss_wss pss_wss) h
theorem ws_ifD (h : DT X c σ F H b) (s : Same F H) (h1 : b = true → ∀ F2 H2, Gr F H F2 H2 → WSs X body D σ H2) (h2 : b = false → ∀ F2 H2, Gr F H F2 H2 → WSs X orelse D σ H2) : WS X (.If c body orelse pos) D σ H :=
  ws_if (h.go s fun F2 H2 g => by
    cases b with
    | true => exact iteT (h1 rfl F2 H2 g)
    | false => exact iteF (h2 rfl F2 H2 g))
theorem ws_setD (i : Nat) (hN : X.N.Nodup) (h : DE X e σ F H d) (s : Same F H) (q : ∀ v F2 H2, Gr F H F2 H2 → Da F2 d v → D.nx (σ.set i (some v)) H2) (hs : swapsWith e (some (.Name x p)) pos.line X.env = pure false := by rfl) (hi : X.N[i]? = some x := by rfl) (hx : Loc X.env.scope x := by first | exact .inl rfl | exact .inr rfl)
    (hf : X.fn x = true ∨ X.env.scope.names.lookup x = some .local := by first | exact .inl rfl | exact .inr rfl) : WS X (.Assign [.Name x p] e pos) D σ H := ws_set i hN (h.go s q) hs hi hx hf
theorem ws_retD (h : DE X e σ F H d) (s : Same F H) (q : ∀ v F2 H2, Gr F H F2 H2 → Da F2 d v → D.rt v H2) : WS X (.Return (some e) pos) D σ H := ws_ret (h.go s q)
theorem ws_asg {tg : Expr} (h : WE X e σ H fun v H1 => WG X tg v σ H1 D.nx) (hs : swapsWithSole [tg] e pos.line X.env = pure false := by rfl) (hw : swappedStores [tg] e X.env = pure none := by rfl)
    (h1 : (assignEach [tg] X.env).map (·.2) = [assign tg X.env] := by rfl) : WS X (.Assign [tg] e pos) D σ H := ws_of (ps_asg pe_we pg_wg hs hw h1) h

/-- for, by a word of the turn, the slots and both heaps -/
theorem ws_for {tg iter : Expr} {ds : List PyData} (hp : PassesOwn (model X.prog X.w) X.A X.env X.xe) (hc : X.calm = true) (hi : DI X tg iter σ F H ds) (s : Same F H)
    (k : ∀ F1 H1, Gr F H F1 H1 → ∃ Pv : Nat → St → Hp → Hp → Prop, Pv 0 σ F1 H1 ∧ (∀ i σ' F' H', Pv i σ' F' H' → Same F1 F' ∧ Same F' H') ∧
      (∀ i d v σ' F' H' F4 H4, ds[i]? = some d → Pv i σ' F' H' → Gr F' H' F4 H4 → Da F4 d v → WG X tg v σ' H4 fun σ2 H2 => WSs X body { D with nx := fun σ3 H3 => ∃ F3, Pv (i + 1) σ3 F3 H3, ct := fun σ3 H3 => ∃ F3, Pv (i + 1) σ3 F3 H3, bk := D.nx } σ2 H2) ∧
      (∀ σ' F' H', Pv ds.length σ' F' H' → D.nx σ' H')) (hs : ∀ x, foldedSetIterable iter X.env x = pure x := by intro _; rfl) : WS X (.For tg iter body [] pos) D σ H :=
  ws_of (ps_for hp hc pi_wi pg_wg pss_wss hs) (hi F H (.refl s) _ fun J F2 H2 g2 w => by
    obtain ⟨Pv, h0, hF, hS, hD⟩ := k F2 H2 g2
    refine ⟨fun i m σ' H' => m = ds.length - i ∧ i ≤ ds.length ∧ ∃ F', Pv i σ' F' H', ⟨ds.length, by simp, Nat.zero_le _, F2, h0⟩, ?_⟩
    rintro i m σ' H' ⟨rfl, hi', F', p⟩
    obtain ⟨s1, s2⟩ := hF _ _ _ _ p
    obtain ⟨w1, w2⟩ := w F' H' s1 s2
    by_cases hlt : i < ds.length
    · have e : ds[i]? = some ds[i] := List.getElem?_eq_getElem hlt
      obtain ⟨go, yl⟩ := w1 i _ e
      refine .inr ⟨go, fun σ3 H3 => ∃ F3, Pv (i + 1) σ3 F3 H3, fun σ3 H3 p' => ⟨ds.length - (i + 1), by omega, rfl, hlt, p'⟩, fun x H4 y => ?_⟩
      obtain ⟨F4, g4, hd⟩ := yl x H4 y
      exact hS i _ x σ' F' H' F4 H4 e p g4 hd
    · have e : i = ds.length := by omega
      subst e
      exact .inl ⟨w2, hD σ' F' H' p⟩)
/-- .. where the walk leaves the heap -/
theorem ws_for0 {tg iter : Expr} {ds : List PyData} (hp : PassesOwn (model X.prog X.w) X.A X.env X.xe) (hc : X.calm = true) (hi : DI0 X tg iter σ F H ds) (s : Same F H)
    (k : ∀ F1 H1, Gr F H F1 H1 → ∃ Pv : Nat → St → Hp → Hp → Prop, Pv 0 σ F1 H1 ∧ (∀ i σ' F' H', Pv i σ' F' H' → Same F1 F' ∧ Same F' H') ∧
      (∀ i d v σ' F' H', ds[i]? = some d → Pv i σ' F' H' → Da F' d v → WG X tg v σ' H' fun σ2 H2 => WSs X body { D with nx := fun σ3 H3 => ∃ F3, Pv (i + 1) σ3 F3 H3, ct := fun σ3 H3 => ∃ F3, Pv (i + 1) σ3 F3 H3, bk := D.nx } σ2 H2) ∧
      (∀ σ' F' H', Pv ds.length σ' F' H' → D.nx σ' H')) (hs : ∀ x, foldedSetIterable iter X.env x = pure x := by intro _; rfl) : WS X (.For tg iter body [] pos) D σ H :=
  ws_of (ps_for hp hc pi_wi pg_wg pss_wss hs) (hi F H (.refl s) _ fun J F2 H2 g2 w => by
    obtain ⟨Pv, h0, hF, hS, hD⟩ := k F2 H2 g2
    refine ⟨fun i m σ' H' => m = ds.length - i ∧ i ≤ ds.length ∧ ∃ F', Pv i σ' F' H', ⟨ds.length, by simp, Nat.zero_le _, F2, h0⟩, ?_⟩
    rintro i m σ' H' ⟨rfl, hi', F', p⟩
    obtain ⟨s1, s2⟩ := hF _ _ _ _ p
    obtain ⟨w1, w2⟩ := w F' H' s1 s2
    by_cases hlt : i < ds.length
    · have e : ds[i]? = some ds[i] := List.getElem?_eq_getElem hlt
      obtain ⟨go, yl⟩ := w1 i _ e
      refine .inr ⟨go, fun σ3 H3 => ∃ F3, Pv (i + 1) σ3 F3 H3, fun σ3 H3 p' => ⟨ds.length - (i + 1), by omega, rfl, hlt, p'⟩, fun x H4 y => ?_⟩
      obtain ⟨rfl, hd⟩ := yl x H4 y
      exact hS i _ x σ' F' _ e p hd
    · have e : i = ds.length := by omega
      subst e
      exact .inl ⟨w2, hD σ' F' H' p⟩)
/-- while, by a measure -/
theorem ws_while (hp : PassesOwn (model X.prog X.w) X.A X.env X.xe) (W : Nat → St → Hp → Prop) (m0 : Nat) (h0 : W m0 σ H)
    (hs : ∀ m σ' H', W m σ' H' → WT X c σ' H' fun b H1 => if b = true then WSs X body { D with nx := fun σ2 H2 => ∃ m', m' < m ∧ W m' σ2 H2, ct := fun σ2 H2 => ∃ m', m' < m ∧ W m' σ2 H2, bk := D.nx } σ' H1 else D.nx σ' H1) : WS X (.While c body [] pos) D σ H :=
  ws_of (ps_while hp pt_wt pss_wss) ⟨W, ⟨m0, h0⟩, fun m σ' H' w => (hs m σ' H' w).imp fun b H1 q => by
    cases b with
    | true => exact ⟨fun σ2 H2 => ∃ m', m' < m ∧ W m' σ2 H2, fun _ _ z => z, q⟩
    | false => exact q⟩
end
end Kr

/-! layer Kr4 -/
namespace Kr
open PySem L2
/-! ## comprehensions -/
def DEt (t : TE) (σ : St) (F H : Hp) (d : PyData) : Prop := ∀ F1 H1, Gr F H F1 H1 → ∀ Q : VK, (∀ v F2 H2, Gr F1 H1 F2 H2 → Da F2 d v → Q v H2) → t σ H1 Q
def DTt (t : TT) (σ : St) (F H : Hp) (b : Bool) : Prop := ∀ F1 H1, Gr F H F1 H1 → ∀ Q : Bool → Hp → Prop, (∀ F2 H2, Gr F1 H1 F2 H2 → Q b H2) → t σ H1 Q
def TG.Mono (g : TG) : Prop := ∀ v σ H (Q Q' : St → Hp → Prop), (∀ σ' H', Q σ' H' → Q' σ' H') → g v σ H Q → g v σ H Q'
theorem WG.mono {X : Cx} {tg : Expr} {v : V} {σ : St} {H : Hp} {Q Q' : St → Hp → Prop} (k : ∀ σ' H', Q σ' H' → Q' σ' H') (h : WG X tg v σ H Q) : WG X tg v σ H Q' := fun pins s u I r =>
  thn (h pins s u I r) fun _ s' ⟨σ', H', I', q⟩ => ⟨σ', H', I', k σ' H' q⟩
theorem det_lc {α : Type} {X : Cx} {tg iter : Expr} {g : TG} {tt : TT} {te : TE} {vs : List Nat} {σ : St} {F H : Hp} {D : α → PyData} {xs : List α} (f : α → Bool) (h : α → PyData) (hz : xs.length ≤ sizeLine) (hg : TG.Mono g) (hi : DI X tg iter σ F H (xs.map D))
    (hs : ∀ x ∈ xs, ∀ v F' H', Gr F H F' H' → Da F' (D x) v → g v (wipe σ vs) H' fun σ2 H2 => H2 = H' ∧ wipe σ2 vs = wipe σ vs ∧ DTt tt σ2 F' H' (f x) ∧ (f x = true → DEt te σ2 F' H' (h x))) :
    DEt (tLc (WI X tg iter) g tt te vs) σ F H (.list ((xs.filter f).map h)) := fun F1 H1 g1 Q q => hi F1 H1 g1 _ fun J F2 H2 g2 w Dl hDl => by
  refine ⟨fun i m H' => m = xs.length - i ∧ i ≤ xs.length ∧ ∃ F' ys, Gr F2 H2 F' H' ∧ F' Dl = none ∧ H' Dl = some (.lst ys) ∧ DaAll F' (((xs.take i).filter f).map h) ys,
    ⟨xs.length, by simp, Nat.zero_le _, F2, [], (Gr.refl g2.fh).open' hDl, g2.fh.free hDl, upd_same, daAll_nil⟩, ?_⟩
  rintro i m H' ⟨rfl, hi', F', ys, g', n', e', a'⟩
  obtain ⟨w1, w2⟩ := w F' H' g'.ff g'.fh
  rw [List.length_map] at w2
  by_cases hlt : i < xs.length
  · have e0 : xs[i]? = some xs[i] := List.getElem?_eq_getElem hlt
    have e : (xs.map D)[i]? = some (D xs[i]) := by rw [List.getElem?_map, e0]; rfl
    obtain ⟨go, yl⟩ := w1 i _ e
    have htk : xs.take (i + 1) = xs.take i ++ [xs[i]] := by rw [List.take_add_one, e0]; rfl
    have hly : ys.length < sizeLine := by
      have h1 := a'.length
      have h2 : (((xs.take i).filter f).map h).length ≤ i := by
        rw [List.length_map]
        exact Nat.le_trans (List.length_filter_le _ _) (by rw [List.length_take]; omega)
      omega
    refine .inr ⟨go, fun H3 => i + 1 ≤ xs.length ∧ ∃ F' ys, Gr F2 H2 F' H3 ∧ F' Dl = none ∧ H3 Dl = some (.lst ys) ∧ DaAll F' (((xs.take (i + 1)).filter f).map h) ys, fun H3 p' => ⟨xs.length - (i + 1), by omega, rfl, p'⟩, fun x H4 y => ?_⟩
    obtain ⟨F4, g4, hd⟩ := yl x H4 y
    have gg := (g1.trans g2).trans (g'.trans g4)
    refine hg _ _ _ _ _ ?_ (hs xs[i] (List.getElem_mem hlt) x F4 H4 gg hd)
    rintro σ2 H5 ⟨rfl, hw, ht, he⟩
    refine ⟨hw, ht F4 H5 (.refl g4.fh) _ fun F6 H6 g6 => ?_⟩
    have n6 : F6 Dl = none := (g4.trans g6).f0 n' e'
    have e6 : H6 Dl = some (.lst ys) := (g4.trans g6).hh _ _ e'
    cases hf : f xs[i] with
    | true =>
      refine iteT (he hf F6 H6 g6 _ fun v F7 H7 g7 hv => ⟨ys, g7.hh _ _ e6, hly, hlt, F7, ys ++ [v], ?_, g7.f0 n6 e6, upd_same, ?_⟩)
      · exact ((((g'.trans g4).trans g6).trans g7)).mut hDl (g7.f0 n6 e6)
      · rw [htk, List.filter_append, List.map_append]
        have : [xs[i]].filter f = [xs[i]] := by simp [hf]
        rw [this]
        exact (a'.mono ((g4.trans g6).trans g7).ff).snoc hv
    | false =>
      refine iteF ⟨hlt, F6, ys, (g'.trans g4).trans g6, n6, e6, ?_⟩
      rw [htk, List.filter_append, List.map_append]
      have : [xs[i]].filter f = [] := by simp [hf]
      rw [this, List.map_nil, List.append_nil]
      exact a'.mono (g4.trans g6).ff
  · have e : i = xs.length := by omega
    subst e
    refine .inl ⟨w2, q (.ref Dl) (upd F' Dl (.lst ys)) H' (g2.trans (g'.tell hDl n' e')) ?_⟩
    rw [List.take_length] at a'
    exact ⟨Dl, ys, rfl, upd_same, a'.mono (same_upd n')⟩
/-- a comprehension's block -/
abbrev Blk (X : Cx) (scope : Scope) (s : Shared) (H : Hp) (C : Addr) (cl : List (Str × Addr)) (fp : List Addr) : Cx := X.blk s H scope (compEnvC scope cl C X.env) fp
def gB (X : Cx) (scope : Scope) (tg : Expr) : TG := fun v σ H Q => ∀ s H0 C cl fp, WG (Blk X scope s H0 C cl fp) tg v σ H Q
def tB' (X : Cx) (scope : Scope) (c : Expr) : TT := fun σ H Q => ∀ s H0 C cl fp, WT (Blk X scope s H0 C cl fp) c σ H Q
def eB (X : Cx) (scope : Scope) (e : Expr) : TE := fun σ H Q => ∀ s H0 C cl fp, WE (Blk X scope s H0 C cl fp) e σ H Q
section
variable {α : Type} {X : Cx} {σ : St} {F H : Hp} {elt tg iter c : Expr} {scope : Scope} {pos spos py : Pos} {Dx : α → PyData} {xs : List α} {own : List (Str × Nat)} {y : Str}
/-- what a comprehension's element is made of: target, test, element -/
structure LcOk (X : Cx) (scope : Scope) (own : List (Str × Nat)) (iter : Expr) : Prop where
  calm : X.calm = true
  nd : X.N.Nodup
  ok : blkC X.N X.env.scope scope own = true
  fs : ∀ x, foldedSetIterable iter X.env x = pure x
theorem lcok {N ps : List Str} {sc : Scope} (S : FnScope N ps sc) (hb : blkC N sc scope own = true) (hc : X.calm = true := by rfl) (hN : X.N = N := by rfl) (hsc : X.env.scope = sc := by rfl) (fs : ∀ x, foldedSetIterable iter X.env x = pure x := by intro _; rfl) : LcOk X scope own iter :=
  ⟨hc, hN ▸ S.nd, by rw [hN, hsc]; exact hb, fs⟩
theorem gB_mono : TG.Mono (gB X scope tg) := fun v σ H Q Q' k h s H0 C cl fp => (h s H0 C cl fp).mono k
theorem gb_name {x : Str} {v : V} {Q : St → Hp → Prop} (i : Nat) (hN : X.N.Nodup) (q : Q (σ.set i (some v)) H) (hi : X.N[i]? = some x := by rfl) (hx : ∀ s H0 C cl fp, Loc (Blk X scope s H0 C cl fp).env.scope x := by first | exact fun _ _ _ _ _ => .inl rfl | exact fun _ _ _ _ _ => .inr rfl)
    (hf : ∀ s H0 C cl fp, (Blk X scope s H0 C cl fp).fn x = true ∨ (Blk X scope s H0 C cl fp).env.scope.names.lookup x = some .local := by first | exact fun _ _ _ _ _ => .inr rfl | exact fun _ _ _ _ _ => .inl rfl) : gB X scope (.Name x pos) v σ H Q :=
  fun s H0 C cl fp => wg_name i hN q hi (hx s H0 C cl fp) (hf s H0 C cl fp)
theorem gb_tup2 {v : V} {Q : St → Hp → Prop} {t1 t2 : Expr} {d1 d2 : PyData} {k : Nat} (hc : X.calm = true) (h : Da F (.tuple [d1, d2]) v) (s : Same F H) (q : ∀ v1 v2, Da F d1 v1 → Da F d2 v2 → gB X scope t1 v1 σ H (fun σ1 H1 => gB X scope t2 v2 σ1 H1 Q))
    (hs : ∀ s H0 C cl fp, (assignEach [t1, t2] (Blk X scope s H0 C cl fp).env).map (·.2) = assign t1 (Blk X scope s H0 C cl fp).env :: (assignEach [t2] (Blk X scope s H0 C cl fp).env).map (·.2) := by exact fun _ _ _ _ _ => rfl)
    (hs2 : ∀ s H0 C cl fp, (assignEach [t2] (Blk X scope s H0 C cl fp).env).map (·.2) = assign t2 (Blk X scope s H0 C cl fp).env :: (assignEach [] (Blk X scope s H0 C cl fp).env).map (·.2) := by exact fun _ _ _ _ _ => rfl)
    (hn : ∀ s H0 C cl fp, (assignEach [t1, t2] (Blk X scope s H0 C cl fp).env).length = 2 := by exact fun _ _ _ _ _ => rfl) (hst : ∀ s H0 C cl fp, (assignEach [t1, t2] (Blk X scope s H0 C cl fp).env).findIdx? (·.1) = none := by exact fun _ _ _ _ _ => rfl) : gB X scope (.Tuple [t1, t2] k pos) v σ H Q :=
  fun s0 H0 C cl fp => wg_tup2 hc h s (fun v1 v2 e1 e2 => (q v1 v2 e1 e2 s0 H0 C cl fp).mono fun σ1 H1 r => r s0 H0 C cl fp) (hs s0 H0 C cl fp) (hs2 s0 H0 C cl fp) (hn s0 H0 C cl fp) (hst s0 H0 C cl fp)
theorem de_lc (own : List (Str × Nat)) (o : LcOk X scope own iter) (h : α → PyData) (hi : DI X tg iter σ F H (xs.map Dx)) (hz : xs.length ≤ sizeLine)
    (hs : ∀ x ∈ xs, ∀ v F' H', Gr F H F' H' → Da F' (Dx x) v → gB X scope tg v (wipe σ (own.map (·.2))) H' fun σ2 H2 => H2 = H' ∧ wipe σ2 (own.map (·.2)) = wipe σ (own.map (·.2)) ∧ ∀ s H0 C cl fp, DE (Blk X scope s H0 C cl fp) elt σ2 F' H' (h x)) :
    DE X (.ListComp elt [⟨tg, iter, [], 0⟩] scope pos) σ F H (.list (xs.map h)) := by
  have key := det_lc (g := gB X scope tg) (tt := tYes) (te := eB X scope elt) (vs := own.map (·.2)) (fun _ => true) h hz gB_mono hi (fun x hx v F' H' g hv => gB_mono _ _ _ _ _ (fun σ2 H2 ⟨h1, h2, h3⟩ => ⟨h1, h2, fun F1 H1 g1 Q q => q F1 H1 (.refl g1.fh), fun _ F1 H1 g1 Q q s H0 C cl fp => h3 s H0 C cl fp F1 H1 g1 Q q⟩) (hs x hx v F' H' g hv))
  rw [List.filter_eq_self.mpr (fun _ _ => rfl)] at key
  exact fun F1 H1 g Q q => we_of (pe_lc o.calm o.nd pi_wi (blkOk_by o.ok) (fun s H0 C cl fp => ⟨fun pins s' σ H v u Q I r h => h s H0 C cl fp pins s' u I r⟩) (fun _ _ _ _ _ => pts_nil) (fun s H0 C cl fp => ⟨fun pins s' σ H Q I h => h s H0 C cl fp pins s' I⟩) o.fs) (key F1 H1 g Q q)
theorem de_lcIf (own : List (Str × Nat)) (o : LcOk X scope own iter) (f : α → Bool) (h : α → PyData) (hi : DI X tg iter σ F H (xs.map Dx)) (hz : xs.length ≤ sizeLine)
    (hs : ∀ x ∈ xs, ∀ v F' H', Gr F H F' H' → Da F' (Dx x) v → gB X scope tg v (wipe σ (own.map (·.2))) H' fun σ2 H2 => H2 = H' ∧ wipe σ2 (own.map (·.2)) = wipe σ (own.map (·.2)) ∧ (∀ s H0 C cl fp, DT (Blk X scope s H0 C cl fp) c σ2 F' H' (f x)) ∧ (f x = true → ∀ s H0 C cl fp, DE (Blk X scope s H0 C cl fp) elt σ2 F' H' (h x))) :
    DE X (.ListComp elt [⟨tg, iter, [c], 0⟩] scope pos) σ F H (.list ((xs.filter f).map h)) := by
  have key := det_lc (g := gB X scope tg) (tt := tB' X scope c) (te := eB X scope elt) (vs := own.map (·.2)) f h hz gB_mono hi (fun x hx v F' H' g hv => gB_mono _ _ _ _ _ (fun σ2 H2 ⟨h1, h2, h3, h4⟩ => ⟨h1, h2, fun F1 H1 g1 Q q s H0 C cl fp => h3 s H0 C cl fp F1 H1 g1 Q q, fun hf F1 H1 g1 Q q s H0 C cl fp => h4 hf s H0 C cl fp F1 H1 g1 Q q⟩) (hs x hx v F' H' g hv))
  exact fun F1 H1 g Q q => we_of (pe_lc o.calm o.nd pi_wi (blkOk_by o.ok) (fun s H0 C cl fp => ⟨fun pins s' σ H v u Q I r h => h s H0 C cl fp pins s' u I r⟩) (fun s H0 C cl fp => pts_one ⟨fun pins s' σ H Q I h => h s H0 C cl fp pins s' I⟩) (fun s H0 C cl fp => ⟨fun pins s' σ H Q I h => h s H0 C cl fp pins s' I⟩) o.fs) (key F1 H1 g Q q)
/-- y = [..] -/
theorem ws_setLc (k : Nat) (own : List (Str × Nat)) (o : LcOk X scope own iter) (s : Same F H) (h : α → PyData) (hi : DI X tg iter σ F H (xs.map Dx)) (hz : xs.length ≤ sizeLine)
    (hs : ∀ x ∈ xs, ∀ v F' H', Gr F H F' H' → Da F' (Dx x) v → gB X scope tg v (wipe σ (own.map (·.2))) H' fun σ2 H2 => H2 = H' ∧ wipe σ2 (own.map (·.2)) = wipe σ (own.map (·.2)) ∧ ∀ s H0 C cl fp, DE (Blk X scope s H0 C cl fp) elt σ2 F' H' (h x))
    {D : Ends} (q : ∀ v F2 H2, Gr F H F2 H2 → Da F2 (.list (xs.map h)) v → D.nx (σ.set k (some v)) H2) (hy : X.N[k]? = some y := by rfl) (hyl : X.env.scope.names.lookup y = some .local := by rfl)
    (hsw : swapsWith (.ListComp elt [⟨tg, iter, [], 0⟩] scope pos) (some (.Name y py)) spos.line X.env = pure true := by exact sw_true rfl rfl rfl (by decide +kernel)) : WS X (.Assign [.Name y py] (.ListComp elt [⟨tg, iter, [], 0⟩] scope pos) spos) D σ H := by
  have key := det_lc (g := gB X scope tg) (tt := tYes) (te := eB X scope elt) (vs := own.map (·.2)) (fun _ => true) h hz gB_mono hi (fun x hx v F' H' g hv => gB_mono _ _ _ _ _ (fun σ2 H2 ⟨h1, h2, h3⟩ => ⟨h1, h2, fun F1 H1 g1 Q q => q F1 H1 (.refl g1.fh), fun _ F1 H1 g1 Q q s H0 C cl fp => h3 s H0 C cl fp F1 H1 g1 Q q⟩) (hs x hx v F' H' g hv))
  rw [List.filter_eq_self.mpr (fun _ _ => rfl)] at key
  exact ws_of (ps_setLc o.calm o.nd hy hyl hsw pi_wi (blkOk_by o.ok) (fun s H0 C cl fp => ⟨fun pins s' σ H v u Q I r h => h s H0 C cl fp pins s' u I r⟩) (fun _ _ _ _ _ => pts_nil) (fun s H0 C cl fp => ⟨fun pins s' σ H Q I h => h s H0 C cl fp pins s' I⟩) o.fs) (key F H (.refl s) _ q)
theorem ws_setLcIf (k : Nat) (own : List (Str × Nat)) (o : LcOk X scope own iter) (s : Same F H) (f : α → Bool) (h : α → PyData) (hi : DI X tg iter σ F H (xs.map Dx)) (hz : xs.length ≤ sizeLine)
    (hs : ∀ x ∈ xs, ∀ v F' H', Gr F H F' H' → Da F' (Dx x) v → gB X scope tg v (wipe σ (own.map (·.2))) H' fun σ2 H2 => H2 = H' ∧ wipe σ2 (own.map (·.2)) = wipe σ (own.map (·.2)) ∧ (∀ s H0 C cl fp, DT (Blk X scope s H0 C cl fp) c σ2 F' H' (f x)) ∧ (f x = true → ∀ s H0 C cl fp, DE (Blk X scope s H0 C cl fp) elt σ2 F' H' (h x)))
    {D : Ends} (q : ∀ v F2 H2, Gr F H F2 H2 → Da F2 (.list ((xs.filter f).map h)) v → D.nx (σ.set k (some v)) H2) (hy : X.N[k]? = some y := by rfl) (hyl : X.env.scope.names.lookup y = some .local := by rfl)
    (hsw : swapsWith (.ListComp elt [⟨tg, iter, [c], 0⟩] scope pos) (some (.Name y py)) spos.line X.env = pure true := by exact sw_true rfl rfl rfl (by decide +kernel)) : WS X (.Assign [.Name y py] (.ListComp elt [⟨tg, iter, [c], 0⟩] scope pos) spos) D σ H := by
  have key := det_lc (g := gB X scope tg) (tt := tB' X scope c) (te := eB X scope elt) (vs := own.map (·.2)) f h hz gB_mono hi (fun x hx v F' H' g hv => gB_mono _ _ _ _ _ (fun σ2 H2 ⟨h1, h2, h3, h4⟩ => ⟨h1, h2, fun F1 H1 g1 Q q s H0 C cl fp => h3 s H0 C cl fp F1 H1 g1 Q q, fun hf F1 H1 g1 Q q s H0 C cl fp => h4 hf s H0 C cl fp F1 H1 g1 Q q⟩) (hs x hx v F' H' g hv))
  exact ws_of (ps_setLc o.calm o.nd hy hyl hsw pi_wi (blkOk_by o.ok) (fun s H0 C cl fp => ⟨fun pins s' σ H v u Q I r h => h s H0 C cl fp pins s' u I r⟩) (fun s H0 C cl fp => pts_one ⟨fun pins s' σ H Q I h => h s H0 C cl fp pins s' I⟩) (fun s H0 C cl fp => ⟨fun pins s' σ H Q I h => h s H0 C cl fp pins s' I⟩) o.fs) (key F H (.refl s) _ q)
end

/-! ## defs -/
/-- a def that tells data of data, and leaves all else -/
def spF (n : Nat) (pre : List PyData → Prop) (fn : List PyData → PyData) : Sp := fun vs H Q _ => ∃ F ds, ds.length = n ∧ Same F H ∧ DaAll F ds vs ∧ pre ds ∧ ∀ v F2 H2, Gr F H F2 H2 → Da F2 (fn ds) v → Q v H2
section
variable {P : Program} {w : World} {K : PySem.W.Frag} {mg : Str → Option Value} {base : Heap}
/-- a def's body -/
theorem okW {x qual : Str} {st : Stmt} {f : Addr} {fd : FuncData} {N ps : List Str} {k : Nat} {sp : Sp} (F : Fun K x qual st f fd) (S : FnScope N ps (defScope st)) (len : ∀ vs H Q E, sp vs H Q E → vs.length = ps.length)
    (hbody : ∀ (cdv : Value) (A : Around) (outer : List Env) (s : Shared) (H : Hp) (vs : List V) (Q : VK) (E : XK), Room k (A.deeper (PyProof.Rows.envOfC qual (defScope st) s.heap.objs.size f cdv)) → sp vs H Q E →
      WSs (cxOf CX0 P w K mg base N qual (defScope st) f cdv A outer s H E).nox (defBody st) { nx := fun _ H' => Q .non H', rt := Q } (start N vs) H) : FnOk P w K mg base CX0 (k + 1) f fd ps sp :=
  F.ok S len fun cdv A outer s H vs Q E hr h => ⟨_, pss_wss, hbody cdv A outer s H vs Q E hr h⟩
theorem okF {x qual : Str} {st : Stmt} {f : Addr} {fd : FuncData} {N ps : List Str} {k : Nat} {pre : List PyData → Prop} {fn : List PyData → PyData} (F : Fun K x qual st f fd) (S : FnScope N ps (defScope st))
    (hbody : ∀ (X : Cx) (cdv : Value) (A : Around) (outer : List Env) (s : Shared) (H0 : Hp) (E : XK) (vs : List V) (F H : Hp) (ds : List PyData) (Q : VK), X = (cxOf CX0 P w K mg base N qual (defScope st) f cdv A outer s H0 E).nox → Room k X.A → ds.length = ps.length → Same F H → DaAll F ds vs → pre ds → (∀ v F2 H2, Gr F H F2 H2 → Da F2 (fn ds) v → Q v H2) →
      WSs X (defBody st) { nx := fun _ H' => Q .non H', rt := Q } (start N vs) H) : FnOk P w K mg base CX0 (k + 1) f fd ps (spF ps.length pre fn) :=
  okW F S (fun vs H Q E ⟨F, ds, hl, _, ha, _⟩ => by rw [ha.length, hl]) fun cdv A outer s H vs Q E hr ⟨F, ds, hl, hs, ha, hp, q⟩ => hbody _ cdv A outer s H E vs F H ds Q rfl hr hl hs ha hp q
end
section
variable {X : Cx} {σ : St} {F H : Hp} {e : Expr} {es : List Expr} {ds : List PyData} {k : Nat} {f : Addr} {fd : FuncData} {ps : List Str} {n : Nat} {pre : List PyData → Prop} {fn : List PyData → PyData} {x : Str} {p pos : Pos} {d : PyData}
/-- f(..) -/
theorem de_call (G : FnOk X.prog X.w X.K X.mg X.base CX0 k f fd ps (spF n pre fn)) (hr : Room k X.A) (hm : X.mg x = some (.ref f)) (hk : PySem.W.keepIn X.K (.ref f) = true) (hb : Binds X.K fd ps []) (ha : DL X (e :: es) σ F H ds) (hn : ds.length = n) (hp : pre ds) (he : fn ds = d)
    (hg : Gl X x := by rfl) (hdb : (x == ("__debug__" : Str)) = false := by decide) (l : Pl X e es pos := by exact ⟨rfl, rfl⟩) : DE X (.Call (.Name x p) (e :: es) [] pos) σ F H d := fun F1 H1 g Q q =>
  we_of (pe_call G hr hg hm hk hb .nil pass0 pa_wa hdb l.he l.hpl) (ha F1 H1 g _ fun vs F2 H2 g2 hvs => by
    show spF n pre fn (vs ++ []) H2 Q E0
    rw [List.append_nil]
    exact ⟨F2, ds, hn, g2.fh, hvs, hp, fun v F3 H3 g3 hv => q v F3 H3 (g2.trans g3) (he ▸ hv)⟩)
end
end Kr

/-! layer Kr5 -/
namespace Kr
open PySem L2
/-! ## texts in order -/
def leS (a b : Str) : Bool := !decide (b.cps.toList < a.cps.toList)
theorem leS_iff {a b : Str} : leS a b = true ↔ a.cps.toList ≤ b.cps.toList := by
  unfold leS
  rw [Bool.not_eq_true', decide_eq_false_iff_not]
  exact Iff.rfl
theorem str_ext {a b : Str} (h : a.cps.toList = b.cps.toList) : a = b := by
  cases a; cases b
  simp only at h
  congr
  exact Array.toList_inj.mp h
theorem leS_trans (a b c : Str) (h1 : leS a b = true) (h2 : leS b c = true) : leS a c = true := leS_iff.mpr (List.le_trans (leS_iff.mp h1) (leS_iff.mp h2))
theorem leS_total (a b : Str) : (leS a b || leS b a) = true := by
  rcases List.le_total a.cps.toList b.cps.toList with h | h
  · rw [leS_iff.mpr h]; rfl
  · rw [leS_iff.mpr h, Bool.or_true]
theorem leS_antisymm {a b : Str} (h1 : leS a b = true) (h2 : leS b a = true) : a = b := str_ext (List.le_antisymm (leS_iff.mp h1) (leS_iff.mp h2))
/-- sorted(xs) -/
def srt (xs : List Str) : List Str := xs.mergeSort leS
theorem srt_perm (xs : List Str) : (srt xs).Perm xs := List.mergeSort_perm xs leS
theorem srt_sorted (xs : List Str) : (srt xs).Pairwise (fun a b => leS a b = true) := List.pairwise_mergeSort leS_trans leS_total xs
theorem srt_length (xs : List Str) : (srt xs).length = xs.length := (srt_perm xs).length_eq
theorem mem_srt {x : Str} {xs : List Str} : x ∈ srt xs ↔ x ∈ xs := (srt_perm xs).mem_iff
theorem sorted_unique : ∀ {xs ys : List Str}, xs.Perm ys → xs.Pairwise (fun a b => leS a b = true) → ys.Pairwise (fun a b => leS a b = true) → xs = ys
  | [], ys, p, _, _ => (List.nil_perm.mp p).symm
  | x :: xs, [], p, _, _ => by simpa using p.length_eq
  | x :: xs, y :: ys, p, h1, h2 => by
    have e : x = y := by
      have hx : x ∈ y :: ys := p.mem_iff.mp List.mem_cons_self
      have hy : y ∈ x :: xs := p.mem_iff.mpr List.mem_cons_self
      rcases List.mem_cons.mp hx with e | hx
      · exact e
      rcases List.mem_cons.mp hy with e | hy
      · exact e.symm
      exact leS_antisymm (List.rel_of_pairwise_cons h1 hy) (List.rel_of_pairwise_cons h2 hx)
    subst e
    rw [sorted_unique (List.Perm.cons_inv p) h1.of_cons h2.of_cons]
theorem sortedS_pairwise : ∀ {xs : List Str}, PyProof.Rows.sortedS xs = true → xs.Pairwise (fun a b => leS a b = true)
  | [], _ => .nil
  | [x], _ => by simp
  | x :: y :: r, h => by
    have h' : (!Spec.ltCps y.cps.toList x.cps.toList) = true ∧ PyProof.Rows.sortedS (y :: r) = true := by simpa [PyProof.Rows.sortedS, PyProof.Rows.risingS] using h
    have ih := sortedS_pairwise h'.2
    have hxy : leS x y = true := by
      unfold leS
      rw [PyProof.Rows.lt_meets]
      exact h'.1
    refine List.pairwise_cons.mpr ⟨fun z hz => ?_, ih⟩
    rcases List.mem_cons.mp hz with rfl | hz
    · exact hxy
    · exact leS_trans _ _ _ hxy (List.rel_of_pairwise_cons ih hz)
theorem srt_eq {xs ys : List Str} (p : ys.Perm xs) (h : PyProof.Rows.sortedS ys = true) : ys = srt xs := sorted_unique (p.trans (srt_perm xs).symm) (sortedS_pairwise h) (srt_sorted xs)
theorem srt_of_sorted {xs : List Str} (h : xs.Pairwise (fun a b => leS a b = true)) : srt xs = xs := sorted_unique (srt_perm xs) (srt_sorted xs) h

/-! ## rules -/
section
variable {X : Cx} {σ : St} {F H : Hp} {e a b c : Expr} {es : List Expr} {d d1 d2 : PyData} {ds : List PyData} {v : V} {i j k : Int} {pos p : Pos} {x y : Str} {bb cc : Bool}
/-- sorted of texts, any number -/
def rSortedSA (K : PySem.W.Frag) : List V → Hp → VK → Prop := fun vs H Q => ∃ (a : Addr) (xs : List Str), vs = [V.ref a] ∧ SqL K H a (xs.map V.str) ∧ ∀ (p : Addr), H p = none → Q (.ref p) (upd H p (.lst ((srt xs).map V.str)))
theorem cr_sortedSA : CallR X (.builtin "sorted") (rSortedSA X.K) := by
  intro pins s σ H vs us Q I r h
  obtain ⟨a, xs, rfl, hs, q⟩ := h
  obtain ⟨its, rv, hl, hz⟩ := I.list hs
  rw [Vals.ref1 r]
  have hlen0 := rv.length
  refine PyProof.Rows.sorted_strsAny hl.isList rv.strs (by rw [← hlen0]; exact hz) fun out ys h1 h2 h3 => ?_
  obtain ⟨ep, he'⟩ := PyProof.Rows.sortedAll_at s.heap its out
  have hlen : (ys.map V.str).length ≤ sizeLine := by rw [List.length_map, h2.length_eq]; rw [List.length_map] at hz; exact hz
  have ey := srt_eq h2 h3
  subst ey
  exact ⟨.ref _, upd H (s.heap.objs.size + 1) (.lst ((srt xs).map V.str)), I.laid (t' := s.toks) (fun _ _ => PyProof.Rows.sortedAll_old) (Nat.le_succ _) ⟨hlen, out.toList, ep, vals_of_strs h1, he'⟩, rfl, q _ (I.hok.fresh (Nat.le_succ _))⟩
theorem de_sortedS {xs : List Str} (hm : X.mg "sorted" = none) (ha : DE X e σ F H (.list (xs.map .str))) (hg : Gl X "sorted" := by rfl) (l : Pl X e [] pos := by exact ⟨rfl, rfl⟩) : DE X (.Call (.Name "sorted" p) [e] [] pos) σ F H (.list ((srt xs).map .str)) :=
  de_callB cr_sortedSA hg hm (by decide +kernel) (dl_cons ha dl_nil l.he) (fun vs F1 H1 g1 hv Q q => by
    obtain ⟨v, rfl, a, ys, rfl, h1, h2⟩ := daAll1 hv
    obtain rfl := h2.strs
    exact ⟨_, xs, rfl, SqL.of (g1.fh _ _ h1), fun l hl => q _ (upd F1 l (.lst _)) _ ((Gr.refl g1.fh).shut hl) ⟨l, _, rfl, upd_same, daAll_strs _⟩⟩) ⟨by decide, by decide⟩ l
/-- lists of unlike lengths -/
def rEqLen (K : PySem.W.Frag) : R2 := fun x y H Q => ∃ a b xs ys, x = .ref a ∧ y = .ref b ∧ SqL K H a xs ∧ SqL K H b ys ∧ xs.length ≠ ys.length ∧ Q (.bl false) H
theorem op_eqLen (hu : X.A.units + 64 < cLine) : OpR X (compareOp .Eq) (rEqLen X.K) := by
  intro pins s σ H x y v u Q I rx ry h
  obtain ⟨a, b, xs, ys, rfl, rfl, h1, h2, hne, q⟩ := h
  cases rx; cases ry
  obtain ⟨its, rv, hl, hz⟩ := I.list h1
  obtain ⟨its2, rv2, hl2, hz2⟩ := I.list h2
  refine SeqAt.eq_list_lengthsAt hl.isList hl2.isList ?_ (by omega) ⟨.bl false, H, I, rfl, q⟩
  have e1 := rv.length
  have e2 := rv2.length
  simp only [List.size_toArray, bne_iff_ne, ne_eq]
  omega
/-- e == [] -/
theorem c_eqNil (hu : X.A.units + 64 < cLine) (ha : DE X a σ F H (.list ds)) {lp : Pos} : DC X .Eq a (.List [] lp) σ F H ds.isEmpty := by
  cases ds with
  | nil => exact c_eq hu ha (de_lst dl_nil) (by rfl) (by rfl)
  | cons d0 ds =>
    exact c_cmp (op_eqLen hu) (nomark _) ha (de_lst dl_nil) fun x y F1 H1 g1 hx hy Q q => by
      obtain ⟨p, xs, rfl, h1, h2⟩ := hx
      obtain ⟨r, ys, rfl, h3, h4⟩ := hy
      obtain rfl : ys = [] := h4
      exact ⟨p, r, xs, [], rfl, rfl, SqL.of (g1.fh _ _ h1), SqL.of (g1.fh _ _ h3), by rw [h2.length]; simp, q _ F1 H1 (.refl g1.fh) rfl⟩
def rNeLen (K : PySem.W.Frag) : R2 := fun x y H Q => ∃ a b xs ys, x = .ref a ∧ y = .ref b ∧ SqL K H a xs ∧ SqL K H b ys ∧ xs.length ≠ ys.length ∧ Q (.bl true) H
/-- one sign in a text -/
theorem c_inSign {z : Str} {cp : Nat} (ha : DE X a σ F H (.str ⟨#[cp]⟩)) (hb : DE X b σ F H (.str z)) (hm : behindInMarks .In b = false := by rfl) : DC X .In a b σ F H (decide (cp ∈ z.cps.toList)) :=
  c_cmp op_in_sign hm ha hb fun x y F1 H1 g1 hx hy Q q => ⟨cp, z, hx, hy, q _ F1 H1 (.refl g1.fh) rfl⟩
theorem c_notInSign {z : Str} {cp : Nat} (ha : DE X a σ F H (.str ⟨#[cp]⟩)) (hb : DE X b σ F H (.str z)) (hm : behindInMarks .NotIn b = false := by rfl) : DC X .NotIn a b σ F H (!decide (cp ∈ z.cps.toList)) :=
  c_cmp op_notIn_sign hm ha hb fun x y F1 H1 g1 hx hy Q q => ⟨cp, z, hx, hy, q _ F1 H1 (.refl g1.fh) rfl⟩
/-- a module's constant -/
def Mg (mg : Str → Option Value) (x : Str) (v : V) : Prop := ∃ u, mg x = some u ∧ RelV v u
theorem ve_glob (h : Mg X.mg x v) (hg : Gl X x := by rfl) (hd : (x == ("__debug__" : Str)) = false := by decide) : VE X (.Name x pos) σ F H v := by
  obtain ⟨u, h1, h2⟩ := h
  exact ve_of (pe_glob hg h1 h2 hd) fun _ _ _ _ q => q
end
end Kr

/-! layer Kr6 -/
namespace Kr
open PySem L2
/-! ## sizes -/
mutual
def SzD : PyData → Prop
  | .str x => x.length ≤ 100000
  | .list ds => ds.length ≤ 100000 ∧ SzAll ds
  | .tuple ds => SzAll ds
  | _ => True
def SzAll : List PyData → Prop
  | [] => True
  | d :: ds => SzD d ∧ SzAll ds
end
theorem SzAll.mem : ∀ {ds : List PyData} {d : PyData}, SzAll ds → d ∈ ds → SzD d
  | d0 :: ds, d, h, m => by
    rcases List.mem_cons.mp m with rfl | m
    · exact h.1
    · exact SzAll.mem h.2 m
theorem szAll_of : ∀ {ds : List PyData}, (∀ d ∈ ds, SzD d) → SzAll ds
  | [], _ => True.intro
  | d :: ds, h => ⟨h d List.mem_cons_self, szAll_of fun x m => h x (List.mem_cons_of_mem _ m)⟩
theorem SzAll.get {ds : List PyData} {i : Nat} {d : PyData} (h : SzAll ds) (e : ds[i]? = some d) : SzD d := h.mem (List.mem_of_getElem? e)
theorem sz100 {n : Nat} (h : n ≤ 100000) : n ≤ sizeLine := Nat.le_trans h (by decide)
/-! ## kinds, rooms, houses -/
def letters : Str := "abcdefghijklmnopqrstuvwxyz"
def isKind (x : Str) : Bool := decide ((1 : Int) ≤ x.length) && decide ((x.length : Int) ≤ 4) && x.cps.toList.all fun c => decide (c ∈ letters.cps.toList)
def isKindD : PyData → Bool
  | .str x => isKind x
  | _ => false
def areKeysD : PyData → Bool
  | .list ds => ds.all isKindD
  | _ => false
def ksD (ks : List Str) : PyData := .list (ks.map .str)
/-- the texts of data that are kinds -/
def strsOf (ds : List PyData) : List Str := ds.filterMap fun d => match d with | .str x => some x | _ => none
theorem strsOf_eq : ∀ {ds : List PyData}, ds.all isKindD = true → ds = (strsOf ds).map .str
  | [], _ => rfl
  | d :: ds, h => by
    have h' : isKindD d = true ∧ ds.all isKindD = true := by simpa using h
    cases d with
    | str x =>
      show PyData.str x :: ds = PyData.str x :: (strsOf ds).map .str
      rw [← strsOf_eq h'.2]
    | _ => exact absurd h'.1 (by simp [isKindD])
theorem strsOf_strs (ks : List Str) : strsOf (ks.map .str) = ks := by
  induction ks with
  | nil => rfl
  | cons k ks ih => show k :: strsOf (ks.map .str) = _; rw [ih]
def isRoomD : PyData → Bool
  | .tuple [l, k] => areKeysD l && areKeysD k && (match l with
    | .list ds => decide ((1 : Int) ≤ ds.length) && decide ((ds.length : Int) ≤ 4) && decide (strsOf ds = srt (strsOf ds))
    | _ => false)
  | _ => false
def isHouseD : PyData → Bool
  | .tuple [k, .list rs] => areKeysD k && rs.all isRoomD
  | _ => false
abbrev Room' := List Str × List Str
abbrev House := List Str × List Room'
def roomD (r : Room') : PyData := .tuple [ksD r.1, ksD r.2]
def houseD (h : House) : PyData := .tuple [ksD h.1, .list (h.2.map roomD)]
def goodRoom (r : Room') : Prop := (∀ k ∈ r.1, isKind k = true) ∧ (∀ k ∈ r.2, isKind k = true) ∧ 1 ≤ r.1.length ∧ r.1.length ≤ 4 ∧ srt r.1 = r.1
structure GoodHouse (h : House) : Prop where
  keys : ∀ k ∈ h.1, isKind k = true
  rooms : ∀ r ∈ h.2, goodRoom r
  few : h.1.length ≤ 100000
  many : h.2.length ≤ 100000
  each : ∀ r ∈ h.2, r.2.length ≤ 100000
theorem isKind_len {x : Str} (h : isKind x = true) : 1 ≤ x.length ∧ x.length ≤ 4 := by
  unfold isKind at h
  simp only [Bool.and_eq_true, decide_eq_true_eq] at h
  omega
theorem areKeysD_ks {ks : List Str} (h : ∀ k ∈ ks, isKind k = true) : areKeysD (ksD ks) = true := by
  simp only [areKeysD, ksD, List.all_map, List.all_eq_true]
  exact fun k hk => h k hk
theorem isRoomD_room {r : Room'} (h : goodRoom r) : isRoomD (roomD r) = true := by
  obtain ⟨h1, h2, h3, h4, h5⟩ := h
  simp only [roomD, isRoomD, areKeysD_ks h1, areKeysD_ks h2, Bool.true_and, ksD, strsOf_strs, h5, List.length_map, decide_true, Bool.and_true, Bool.and_eq_true, decide_eq_true_eq]
  exact ⟨⟨areKeysD_ks h1, areKeysD_ks h2⟩, by omega, by omega⟩
theorem isHouseD_house {h : House} (g : GoodHouse h) : isHouseD (houseD h) = true := by
  simp only [houseD, isHouseD, areKeysD_ks g.keys, Bool.true_and, List.all_map, List.all_eq_true]
  exact fun r hr => isRoomD_room (g.rooms r hr)
theorem szD_ks {ks : List Str} (h : ∀ k ∈ ks, isKind k = true) (hl : ks.length ≤ 100000) : SzD (ksD ks) := by
  refine ⟨by rw [List.length_map]; exact hl, szAll_of fun d m => ?_⟩
  obtain ⟨k, hk, rfl⟩ := List.mem_map.mp m
  have := isKind_len (h k hk)
  show k.length ≤ 100000
  omega
theorem szD_room {r : Room'} (h : goodRoom r) (hl : r.2.length ≤ 100000) : SzD (roomD r) := ⟨szD_ks h.1 (by have := h.2.2.2.1; omega), szD_ks h.2.1 hl, True.intro⟩
theorem szD_house {h : House} (g : GoodHouse h) : SzD (houseD h) := by
  refine ⟨szD_ks g.keys g.few, ⟨by rw [List.length_map]; exact g.many, szAll_of fun d m => ?_⟩, True.intro⟩
  obtain ⟨r, hr, rfl⟩ := List.mem_map.mp m
  exact szD_room (g.rooms r hr) (g.each r hr)
/-- a list of which none is out -/
theorem filter_none {α : Type} (xs : List α) (p : α → Bool) (h : α → PyData) : ((xs.filter fun x => !p x).map h).isEmpty = xs.all p := by
  induction xs with
  | nil => rfl
  | cons x xs ih =>
    cases hp : p x with
    | true => simp only [List.filter_cons, hp, Bool.not_true, Bool.false_eq_true, if_false, List.all_cons, Bool.true_and]; exact ih
    | false => simp only [List.filter_cons, hp, Bool.not_false, if_true, List.map_cons, List.isEmpty_cons, List.all_cons, Bool.false_and]
/-! ## equality of kinds, rooms, houses -/
theorem letters_lt : ∀ c ∈ letters.cps.toList, c < 0x110000 := by decide +kernel
theorem strOk_kind {x : Str} (h : isKind x = true) : PyData.strOk x = true := by
  unfold isKind at h
  simp only [Bool.and_eq_true, List.all_eq_true, decide_eq_true_eq] at h
  unfold PyData.strOk
  rw [← Array.all_toList, List.all_eq_true]
  exact fun c hc => decide_eq_true (letters_lt c (h.2 c hc))
theorem eqvAll_strs : ∀ a b : List Str, PyData.eqvAll (a.map .str) (b.map .str) = decide (a = b)
  | [], [] => by simp [PyData.eqvAll]
  | [], _ :: _ => by simp [PyData.eqvAll]
  | _ :: _, [] => by simp [PyData.eqvAll]
  | x :: a, y :: b => by
    simp only [List.map_cons, PyData.eqvAll, PyData.eqv, eqvAll_strs a b, List.cons.injEq]
    by_cases h : x = y <;> simp [h]
theorem eqv_ks (a b : List Str) : PyData.eqv (ksD a) (ksD b) = decide (a = b) := by simp only [ksD, PyData.eqv, eqvAll_strs]
theorem eqv_room (a b : Room') : PyData.eqv (roomD a) (roomD b) = decide (a = b) := by
  obtain ⟨a1, a2⟩ := a
  obtain ⟨b1, b2⟩ := b
  simp only [roomD, PyData.eqv, PyData.eqvAll, eqv_ks, Prod.mk.injEq, Bool.and_true]
  by_cases h : a1 = b1 <;> simp [h]
theorem eqvAll_rooms : ∀ a b : List Room', PyData.eqvAll (a.map roomD) (b.map roomD) = decide (a = b)
  | [], [] => by simp [PyData.eqvAll]
  | [], _ :: _ => by simp [PyData.eqvAll]
  | _ :: _, [] => by simp [PyData.eqvAll]
  | x :: a, y :: b => by
    simp only [List.map_cons, PyData.eqvAll, eqv_room, eqvAll_rooms a b, List.cons.injEq]
    by_cases h : x = y <;> simp [h]
theorem eqv_house (a b : House) : PyData.eqv (houseD a) (houseD b) = decide (a = b) := by
  obtain ⟨a1, a2⟩ := a
  obtain ⟨b1, b2⟩ := b
  simp only [houseD, PyData.eqv, PyData.eqvAll, eqv_ks, eqvAll_rooms, Prod.mk.injEq, Bool.and_true]
  by_cases h : a1 = b1 <;> simp [h]
/-- laid, and so deep at most -/
def Lay (n : Nat) (d : PyData) : Prop := d.canLay0 = true ∧ d.depth ≤ n
theorem Lay.shaped {n : Nat} {d : PyData} (h : Lay n d) (hn : n ≤ 64 := by decide) : SeqAt.shaped d = true := by
  unfold SeqAt.shaped
  rw [h.1, decide_eq_true (Nat.le_trans h.2 hn)]
  rfl
theorem lay_all : ∀ {n : Nat} {ds : List PyData}, (∀ d ∈ ds, Lay n d) → PyData.canLayAll0 ds = true ∧ PyData.depthAll ds ≤ n
  | n, [], _ => ⟨by simp [PyData.canLayAll0], by simp [PyData.depthAll]⟩
  | n, d :: ds, h => by
    obtain ⟨h1, h2⟩ := lay_all fun x m => h x (List.mem_cons_of_mem _ m)
    obtain ⟨h3, h4⟩ := h d List.mem_cons_self
    exact ⟨by simp [PyData.canLayAll0, h1, h3], by simp only [PyData.depthAll]; omega⟩
theorem lay_list {n : Nat} {ds : List PyData} (h : ∀ d ∈ ds, Lay n d) : Lay (n + 1) (.list ds) := by
  obtain ⟨h1, h2⟩ := lay_all h
  exact ⟨by simp only [PyData.canLay0]; exact h1, by simp only [PyData.depth]; omega⟩
theorem lay_tuple {n : Nat} {ds : List PyData} (h : ∀ d ∈ ds, Lay n d) : Lay (n + 1) (.tuple ds) := by
  obtain ⟨h1, h2⟩ := lay_all h
  exact ⟨by simp only [PyData.canLay0]; exact h1, by simp only [PyData.depth]; omega⟩
theorem Lay.up {n m : Nat} {d : PyData} (h : Lay n d) (e : n ≤ m) : Lay m d := ⟨h.1, Nat.le_trans h.2 e⟩
theorem lay_int (i : Int) {n : Nat} : Lay n (.int i) := ⟨by simp [PyData.canLay0], by simp [PyData.depth]⟩
theorem lay_bool (i : Bool) {n : Nat} : Lay n (.bool i) := ⟨by simp [PyData.canLay0], by simp [PyData.depth]⟩
theorem lay_none {n : Nat} : Lay n .none := ⟨by simp [PyData.canLay0], by simp [PyData.depth]⟩
theorem lay_str {x : Str} (h : PyData.strOk x = true) {n : Nat} : Lay n (.str x) := ⟨by simp [PyData.canLay0, h], by simp [PyData.depth]⟩
theorem lay_ks {ks : List Str} (h : ∀ k ∈ ks, isKind k = true) : Lay 1 (ksD ks) := lay_list fun d m => by
  obtain ⟨k, hk, rfl⟩ := List.mem_map.mp m
  exact lay_str (strOk_kind (h k hk))
theorem lay_room {r : Room'} (h : goodRoom r) : Lay 2 (roomD r) := lay_tuple fun d m => by
  rcases List.mem_cons.mp m with rfl | m
  · exact lay_ks h.1
  rcases List.mem_cons.mp m with rfl | m
  · exact lay_ks h.2.1
  · cases m
theorem lay_house {h : House} (g : GoodHouse h) : Lay 4 (houseD h) := lay_tuple fun d m => by
  rcases List.mem_cons.mp m with rfl | m
  · exact (lay_ks g.keys).up (by decide)
  rcases List.mem_cons.mp m with rfl | m
  · exact lay_list fun d m => by
      obtain ⟨r, hr, rfl⟩ := List.mem_map.mp m
      exact lay_room (g.rooms r hr)
  · cases m
/-! ## isinstance of data -/
theorem kit_str : ∀ d : PyData, kitB (tyName d) "str" = some (match d with | .str _ => true | _ => false)
  | .none => by show kitB "NoneType" "str" = some false; decide +kernel
  | .bool _ => by show kitB "bool" "str" = some false; decide +kernel
  | .int _ => by show kitB "int" "str" = some false; decide +kernel
  | .str _ => by show kitB "str" "str" = some true; decide +kernel
  | .list _ => by show kitB "list" "str" = some false; decide +kernel
  | .tuple _ => by show kitB "tuple" "str" = some false; decide +kernel
  | .dict _ => by show kitB "dict" "str" = some false; decide +kernel
theorem kit_list : ∀ d : PyData, kitB (tyName d) "list" = some (match d with | .list _ => true | _ => false)
  | .none => by show kitB "NoneType" "list" = some false; decide +kernel
  | .bool _ => by show kitB "bool" "list" = some false; decide +kernel
  | .int _ => by show kitB "int" "list" = some false; decide +kernel
  | .str _ => by show kitB "str" "list" = some false; decide +kernel
  | .list _ => by show kitB "list" "list" = some true; decide +kernel
  | .tuple _ => by show kitB "tuple" "list" = some false; decide +kernel
  | .dict _ => by show kitB "dict" "list" = some false; decide +kernel
theorem kit_tuple : ∀ d : PyData, kitB (tyName d) "tuple" = some (match d with | .tuple _ => true | _ => false)
  | .none => by show kitB "NoneType" "tuple" = some false; decide +kernel
  | .bool _ => by show kitB "bool" "tuple" = some false; decide +kernel
  | .int _ => by show kitB "int" "tuple" = some false; decide +kernel
  | .str _ => by show kitB "str" "tuple" = some false; decide +kernel
  | .list _ => by show kitB "list" "tuple" = some false; decide +kernel
  | .tuple _ => by show kitB "tuple" "tuple" = some true; decide +kernel
  | .dict _ => by show kitB "dict" "tuple" = some false; decide +kernel
theorem kit_int : ∀ d : PyData, kitB (tyName d) "int" = some (match d with | .int _ => true | .bool _ => true | _ => false)
  | .none => by show kitB "NoneType" "int" = some false; decide +kernel
  | .bool _ => by show kitB "bool" "int" = some true; decide +kernel
  | .int _ => by show kitB "int" "int" = some true; decide +kernel
  | .str _ => by show kitB "str" "int" = some false; decide +kernel
  | .list _ => by show kitB "list" "int" = some false; decide +kernel
  | .tuple _ => by show kitB "tuple" "int" = some false; decide +kernel
  | .dict _ => by show kitB "dict" "int" = some false; decide +kernel
theorem kit_bool : ∀ d : PyData, kitB (tyName d) "bool" = some (match d with | .bool _ => true | _ => false)
  | .none => by show kitB "NoneType" "bool" = some false; decide +kernel
  | .bool _ => by show kitB "bool" "bool" = some true; decide +kernel
  | .int _ => by show kitB "int" "bool" = some false; decide +kernel
  | .str _ => by show kitB "str" "bool" = some false; decide +kernel
  | .list _ => by show kitB "list" "bool" = some false; decide +kernel
  | .tuple _ => by show kitB "tuple" "bool" = some false; decide +kernel
  | .dict _ => by show kitB "dict" "bool" = some false; decide +kernel
theorem kit_dict : ∀ d : PyData, kitB (tyName d) "dict" = some (match d with | .dict _ => true | _ => false)
  | .none => by show kitB "NoneType" "dict" = some false; decide +kernel
  | .bool _ => by show kitB "bool" "dict" = some false; decide +kernel
  | .int _ => by show kitB "int" "dict" = some false; decide +kernel
  | .str _ => by show kitB "str" "dict" = some false; decide +kernel
  | .list _ => by show kitB "list" "dict" = some false; decide +kernel
  | .tuple _ => by show kitB "tuple" "dict" = some false; decide +kernel
  | .dict _ => by show kitB "dict" "dict" = some true; decide +kernel
def pre1 (A : PyData → Prop) : List PyData → Prop := fun ds => ∃ d, ds = [d] ∧ A d
def fn1 (f : PyData → PyData) : List PyData → PyData := fun ds => f (ds.getD 0 .none)
def pre2 (A : PyData → PyData → Prop) : List PyData → Prop := fun ds => ∃ d e, ds = [d, e] ∧ A d e
def fn2 (f : PyData → PyData → PyData) : List PyData → PyData := fun ds => f (ds.getD 0 .none) (ds.getD 1 .none)
def pre3 (A : PyData → PyData → PyData → Prop) : List PyData → Prop := fun ds => ∃ d e g, ds = [d, e, g] ∧ A d e g
def fn3 (f : PyData → PyData → PyData → PyData) : List PyData → PyData := fun ds => f (ds.getD 0 .none) (ds.getD 1 .none) (ds.getD 2 .none)
end Kr

/-! layer Kr7 -/
namespace Kr
open PySem L2
/-! ## the pool -/
def Pool (H : Hp) (p : Addr) (n : Nat) : Prop := ∃ c m s : Int, H p = some (.lst [.int c, .int m, .int s]) ∧ (m = 0 ∨ m = 1) ∧ 0 ≤ s ∧ s ≤ n
theorem Pool.some {H : Hp} {p : Addr} {n : Nat} (h : Pool H p n) : ∃ o, H p = some o := by
  obtain ⟨c, m, s, h, _⟩ := h
  exact ⟨_, h⟩
theorem Pool.mono {H H' : Hp} {p : Addr} {n m : Nat} (h : Pool H p n) (s : Same H H') (e : n ≤ m := by omega) : Pool H' p m := by
  obtain ⟨c, k, t, h, h1, h2, h3⟩ := h
  exact ⟨c, k, t, s _ _ h, h1, h2, by omega⟩
/-- heaps that grow, the pool at p apart -/
structure Gp (p : Addr) (F H F2 H2 : Hp) : Prop where
  ff : Same F F2
  fh : Same F2 H2
  hh : ∀ b o, b ≠ p → H b = some o → H2 b = some o
  at' : H p ≠ none → H2 p ≠ none
  new : ∀ b, F b = none → H b ≠ none → F2 b = none
section
variable {p : Addr} {F H F1 H1 F2 H2 : Hp}
theorem Gr.gp (g : Gr F H F1 H1) : Gp p F H F1 H1 := ⟨g.ff, g.fh, fun b o _ e => g.hh _ _ e, fun n z => n (g.hh.free z), g.new⟩
theorem Gp.refl (s : Same F H) : Gp p F H F H := (Gr.refl s).gp
theorem Gp.trans (a : Gp p F H F1 H1) (b : Gp p F1 H1 F2 H2) : Gp p F H F2 H2 :=
  ⟨a.ff.trans b.ff, b.fh, fun c o n e => b.hh c o n (a.hh c o n e), fun n => b.at' (a.at' n), fun c e n => b.new c (a.new c e n) (by
    by_cases hc : c = p
    · subst hc; exact a.at' n
    · intro z
      cases hn : H c with
      | none => exact n hn
      | some o => rw [a.hh c o hc hn] at z; cases z)⟩
theorem Gp.pool (g : Gp p F H F1 H1) {o : HO} (h : F1 p = none) : Gp p F H F1 (upd H1 p o) :=
  ⟨g.ff, same_mut g.fh h, fun b u n e => (by rw [upd_ne n]; exact g.hh b u n e), fun _ => (by rw [upd_same]; exact fun z => nomatch z), g.new⟩
theorem Gp.to (g : Gp p F H F1 H1) (h : F1 p = none) (k : ∀ b u, b ≠ p → H1 b = some u → H2 b = some u) {n : Nat} (P : Pool H2 p n) : Gp p F H F1 H2 :=
  ⟨g.ff, fun b u e => k b u (ne_of_none e h) (g.fh b u e), fun b u n e => k b u n (g.hh b u n e), fun _ => (by obtain ⟨o, ho⟩ := P.some; rw [ho]; exact fun z => nomatch z), g.new⟩
theorem Gp.da (g : Gp p F H F1 H1) {d : PyData} {v : V} (h : Da F d v) : Da F1 d v := h.mono g.ff
theorem Gp.f0 (g : Gp p F H F1 H1) {q : Addr} {o : HO} (h : F q = none) (hH : H q = some o) : F1 q = none := g.new q h (by rw [hH]; exact fun z => nomatch z)
/-- a new object that stays open -/
theorem Gp.open' (g : Gp p F H F1 H1) {q : Addr} {o : HO} (h : H1 q = none) (hp : H p ≠ none) : Gp p F H F1 (upd H1 q o) :=
  ⟨g.ff, same_mut g.fh (g.fh.free h), fun b u n e => by
    have : b ≠ q := fun z => by subst z; rw [g.hh _ _ n e] at h; cases h
    rw [upd_ne this]; exact g.hh b u n e, fun n => by
    have : p ≠ q := fun z => by subst z; exact g.at' hp h
    rw [upd_ne this]; exact g.at' n, g.new⟩
theorem Gp.shut (g : Gp p F H F1 H1) {q : Addr} {o : HO} (h : H1 q = none) (hp : H p ≠ none) : Gp p F H (upd F1 q o) (upd H1 q o) := by
  have g2 := g.open' (o := o) h hp
  refine ⟨g.ff.trans (same_upd (g.fh.free h)), same_both g.fh, g2.hh, g2.at', fun b e n => ?_⟩
  have hb : b ≠ q := fun z => by
    subst z
    by_cases hbp : b = p
    · subst hbp; exact g.at' n h
    · cases hn : H b with
      | none => exact n hn
      | some o => rw [g.hh b o hbp hn] at h; cases h
  rw [upd_ne hb]; exact g.new b e n
/-- an open object of our own changes -/
theorem Gp.mut (g : Gp p F H F1 H1) {q : Addr} {o : HO} (h : H q = none) (hq : q ≠ p) (h1 : F1 q = none) : Gp p F H F1 (upd H1 q o) :=
  ⟨g.ff, same_mut g.fh h1, fun b u n e => (by rw [upd_ne (ne_of_none e h)]; exact g.hh b u n e), fun n => (by rw [upd_ne (fun z => hq z.symm)]; exact g.at' n), g.new⟩
theorem Gp.tell (g : Gp p F H F1 H1) {q : Addr} {o : HO} (h : H q = none) (h1 : F1 q = none) (ho : H1 q = some o) : Gp p F H (upd F1 q o) H1 :=
  ⟨g.ff.trans (same_upd h1), fun b x e => by
    by_cases hb : b = q
    · subst hb; rw [upd_same] at e; rw [ho]; exact e
    · rw [upd_ne hb] at e; exact g.fh _ _ e, g.hh, g.at', fun b e n => by
    have hb : b ≠ q := fun z => by subst z; exact n h
    rw [upd_ne hb]; exact g.new b e n⟩
theorem gr_ff (s : Same F H) : Gr F F F H := ⟨Same.refl _, s, s, fun _ e n => absurd e n⟩
end
section
variable {X : Cx} {σ : St} {F H : Hp} {e : Expr} {d : PyData} {v : V} {b : Bool} {es : List Expr} {ds : List PyData}
/-- what hangs on the told heap alone, at any heap -/
theorem DE.at (h : DE X e σ F F d) (s : Same F H) {Q : VK} (q : ∀ v F2 H2, Gr F H F2 H2 → Da F2 d v → Q v H2) : WE X e σ H Q := h F H (gr_ff s) Q q
theorem VE.at (h : VE X e σ F F v) (s : Same F H) {Q : VK} (q : ∀ F2 H2, Gr F H F2 H2 → Q v H2) : WE X e σ H Q := h F H (gr_ff s) Q q
theorem DT.at (h : DT X e σ F F b) (s : Same F H) {Q : Bool → Hp → Prop} (q : ∀ F2 H2, Gr F H F2 H2 → Q b H2) : WT X e σ H Q := h F H (gr_ff s) Q q
theorem DL.at (h : DL X es σ F F ds) (s : Same F H) {Q : List V → Hp → Prop} (q : ∀ vs F2 H2, Gr F H F2 H2 → DaAll F2 ds vs → Q vs H2) : WA X es σ H Q := h F H (gr_ff s) Q q
theorem DE.f {F' : Hp} (h : DE X e σ F F d) (s : Same F F') : DE X e σ F' F' d := h.mono ⟨s, Same.refl _, s, fun _ e n => absurd e n⟩
theorem DE.fh (h : DE X e σ F F d) (s : Same F H) : DE X e σ F H d := h.mono (gr_ff s)
end

/-! ## expressions that draw: of c drawings, told is one of R -/
def Px (p : Addr) (c : Nat) (X : Cx) (e : Expr) (σ : St) (F : Hp) (R : PyData → Prop) : Prop := ∀ n F1 H1, Same F F1 → Same F1 H1 → F1 p = none → Pool H1 p n → n + c ≤ 1000000 → ∀ Q : VK, (∀ d v F2 H2, Gp p F1 H1 F2 H2 → Pool H2 p (n + c) → Da F2 d v → R d → Q v H2) → WE X e σ H1 Q
def PxT (p : Addr) (c : Nat) (X : Cx) (e : Expr) (σ : St) (F : Hp) (R : Bool → Prop) : Prop := ∀ n F1 H1, Same F F1 → Same F1 H1 → F1 p = none → Pool H1 p n → n + c ≤ 1000000 → ∀ Q : Bool → Hp → Prop, (∀ b F2 H2, Gp p F1 H1 F2 H2 → Pool H2 p (n + c) → R b → Q b H2) → WT X e σ H1 Q
def spTake : Sp := fun vs H Q _ => ∃ (p : Addr) (n : Nat) (many : Int), vs = [.ref p, .int many] ∧ Pool H p n ∧ n < 1000000 ∧ 0 < many ∧ many < 1073741824 ∧ ∀ r H', 0 ≤ r → r < many → (∀ b u, b ≠ p → H b = some u → H' b = some u) → Pool H' p (n + 1) → Q (.int r) H'
section
variable {p : Addr} {c c1 c2 : Nat} {X : Cx} {σ : St} {F H : Hp} {e a b : Expr} {d : PyData} {ds : List PyData} {R R' : PyData → Prop} {pos q : Pos} {x : Str} {i j : Int}
theorem Px.imp (h : Px p c X e σ F R) (k : ∀ d, R d → R' d) : Px p c X e σ F R' := fun n F1 H1 s1 s2 f P hc Q q => h n F1 H1 s1 s2 f P hc Q fun d v F2 H2 g P2 hd hR => q d v F2 H2 g P2 hd (k d hR)
theorem Px.mono {F' : Hp} (h : Px p c X e σ F R) (s : Same F F') : Px p c X e σ F' R := fun n F1 H1 s1 s2 f P hc Q q => h n F1 H1 (s.trans s1) s2 f P hc Q q
theorem Px.up (h : Px p c X e σ F R) (hc : c ≤ c1) : Px p c1 X e σ F R := fun n F1 H1 s1 s2 f P hn Q q => h n F1 H1 s1 s2 f P (by omega) Q fun d v F2 H2 g P2 hd hR => q d v F2 H2 g (P2.mono (Same.refl _) (by omega)) hd hR
theorem Px.go {n : Nat} (h : Px p c X e σ F R) (s : Same F H) (f : F p = none) (P : Pool H p n) (hn : n + c ≤ 1000000) {Q : VK} (q : ∀ d v F2 H2, Gp p F H F2 H2 → Pool H2 p (n + c) → Da F2 d v → R d → Q v H2) : WE X e σ H Q := h n F H (Same.refl _) s f P hn Q q
theorem PxT.go {R : Bool → Prop} {n : Nat} (h : PxT p c X e σ F R) (s : Same F H) (f : F p = none) (P : Pool H p n) (hn : n + c ≤ 1000000) {Q : Bool → Hp → Prop} (q : ∀ b F2 H2, Gp p F H F2 H2 → Pool H2 p (n + c) → R b → Q b H2) : WT X e σ H Q := h n F H (Same.refl _) s f P hn Q q
theorem px_d (h : DE X e σ F F d) : Px p 0 X e σ F (fun d' => d' = d) := fun n F1 H1 s1 s2 f P hn Q q => (h.f s1).at s2 fun v F2 H2 g hd => q d v F2 H2 g.gp (P.mono g.hh) hd rfl
/-- two parts, one after the other -/
theorem px_op {op : Operator} {r : R2} {A B : PyData → Prop} (ho : OpR X (binaryOp op) r) (ha : Px p c1 X a σ F A) (hb : Px p c2 X b σ F B)
    (hr : ∀ d1 d2 x y F1 H1, Same F F1 → Same F1 H1 → A d1 → B d2 → Da F1 d1 x → Da F1 d2 y → ∀ Q : VK, (∀ d v F2 H2, Gr F1 H1 F2 H2 → Da F2 d v → R d → Q v H2) → r x y H1 Q) : Px p (c1 + c2) X (.BinOp a op b pos) σ F R := fun n F1 H1 s1 s2 f P hn Q q =>
  we_of (pe_op ho pe_we pe_we) (ha n F1 H1 s1 s2 f P (by omega) _ fun d1 x F2 H2 g2 P2 hx hA => hb (n + c1) F2 H2 (s1.trans g2.ff) g2.fh (by obtain ⟨o, ho⟩ := P.some; exact g2.f0 f ho) P2 (by omega) _ fun d2 y F3 H3 g3 P3 hy hB =>
    hr d1 d2 x y F3 H3 ((s1.trans g2.ff).trans g3.ff) g3.fh hA hB (g3.da hx) hy Q fun d v F4 H4 g4 hv hR => q d v F4 H4 ((g2.trans g3).trans g4.gp) (P3.mono g4.hh (by omega)) hv hR)
theorem px_add {A B : Int → Prop} (ha : Px p c1 X a σ F (fun d => ∃ i, d = .int i ∧ A i)) (hb : Px p c2 X b σ F (fun d => ∃ i, d = .int i ∧ B i)) : Px p (c1 + c2) X (.BinOp a .Add b pos) σ F (fun d => ∃ i j, d = .int (i + j) ∧ A i ∧ B j) :=
  px_op op_add ha hb fun d1 d2 x y F1 H1 s1 s2 ⟨i, e1, hi⟩ ⟨j, e2, hj⟩ hx hy Q q => by
    subst e1 e2
    exact ⟨i, j, hx, hy, q (.int (i + j)) (.int (i + j)) F1 H1 (.refl s2) rfl ⟨i, j, rfl, hi, hj⟩⟩
theorem px_ixL {A : PyData → Prop} (ha : Px p c1 X a σ F A) (hb : Px p c2 X b σ F (fun d => ∃ i, d = .int i ∧ (0 : Int) ≤ i ∧ ∀ d', A d' → ∃ ds, d' = .list ds ∧ i < ds.length ∧ ∀ d ∈ ds, R d)) (hs : PlainIx b := by exact fun _ _ => rfl) : Px p (c1 + c2) X (.Subscript a b pos) σ F R := fun n F1 H1 s1 s2 f P hn Q q =>
  we_of (pe_ix ix_list pe_we pe_we hs) (ha n F1 H1 s1 s2 f P (by omega) _ fun d1 x F2 H2 g2 P2 hx hA => hb (n + c1) F2 H2 (s1.trans g2.ff) g2.fh (by obtain ⟨o, ho⟩ := P.some; exact g2.f0 f ho) P2 (by omega) _ fun d2 y F3 H3 g3 P3 hy hB => by
    obtain ⟨i, rfl, h0, hl⟩ := hB
    obtain ⟨ds, rfl, hlt, hall⟩ := hl _ hA
    obtain ⟨r, vs, rfl, h1, h2⟩ := g3.da hx
    have hi : i.toNat < ds.length := by omega
    have e : ds[i.toNat]? = some ds[i.toNat] := List.getElem?_eq_getElem hi
    obtain ⟨v, hv, hd⟩ := h2.get e
    refine ⟨r, vs, i, v, rfl, hy, SqL.of (g3.fh _ _ h1), at_of (by omega) hv, q _ v F3 H3 (g2.trans g3) (P3.mono (Same.refl _) (by omega)) hd (hall _ (List.getElem_mem hi))⟩)
theorem px_take {f : Addr} {fd : FuncData} {k : Nat} {m : Int} (G : FnOk X.prog X.w X.K X.mg X.base CX0 k f fd ["pool", "many"] spTake) (hr : Room k X.A) (hm : X.mg "_law_take" = some (.ref f)) (hk : PySem.W.keepIn X.K (.ref f) = true) (hb : Binds X.K fd ["pool", "many"] [])
    (hp : VE X a σ F F (.ref p)) (he : Px p c X b σ F (fun d => ∃ i, d = .int i ∧ (0 : Int) < i ∧ i ≤ m)) (hmm : m < 1073741824) (hg : Gl X "_law_take" := by rfl) (l : Pl X a [b] pos := by exact ⟨rfl, rfl⟩) (l2 : starEach [b] X.env = [(false, eval b X.env)] := by rfl) :
    Px p (c + 1) X (.Call (.Name "_law_take" q) [a, b] [] pos) σ F (fun d => ∃ i, d = .int i ∧ (0 : Int) ≤ i ∧ i < m) := fun n F1 H1 s1 s2 f1 P hn Q k =>
  we_of (pe_call G hr hg hm hk hb .nil pass0 (pa_cons pe_we (pa_cons pe_we pa_nil l2) l.he) (by decide) l.he l.hpl) ((hp.mono ⟨s1, Same.refl _, s1, fun _ e n => absurd e n⟩).at s2 fun F2 H2 g2 => he n F2 H2 (s1.trans g2.ff) g2.fh (by obtain ⟨o, ho⟩ := P.some; exact g2.f0 f1 ho) (P.mono g2.hh) (by omega) _ fun d y F3 H3 g3 P3 hy hB => by
    obtain ⟨i, rfl, h0, h1⟩ := hB
    obtain rfl : y = .int i := hy
    refine ⟨p, n + c, i, rfl, P3, by omega, h0, by omega, fun r H4 hr0 hr1 k4 P4 => ?_⟩
    have f3 : F3 p = none := by
      obtain ⟨o, ho⟩ := P.some
      exact (g2.gp.trans g3).f0 f1 ho
    exact k (.int r) (.int r) F3 _ ((g2.gp.trans g3).to f3 k4 P4) (P4.mono (Same.refl _) (by omega)) rfl ⟨r, rfl, hr0, by omega⟩)
end
/-! ## comprehensions that draw -/
/-- .. and what is told is new -/
def PxN (p : Addr) (c : Nat) (X : Cx) (e : Expr) (σ : St) (F : Hp) (R : PyData → Prop) : Prop := ∀ n F1 H1, Same F F1 → Same F1 H1 → F1 p = none → Pool H1 p n → n + c ≤ 1000000 → ∀ Q : VK, (∀ d v F2 H2, Gp p F1 H1 F2 H2 → Pool H2 p (n + c) → Da F2 d v → R d → (∀ a, v = .ref a → H1 a = none) → Q v H2) → WE X e σ H1 Q
theorem PxN.px {p : Addr} {c : Nat} {X : Cx} {e : Expr} {σ : St} {F : Hp} {R : PyData → Prop} (h : PxN p c X e σ F R) : Px p c X e σ F R := fun n F1 H1 s1 s2 f P hn Q q => h n F1 H1 s1 s2 f P hn Q fun d v F2 H2 g P2 hd hR _ => q d v F2 H2 g P2 hd hR
theorem PxN.imp {p : Addr} {c : Nat} {X : Cx} {e : Expr} {σ : St} {F : Hp} {R R' : PyData → Prop} (h : PxN p c X e σ F R) (k : ∀ d, R d → R' d) : PxN p c X e σ F R' := fun n F1 H1 s1 s2 f P hn Q q => h n F1 H1 s1 s2 f P hn Q fun d v F2 H2 g P2 hd hR hf => q d v F2 H2 g P2 hd (k d hR) hf
theorem PxN.up {p : Addr} {c c1 : Nat} {X : Cx} {e : Expr} {σ : St} {F : Hp} {R : PyData → Prop} (h : PxN p c X e σ F R) (hc : c ≤ c1) : PxN p c1 X e σ F R := fun n F1 H1 s1 s2 f P hn Q q => h n F1 H1 s1 s2 f P (by omega) Q fun d v F2 H2 g P2 hd hR hf => q d v F2 H2 g (P2.mono (Same.refl _) (by omega)) hd hR hf
theorem PxN.go {p : Addr} {c n : Nat} {X : Cx} {e : Expr} {σ : St} {F H : Hp} {R : PyData → Prop} (h : PxN p c X e σ F R) (s : Same F H) (f : F p = none) (P : Pool H p n) (hn : n + c ≤ 1000000) {Q : VK} (q : ∀ d v F2 H2, Gp p F H F2 H2 → Pool H2 p (n + c) → Da F2 d v → R d → (∀ a, v = .ref a → H a = none) → Q v H2) : WE X e σ H Q := h n F H (Same.refl _) s f P hn Q q
theorem pxn_lcR {p : Addr} {c0 ce : Nat} {M : Nat} {X : Cx} {σ : St} {F : Hp} {e elt tg : Expr} {scope : Scope} {pos rp q : Pos} (own : List (Str × Nat)) {A : Nat → Prop} {R : PyData → Prop} (o : LcOk X scope own (.Call (.Name "range" q) [e] [] rp)) (hm : X.mg "range" = none)
    (he : Px p c0 X e σ F (fun d => ∃ i : Nat, d = .int i ∧ i ≤ M ∧ A i)) (hM : M ≤ 100000)
    (hs : ∀ (k : Int) F' H', 0 ≤ k → k < M → Same F F' → gB X scope tg (.int k) (wipe σ (own.map (·.2))) H' fun σ2 H2 => H2 = H' ∧ wipe σ2 (own.map (·.2)) = wipe σ (own.map (·.2)) ∧ ∀ s H0 C cl fp, Px p ce (Blk X scope s H0 C cl fp) elt σ2 F' R)
    (hg : Gl X "range" := by rfl) (l : Pl X e [] rp := by exact ⟨rfl, rfl⟩) :
    PxN p (c0 + M * ce) X (.ListComp elt [⟨tg, .Call (.Name "range" q) [e] [] rp, [], 0⟩] scope pos) σ F (fun d => ∃ ds, d = .list ds ∧ ds.length ≤ M ∧ A ds.length ∧ ∀ x ∈ ds, R x) := fun n F1 H1 s1 s2 f1 P hn Q k =>
  we_of (pe_lc (g := gB X scope tg) (tt := tYes) (te := eB X scope elt) (own := own) o.calm o.nd (pi_range1 hg hm (pa_cons pe_we pa_nil l.he) (hs := l.he)) (blkOk_by o.ok) (fun s H0 C cl fp => ⟨fun pins s' σ H v u Q I r h => h s H0 C cl fp pins s' u I r⟩) (fun _ _ _ _ _ => pts_nil) (fun s H0 C cl fp => ⟨fun pins s' σ H Q I h => h s H0 C cl fp pins s' I⟩) o.fs)
    (he n F1 H1 s1 s2 f1 P (by omega) _ fun d v F2 H2 g2 P2 hd hA => by
      obtain ⟨j, rfl, hj, hAj⟩ := hA
      obtain rfl : v = .int j := hd
      have f2 : F2 p = none := by
        obtain ⟨o, ho⟩ := P.some
        exact g2.f0 f1 ho
      have mul_le : ∀ i : Nat, i ≤ M → i * ce ≤ M * ce := fun i hi => Nat.mul_le_mul_right ce hi
      refine ⟨j, rfl, by omega, by omega, fun D hD => ?_⟩
      have hDp : D ≠ p := fun z => by
        subst z
        obtain ⟨o, ho⟩ := P2.some
        rw [ho] at hD; cases hD
      have hp2 : H2 p ≠ none := by obtain ⟨o, ho⟩ := P2.some; rw [ho]; exact fun z => nomatch z
      refine lc_range (lo := 0) (n := (j : Int).toNat) (fun i H' => i ≤ M ∧ ∃ F' ys ds, Gp p F2 H2 F' H' ∧ F' D = none ∧ F' p = none ∧ H' D = some (.lst ys) ∧ DaAll F' ds ys ∧ ds.length = i ∧ (∀ x ∈ ds, R x) ∧ Pool H' p (n + c0 + i * ce)) ?_ ?_ ?_
      · exact ⟨Nat.zero_le _, F2, [], [], (Gp.refl g2.fh).open' hD hp2, g2.fh.free hD, f2, upd_same, daAll_nil, rfl, (fun x hx => nomatch hx), by
          obtain ⟨c, m, t, h, h1, h2, h3⟩ := P2
          exact ⟨c, m, t, by rw [upd_ne (fun z => hDp z.symm)]; exact h, h1, h2, by omega⟩⟩
      · rintro i H' hi ⟨hiM, F', ys, ds, g', n', np', e', a', hl, hR, P'⟩
        have hi' : i < M := by omega
        have hml := mul_le (i + 1) (by omega)
        rw [Nat.add_mul, Nat.one_mul] at hml
        refine gB_mono _ _ _ _ _ ?_ (hs (0 + (i : Int)) F' H' (by omega) (by omega) (s1.trans (g2.ff.trans g'.ff)))
        rintro σ2 H3 ⟨rfl, hw, hx⟩
        refine ⟨hw, ?_⟩
        unfold tYes
        dsimp only
        rw [if_pos rfl]
        intro s0 H0 C cl fp
        refine hx s0 H0 C cl fp (n + c0 + i * ce) F' H3 (Same.refl _) g'.fh np' P' (by omega) _ fun dx v F4 H4 g4 P4 hv hRx => ?_
        refine ⟨ys, ?_, ?_, by omega, F4, ys ++ [v], ds ++ [dx], ?_, g4.f0 n' e', ?_, upd_same, (a'.mono g4.ff).snoc hv, by simp [hl], ?_, ?_⟩
        · exact g4.hh _ _ hDp e'
        · have := a'.length
          have : sizeLine = 16777216 := by decide
          omega
        · exact (g'.trans g4).mut hD hDp (g4.f0 n' e')
        · obtain ⟨o, ho⟩ := P'.some
          exact g4.f0 np' ho
        · intro x hx'
          rcases List.mem_append.mp hx' with h | h
          · exact hR x h
          · rw [List.mem_singleton] at h; subst h; exact hRx
        · obtain ⟨c, m, t, h, h1, h2, h3⟩ := P4
          refine ⟨c, m, t, by rw [upd_ne (fun z => hDp z.symm)]; exact h, h1, h2, ?_⟩
          rw [Nat.add_mul, Nat.one_mul]
          omega
      · rintro H' ⟨hiM, F', ys, ds, g', n', np', e', a', hl, hR, P'⟩
        have hjj : (j : Int).toNat = j := Int.toNat_natCast j
        rw [hjj] at hl P'
        have hml := mul_le j hj
        exact k (.list ds) (.ref D) (upd F' D (.lst ys)) H' (g2.trans (g'.tell hD n' e')) (P'.mono (Same.refl _) (by omega)) ⟨D, ys, rfl, upd_same, a'.mono (same_upd n')⟩ ⟨ds, rfl, by omega, by rw [hl]; exact hAj, hR⟩ (fun a ea => by
          injection ea with ea
          subst ea
          cases hq : H1 D with
          | none => rfl
          | some o => rw [g2.hh D o hDp hq] at hD; cases hD))
theorem px_lcR {p : Addr} {c0 ce : Nat} {M : Nat} {X : Cx} {σ : St} {F : Hp} {e elt tg : Expr} {scope : Scope} {pos rp q : Pos} (own : List (Str × Nat)) {A : Nat → Prop} {R : PyData → Prop} (o : LcOk X scope own (.Call (.Name "range" q) [e] [] rp)) (hm : X.mg "range" = none)
    (he : Px p c0 X e σ F (fun d => ∃ i : Nat, d = .int i ∧ i ≤ M ∧ A i)) (hM : M ≤ 100000)
    (hs : ∀ (k : Int) F' H', 0 ≤ k → k < M → Same F F' → gB X scope tg (.int k) (wipe σ (own.map (·.2))) H' fun σ2 H2 => H2 = H' ∧ wipe σ2 (own.map (·.2)) = wipe σ (own.map (·.2)) ∧ ∀ s H0 C cl fp, Px p ce (Blk X scope s H0 C cl fp) elt σ2 F' R)
    (hg : Gl X "range" := by rfl) (l : Pl X e [] rp := by exact ⟨rfl, rfl⟩) :
    Px p (c0 + M * ce) X (.ListComp elt [⟨tg, .Call (.Name "range" q) [e] [] rp, [], 0⟩] scope pos) σ F (fun d => ∃ ds, d = .list ds ∧ ds.length ≤ M ∧ A ds.length ∧ ∀ x ∈ ds, R x) := (pxn_lcR own o hm he hM hs hg l).px
/-! ## defs that draw -/
def spP (c n : Nat) (pre : List PyData → Prop) (post : List PyData → PyData → Prop) : Sp := fun vs H Q _ => ∃ (p : Addr) (m : Nat) (F : Hp) (ds : List PyData) (us : List V), vs = .ref p :: us ∧ ds.length = n ∧ Pool H p m ∧ m + c ≤ 1000000 ∧ Same F H ∧ F p = none ∧ DaAll F ds us ∧ pre ds ∧
  ∀ d v F2 H2, Gp p F H F2 H2 → Pool H2 p (m + c) → Da F2 d v → post ds d → Q v H2
/-- .. that tells a new thing -/
def spN (c n : Nat) (pre : List PyData → Prop) (post : List PyData → PyData → Prop) : Sp := fun vs H Q _ => ∃ (p : Addr) (m : Nat) (F : Hp) (ds : List PyData) (us : List V), vs = .ref p :: us ∧ ds.length = n ∧ Pool H p m ∧ m + c ≤ 1000000 ∧ Same F H ∧ F p = none ∧ DaAll F ds us ∧ pre ds ∧
  ∀ d v F2 H2, Gp p F H F2 H2 → Pool H2 p (m + c) → Da F2 d v → post ds d → (∀ a, v = .ref a → H a = none) → Q v H2
def PxA (p : Addr) (c : Nat) (X : Cx) (es : List Expr) (σ : St) (F : Hp) (R : List PyData → Prop) : Prop := ∀ n F1 H1, Same F F1 → Same F1 H1 → F1 p = none → Pool H1 p n → n + c ≤ 1000000 → ∀ Q : List V → Hp → Prop, (∀ ds vs F2 H2, Gp p F1 H1 F2 H2 → Pool H2 p (n + c) → DaAll F2 ds vs → R ds → Q vs H2) → WA X es σ H1 Q
section
variable {p : Addr} {c c1 c2 : Nat} {X : Cx} {σ : St} {F H : Hp} {e a b : Expr} {es : List Expr} {d : PyData} {ds : List PyData} {A : PyData → Prop} {R : List PyData → Prop} {pos q : Pos} {x : Str}
theorem pxa_nil : PxA p 0 X [] σ F (fun ds => ds = []) := fun n F1 H1 s1 s2 f P hn Q k => wa_of pa_nil (k [] [] F1 H1 (Gp.refl s2) P daAll_nil rfl)
theorem pxa_cons (h : Px p c1 X e σ F A) (t : PxA p c2 X es σ F R) (hs : starEach (e :: es) X.env = (false, eval e X.env) :: starEach es X.env := by rfl) : PxA p (c1 + c2) X (e :: es) σ F (fun ds => ∃ d r, ds = d :: r ∧ A d ∧ R r) := fun n F1 H1 s1 s2 f P hn Q k =>
  wa_of (pa_cons pe_we pa_wa hs) (h n F1 H1 s1 s2 f P (by omega) _ fun d v F2 H2 g2 P2 hv hA => t (n + c1) F2 H2 (s1.trans g2.ff) g2.fh (by obtain ⟨o, ho⟩ := P.some; exact g2.f0 f ho) P2 (by omega) _ fun r vs F3 H3 g3 P3 hvs hR =>
    k (d :: r) (v :: vs) F3 H3 (g2.trans g3) (P3.mono (Same.refl _) (by omega)) (daAll_cons (g3.da hv) hvs) ⟨d, r, rfl, hA, hR⟩)
theorem px_call {f : Addr} {fd : FuncData} {k n : Nat} {ps : List Str} {pre : List PyData → Prop} {post : List PyData → PyData → Prop} {B : PyData → Prop} (G : FnOk X.prog X.w X.K X.mg X.base CX0 k f fd ps (spP c2 n pre post)) (hr : Room k X.A) (hm : X.mg x = some (.ref f)) (hk : PySem.W.keepIn X.K (.ref f) = true) (hb : Binds X.K fd ps [])
    (hp : VE X a σ F F (.ref p)) (he : PxA p c1 X es σ F R) (hR : ∀ ds, R ds → ds.length = n ∧ pre ds ∧ ∀ d, post ds d → B d) (hg : Gl X x := by rfl) (hdb : (x == ("__debug__" : Str)) = false := by decide) (l : Pl X a es pos := by exact ⟨rfl, rfl⟩) :
    Px p (c1 + c2) X (.Call (.Name x q) (a :: es) [] pos) σ F B := fun n F1 H1 s1 s2 f1 P hn Q k =>
  we_of (pe_call G hr hg hm hk hb .nil pass0 (pa_cons pe_we pa_wa l.he) hdb l.he l.hpl) ((hp.mono ⟨s1, Same.refl _, s1, fun _ e n => absurd e n⟩).at s2 fun F2 H2 g2 => he n F2 H2 (s1.trans g2.ff) g2.fh (by obtain ⟨o, ho⟩ := P.some; exact g2.f0 f1 ho) (P.mono g2.hh) (by omega) _ fun ds us F3 H3 g3 P3 hus hds => by
    obtain ⟨h1, h2, h3⟩ := hR ds hds
    have f3 : F3 p = none := by
      obtain ⟨o, ho⟩ := P.some
      exact (g2.gp.trans g3).f0 f1 ho
    show spP c2 _ pre post ((.ref p :: us) ++ []) H3 Q E0
    rw [List.append_nil]
    exact ⟨p, n + c1, F3, ds, us, rfl, h1, P3, by omega, g3.fh, f3, hus, h2, fun d v F4 H4 g4 P4 hd hpo => k d v F4 H4 ((g2.gp.trans g3).trans g4) (P4.mono (Same.refl _) (by omega)) hd (h3 d hpo)⟩)
theorem pxn_call {f : Addr} {fd : FuncData} {k n : Nat} {ps : List Str} {pre : List PyData → Prop} {post : List PyData → PyData → Prop} {B : PyData → Prop} (G : FnOk X.prog X.w X.K X.mg X.base CX0 k f fd ps (spN c2 n pre post)) (hr : Room k X.A) (hm : X.mg x = some (.ref f)) (hk : PySem.W.keepIn X.K (.ref f) = true) (hb : Binds X.K fd ps [])
    (hp : VE X a σ F F (.ref p)) (he : PxA p c1 X es σ F R) (hR : ∀ ds, R ds → ds.length = n ∧ pre ds ∧ ∀ d, post ds d → B d) (hg : Gl X x := by rfl) (hdb : (x == ("__debug__" : Str)) = false := by decide) (l : Pl X a es pos := by exact ⟨rfl, rfl⟩) :
    PxN p (c1 + c2) X (.Call (.Name x q) (a :: es) [] pos) σ F B := fun n F1 H1 s1 s2 f1 P hn Q k =>
  we_of (pe_call G hr hg hm hk hb .nil pass0 (pa_cons pe_we pa_wa l.he) hdb l.he l.hpl) ((hp.mono ⟨s1, Same.refl _, s1, fun _ e n => absurd e n⟩).at s2 fun F2 H2 g2 => he n F2 H2 (s1.trans g2.ff) g2.fh (by obtain ⟨o, ho⟩ := P.some; exact g2.f0 f1 ho) (P.mono g2.hh) (by omega) _ fun ds us F3 H3 g3 P3 hus hds => by
    obtain ⟨h1, h2, h3⟩ := hR ds hds
    have f3 : F3 p = none := by
      obtain ⟨o, ho⟩ := P.some
      exact (g2.gp.trans g3).f0 f1 ho
    show spN c2 _ pre post ((.ref p :: us) ++ []) H3 Q E0
    rw [List.append_nil]
    exact ⟨p, n + c1, F3, ds, us, rfl, h1, P3, by omega, g3.fh, f3, hus, h2, fun d v F4 H4 g4 P4 hd hpo hf => k d v F4 H4 ((g2.gp.trans g3).trans g4) (P4.mono (Same.refl _) (by omega)) hd (h3 d hpo) (fun a ea => by
      have h3a := hf a ea
      have gg := g2.gp.trans g3
      have hap : a ≠ p := fun z => by
        subst z
        obtain ⟨o, ho⟩ := P3.some
        rw [ho] at h3a; cases h3a
      cases hq : H1 a with
      | none => rfl
      | some o => rw [gg.hh a o hap hq] at h3a; cases h3a)⟩)
end
section
variable {P : Program} {w : World} {K : PySem.W.Frag} {mg : Str → Option Value} {base : Heap}
theorem okP {x qual : Str} {st : Stmt} {f : Addr} {fd : FuncData} {N ps : List Str} {k c n : Nat} {pre : List PyData → Prop} {post : List PyData → PyData → Prop} (F : Fun K x qual st f fd) (S : FnScope N ps (defScope st)) (hn : ps.length = n + 1)
    (hbody : ∀ (X : Cx) (cdv : Value) (A : Around) (outer : List Env) (s : Shared) (H0 : Hp) (E : XK) (p : Addr) (m : Nat) (us : List V) (F H : Hp) (ds : List PyData) (Q : VK), X = (cxOf CX0 P w K mg base N qual (defScope st) f cdv A outer s H0 E).nox → Room k X.A → Pool H p m → m + c ≤ 1000000 → Same F H → F p = none → DaAll F ds us → pre ds →
      (∀ d v F2 H2, Gp p F H F2 H2 → Pool H2 p (m + c) → Da F2 d v → post ds d → Q v H2) → WSs X (defBody st) { nx := fun _ H' => Q .non H', rt := Q } (start N (.ref p :: us)) H) : FnOk P w K mg base CX0 (k + 1) f fd ps (spP c n pre post) :=
  okW F S (fun vs H Q E ⟨p, m, F, ds, us, e, hl, _, _, _, _, ha, _⟩ => by rw [e, List.length_cons, ha.length, hl, hn]) fun cdv A outer s H vs Q E hr ⟨p, m, F, ds, us, e, hl, hP, hm, hs, hp, ha, hpre, q⟩ => by
    subst e
    exact hbody _ cdv A outer s H E p m us F H ds Q rfl hr hP hm hs hp ha hpre q
theorem okN {x qual : Str} {st : Stmt} {f : Addr} {fd : FuncData} {N ps : List Str} {k c n : Nat} {pre : List PyData → Prop} {post : List PyData → PyData → Prop} (F : Fun K x qual st f fd) (S : FnScope N ps (defScope st)) (hn : ps.length = n + 1)
    (hbody : ∀ (X : Cx) (cdv : Value) (A : Around) (outer : List Env) (s : Shared) (H0 : Hp) (E : XK) (p : Addr) (m : Nat) (us : List V) (F H : Hp) (ds : List PyData) (Q : VK), X = (cxOf CX0 P w K mg base N qual (defScope st) f cdv A outer s H0 E).nox → Room k X.A → Pool H p m → m + c ≤ 1000000 → Same F H → F p = none → DaAll F ds us → pre ds →
      (∀ d v F2 H2, Gp p F H F2 H2 → Pool H2 p (m + c) → Da F2 d v → post ds d → (∀ a, v = .ref a → H a = none) → Q v H2) → WSs X (defBody st) { nx := fun _ H' => Q .non H', rt := Q } (start N (.ref p :: us)) H) : FnOk P w K mg base CX0 (k + 1) f fd ps (spN c n pre post) :=
  okW F S (fun vs H Q E ⟨p, m, F, ds, us, e, hl, _, _, _, _, ha, _⟩ => by rw [e, List.length_cons, ha.length, hl, hn]) fun cdv A outer s H vs Q E hr ⟨p, m, F, ds, us, e, hl, hP, hm, hs, hp, ha, hpre, q⟩ => by
    subst e
    exact hbody _ cdv A outer s H E p m us F H ds Q rfl hr hP hm hs hp ha hpre q
end
/-! ## the script -/
section
variable {X : Cx} {σ : St} {F H : Hp} {e a b : Expr} {pos p : Pos} {l : Addr} {ns : List Int} {i : Int}
theorem de_lenQ (hm : X.mg "len" = none) (ha : VE X e σ F H (.ref l)) (hq : SqL X.K F l (ns.map V.int)) (hg : Gl X "len" := by rfl) (pl : Pl X e [] pos := by exact ⟨rfl, rfl⟩) : DE X (.Call (.Name "len" p) [e] [] pos) σ F H (.int ns.length) := fun F1 H1 g Q q =>
  we_of (pe_callB call_len hg hm PySem.boot_len (pa_cons pe_we pa_nil pl.he) (by decide) (by decide) pl.he pl.hpl) (ha F1 H1 g _ fun F2 H2 g2 => ⟨_, (ns.map V.int).length, rfl, .inl ⟨_, (g.trans g2).same.seq hq, rfl⟩, q _ F2 H2 g2 (by rw [List.length_map]; rfl)⟩)
theorem de_ixQ {n : Int} (ha : VE X a σ F H (.ref l)) (hb : DE X b σ F H (.int i)) (hq : SqL X.K F l (ns.map V.int)) (h0 : 0 ≤ i) (hn : ns[i.toNat]? = some n) (hs : PlainIx b := by exact fun _ _ => rfl) : DE X (.Subscript a b pos) σ F H (.int n) := fun F1 H1 g Q q =>
  we_of (pe_ix ix_list pe_we pe_we hs) (ha F1 H1 g _ fun F2 H2 g2 => hb F2 H2 (g.trans g2) _ fun y F3 H3 g3 hy =>
    ⟨l, ns.map V.int, i, .int n, rfl, hy, ((g.trans g2).trans g3).same.seq hq, at_of (j := i.toNat) (by omega) (by rw [List.getElem?_map, hn]; rfl), q _ F3 H3 (g2.trans g3) rfl⟩)
end
section
variable {X : Cx} {σ : St} {F H : Hp} {e a b : Expr} {pos p : Pos} {i j : Int}
theorem de_min2 (hm : X.mg "min" = none) (hc : X.calm = true) (ha : DE X a σ F H (.int i)) (hb : DE X b σ F H (.int j)) (hg : Gl X "min" := by rfl) (l : Pl X a [b] pos := by exact ⟨rfl, rfl⟩) (l2 : starEach [b] X.env = [(false, eval b X.env)] := by rfl) : DE X (.Call (.Name "min" p) [a, b] [] pos) σ F H (.int (min i j)) :=
  de_callB (call_min2 hc) hg hm (by decide +kernel) (dl_cons ha (dl_cons hb dl_nil l2) l.he) (fun vs F1 H1 g1 hv Q q => by
    obtain ⟨v, u, rfl, h1, h2⟩ := daAll2 hv
    obtain rfl : v = .int i := h1
    obtain rfl : u = .int j := h2
    refine ⟨i, j, rfl, q _ F1 H1 (.refl g1.fh) ?_⟩
    show V.int _ = V.int _
    congr 1
    split <;> omega) ⟨by decide, by decide⟩ l
theorem de_max2 (hm : X.mg "max" = none) (hc : X.calm = true) (ha : DE X a σ F H (.int i)) (hb : DE X b σ F H (.int j)) (hg : Gl X "max" := by rfl) (l : Pl X a [b] pos := by exact ⟨rfl, rfl⟩) (l2 : starEach [b] X.env = [(false, eval b X.env)] := by rfl) : DE X (.Call (.Name "max" p) [a, b] [] pos) σ F H (.int (max i j)) :=
  de_callB (call_max2 hc) hg hm (by decide +kernel) (dl_cons ha (dl_cons hb dl_nil l2) l.he) (fun vs F1 H1 g1 hv Q q => by
    obtain ⟨v, u, rfl, h1, h2⟩ := daAll2 hv
    obtain rfl : v = .int i := h1
    obtain rfl : u = .int j := h2
    refine ⟨i, j, rfl, q _ F1 H1 (.refl g1.fh) ?_⟩
    show V.int _ = V.int _
    congr 1
    split <;> omega) ⟨by decide, by decide⟩ l
/-- a new list that stays open -/
theorem we_lst {es : List Expr} {ds : List PyData} (h : DL X es σ F F ds) (s : Same F H) (hz : ds.length ≤ sizeLine) {Q : VK} (q : ∀ l vs F2 H2, Gr F H F2 H2 → DaAll F2 ds vs → H2 l = none → Q (.ref l) (upd H2 l (.lst vs))) : WE X (.List es pos) σ H Q :=
  we_of (pe_lst pa_wa) (h.at s fun vs F2 H2 g2 hvs => ⟨by rw [hvs.length]; exact hz, fun l hl => q l vs F2 H2 g2 hvs hl⟩)
end
end Kr

/-! layer Kr8 -/
namespace Kr
open PySem L2
/-! ## texts of letters -/
def LS (x : Str) : Prop := ∀ c ∈ x.cps.toList, c ∈ letters.cps.toList
theorem isKind_iff {x : Str} : isKind x = true ↔ LS x ∧ 1 ≤ x.length ∧ x.length ≤ 4 := by
  unfold isKind LS
  simp only [Bool.and_eq_true, List.all_eq_true, decide_eq_true_eq]
  constructor
  · rintro ⟨⟨h1, h2⟩, h3⟩; exact ⟨h3, by omega, by omega⟩
  · rintro ⟨h1, h2, h3⟩; exact ⟨⟨by omega, by omega⟩, h1⟩
theorem str_append_cps (x y : Str) : (x ++ y).cps.toList = x.cps.toList ++ y.cps.toList := by
  show (x.cps ++ y.cps).toList = _
  simp
theorem str_append_length (x y : Str) : (x ++ y).length = x.length + y.length := by
  show (x.cps ++ y.cps).size = x.cps.size + y.cps.size
  simp
theorem LS.append {x y : Str} (h : LS x) (h' : LS y) : LS (x ++ y) := fun c hc => by
  rw [str_append_cps] at hc
  rcases List.mem_append.mp hc with z | z
  · exact h c z
  · exact h' c z
theorem LS.one {c : Nat} (h : c ∈ letters.cps.toList) : LS ⟨#[c]⟩ := fun d hd => by
  have : d = c := by simpa using hd
  rw [this]; exact h
theorem cutS_mem {z : Str} {lo hi : Option Int} {c : Nat} (h : c ∈ (cutS z lo hi).cps.toList) : c ∈ z.cps.toList := by
  unfold cutS at h
  simp only at h
  rw [List.toList_toArray] at h
  exact List.mem_of_mem_drop (List.mem_of_mem_take h)
theorem LS.cut {z : Str} (h : LS z) (lo hi : Option Int) : LS (cutS z lo hi) := fun c hc => h c (cutS_mem hc)
theorem cutS_hi_length (z : Str) (k : Nat) : (cutS z none (some (k : Int))).length = min k z.length := by
  unfold cutS Str.length
  rw [HT.sIx_none, HT.sIx_nat]
  simp only [List.size_toArray, List.length_take, List.length_drop, Array.length_toList]
  omega
theorem cutS_lo_length (z : Str) (k : Nat) : (cutS z (some (k : Int)) none).length = z.length - k := by
  unfold cutS Str.length
  rw [HT.sIx_none, HT.sIx_nat]
  simp only [List.size_toArray, List.length_take, List.length_drop, Array.length_toList]
  omega
theorem join_nil_cps : ∀ ys : List Str, (Str.join "" ys).cps.toList = (ys.map fun y => y.cps.toList).flatten
  | [] => rfl
  | [x] => by simp [Str.join]
  | x :: y :: r => by
    show (x ++ ("" : Str) ++ Str.join "" (y :: r)).cps.toList = _
    rw [str_append_cps, str_append_cps, join_nil_cps (y :: r)]
    have : (("" : Str)).cps.toList = [] := by decide +kernel
    rw [this, List.append_nil]
    rfl
/-- texts of one letter each, joined -/
theorem join_letters {ys : List Str} (h : ∀ y ∈ ys, ∃ c ∈ letters.cps.toList, y = ⟨#[c]⟩) : LS (Txt.join "" ys) ∧ (Txt.join "" ys).length = ys.length := by
  have e : Txt.join "" ys = Str.join "" ys := StrLaws.glued_eq_join _ _
  rw [e]
  constructor
  · intro c hc
    rw [join_nil_cps] at hc
    obtain ⟨l, hl, hcl⟩ := List.mem_flatten.mp hc
    obtain ⟨y, hy, rfl⟩ := List.mem_map.mp hl
    obtain ⟨d, hd, rfl⟩ := h y hy
    have : c = d := by simpa using hcl
    rw [this]; exact hd
  · have : (Str.join "" ys).length = (Str.join "" ys).cps.toList.length := by simp [Str.length]
    rw [this, join_nil_cps]
    clear e this
    induction ys with
    | nil => rfl
    | cons y ys ih =>
      obtain ⟨d, hd, rfl⟩ := h y List.mem_cons_self
      have := ih (fun z hz => h z (List.mem_cons_of_mem _ hz))
      simp only [List.map_cons, List.flatten_cons, List.length_append, List.length_cons, this]
      simp
      omega
theorem subset_length {α : Type} [DecidableEq α] : ∀ {l ks : List α}, l.Nodup → (∀ x ∈ l, x ∈ ks) → l.length ≤ ks.length
  | [], _, _, _ => Nat.zero_le _
  | x :: l, ks, hn, h => by
    have hx : x ∈ ks := h x List.mem_cons_self
    have hn' := List.nodup_cons.mp hn
    have := subset_length (ks := ks.erase x) hn'.2 fun y hy => by
      have hne : y ≠ x := fun e => by subst e; exact hn'.1 hy
      exact (List.mem_erase_of_ne hne).mpr (h y (List.mem_cons_of_mem _ hy))
    rw [List.length_erase_of_mem hx] at this
    have : 0 < ks.length := List.length_pos_of_mem hx
    simp only [List.length_cons]
    omega
/-! ## rules for texts -/
section
variable {X : Cx} {σ : St} {F H : Hp} {e a b o : Expr} {pos p apos p2 : Pos} {x y z : Str} {i j : Int} {xs : List Str}
theorem de_join {ys : List Str} (ho : DE X o σ F H (.str z)) (he : DE X e σ F H (.list (ys.map .str))) (hz : (ys.map (·.length)).sum + ys.length * z.length ≤ 16777216) (hs : starEach [e] X.env = [(false, eval e X.env)] := by rfl) (hbase : attributeBase o "join" X.env (eval o X.env) = eval o X.env := by rfl) (hline : (apos.endLine == pos.line) = true := by rfl) :
    DE X (.Call (.Attribute o "join" apos) [e] [] pos) σ F H (.str (Txt.join z ys)) := fun F1 H1 g Q q =>
  we_of (pe_join pe_we pe_we hs hbase hline) (ho F1 H1 g _ fun v F2 H2 g2 hv => ⟨⟨z, hv⟩, he F2 H2 (g.trans g2) _ fun u F3 H3 g3 hu => by
    obtain ⟨l, vs, rfl, h1, h2⟩ := hu
    obtain rfl := h2.strs
    exact ⟨z, l, ys, hv, rfl, .inl (SqL.of (g3.fh _ _ h1)), hz, q _ F3 H3 (g2.trans g3) rfl⟩⟩)
theorem de_slHi (he : DE X e σ F H (.str z)) (hh : DE X b σ F H (.int i)) (hz : z.length ≤ sizeLine) : DE X (.Subscript e (.Slice none (some b) none p2) pos) σ F H (.str (cutS z none (some i))) := fun F1 H1 g Q q =>
  we_of (pe_slice sl_str pe_we po_none (po_some pe_we)) (he F1 H1 g _ fun v F2 H2 g2 hv => hh F2 H2 (g.trans g2) _ fun u F3 H3 g3 hu => ⟨i, hu, z, hv, hz, q _ F3 H3 (g2.trans g3) rfl⟩)
theorem de_slLo (he : DE X e σ F H (.str z)) (hh : DE X b σ F H (.int i)) (hz : z.length ≤ sizeLine) : DE X (.Subscript e (.Slice (some b) none none p2) pos) σ F H (.str (cutS z (some i) none)) := fun F1 H1 g Q q =>
  we_of (pe_slice sl_str pe_we (po_some pe_we) po_none) (he F1 H1 g _ fun v F2 H2 g2 hv => hh F2 H2 (g.trans g2) _ fun u F3 H3 g3 hu => ⟨i, hu, z, hv, hz, q _ F3 H3 (g2.trans g3) rfl⟩)
theorem inV_strs (x : Str) : ∀ xs : List Str, inV (.str x) (xs.map V.str) = decide (x ∈ xs)
  | [] => rfl
  | y :: ys => by
    have ih := inV_strs x ys
    unfold inV at ih ⊢
    rw [List.map_cons, List.any_cons, ih]
    show ((y == x) || decide (x ∈ ys)) = _
    by_cases h : y = x
    · subst h; simp
    · have h' : x ≠ y := fun e => h e.symm
      simp [h, h']
theorem flat_strs (xs : List Str) : (xs.map V.str).all flatV = true := by
  rw [List.all_map, List.all_eq_true]
  intro x _; rfl
theorem c_inS (ha : DE X a σ F H (.str x)) (hb : DE X b σ F H (.list (xs.map .str))) (hm : behindInMarks .In b = false := by rfl) : DC X .In a b σ F H (decide (x ∈ xs)) :=
  c_cmp op_in_seq hm ha hb fun x' y' F1 H1 g1 hx hy Q q => by
    obtain rfl : x' = .str x := hx
    obtain ⟨l, vs, rfl, h1, h2⟩ := hy
    obtain rfl := h2.strs
    exact ⟨l, _, rfl, .inl (SqL.of (g1.fh _ _ h1)), rfl, flat_strs _, q _ F1 H1 (.refl g1.fh) (by rw [inV_strs]; rfl)⟩
theorem c_notInS (ha : DE X a σ F H (.str x)) (hb : DE X b σ F H (.list (xs.map .str))) (hm : behindInMarks .NotIn b = false := by rfl) : DC X .NotIn a b σ F H (!decide (x ∈ xs)) :=
  c_cmp op_notIn_seq hm ha hb fun x' y' F1 H1 g1 hx hy Q q => by
    obtain rfl : x' = .str x := hx
    obtain ⟨l, vs, rfl, h1, h2⟩ := hy
    obtain rfl := h2.strs
    exact ⟨l, _, rfl, .inl (SqL.of (g1.fh _ _ h1)), rfl, flat_strs _, q _ F1 H1 (.refl g1.fh) (by rw [inV_strs]; rfl)⟩
end
section
variable {p : Addr} {c c1 c2 : Nat} {X : Cx} {σ : St} {F : Hp} {e a b o : Expr} {pos q apos p2 : Pos} {A B : Str → Prop} {R : PyData → Prop} {z : Str}
theorem px_ixS (ha : DE X a σ F F (.str z)) (hz : z.length ≤ sizeLine) (hb : Px p c X b σ F (fun d => ∃ i, d = .int i ∧ (0 : Int) ≤ i ∧ i < z.length)) (hs : PlainIx b := by exact fun _ _ => rfl) : Px p c X (.Subscript a b pos) σ F (fun d => ∃ cp ∈ z.cps.toList, d = .str ⟨#[cp]⟩) := fun n F1 H1 s1 s2 f P hn Q k =>
  we_of (pe_ix ix_str pe_we pe_we hs) ((ha.f s1).at s2 fun x F2 H2 g2 hx => hb n F2 H2 (s1.trans g2.ff) g2.fh (by obtain ⟨o, ho⟩ := P.some; exact g2.f0 f ho) (P.mono g2.hh) hn _ fun d y F3 H3 g3 P3 hy hB => by
    obtain ⟨i, rfl, h0, hl⟩ := hB
    have hi : i.toNat < z.cps.toList.length := by
      simp only [Array.length_toList]
      have : z.length = z.cps.size := rfl
      omega
    have e : z.cps.toList[i.toNat]? = some z.cps.toList[i.toNat] := List.getElem?_eq_getElem hi
    refine ⟨z, i, z.cps.toList[i.toNat], hx, hy, hz, ?_, k (.str ⟨#[z.cps.toList[i.toNat]]⟩) (.str ⟨#[z.cps.toList[i.toNat]]⟩) F3 H3 (g2.gp.trans g3) P3 rfl ⟨_, List.getElem_mem hi, rfl⟩⟩
    exact Eq.trans (congrArg (atI z.cps.toList) (show i = (i.toNat : Int) by omega)) (atI_nat e))
theorem px_addS (ha : Px p c1 X a σ F (fun d => ∃ x, d = .str x ∧ A x ∧ x.length ≤ 100000)) (hb : Px p c2 X b σ F (fun d => ∃ x, d = .str x ∧ B x ∧ x.length ≤ 100000)) : Px p (c1 + c2) X (.BinOp a .Add b pos) σ F (fun d => ∃ x y, d = .str (x ++ y) ∧ A x ∧ B y) :=
  px_op op_add_str ha hb fun d1 d2 x y F1 H1 s1 s2 ⟨i, e1, hi, li⟩ ⟨j, e2, hj, lj⟩ hx hy Q q => by
    subst e1 e2
    exact ⟨i, j, hx, hy, (by have e : sizeLine = 16777216 := (by decide); omega), q (.str (i ++ j)) (.str (i ++ j)) F1 H1 (.refl s2) rfl ⟨i, j, rfl, hi, hj⟩⟩
theorem px_slHi {i : Int} (ha : Px p c X e σ F (fun d => ∃ x, d = .str x ∧ A x ∧ x.length ≤ 100000)) (hb : DE X b σ F F (.int i)) : Px p c X (.Subscript e (.Slice none (some b) none p2) pos) σ F (fun d => ∃ x, d = .str (cutS x none (some i)) ∧ A x) := fun n F1 H1 s1 s2 f P hn Q k =>
  we_of (pe_slice sl_str pe_we po_none (po_some pe_we)) (ha n F1 H1 s1 s2 f P hn _ fun d v F2 H2 g2 P2 hv hA => by
    obtain ⟨x, rfl, hx, hl⟩ := hA
    refine (hb.f (s1.trans g2.ff)).at g2.fh fun u F3 H3 g3 hu => ⟨i, hu, x, hv, sz100 hl, k (.str _) (.str _) F3 H3 (g2.trans g3.gp) (P2.mono g3.hh) rfl ⟨x, rfl, hx⟩⟩)
theorem px_join {ys : List Str} (ho : DE X o σ F F (.str z)) (he : Px p c X e σ F (fun d => ∃ ys : List Str, d = .list (ys.map .str) ∧ (ys.map (·.length)).sum + ys.length * z.length ≤ 16777216 ∧ R (.str (Txt.join z ys)))) (hs : starEach [e] X.env = [(false, eval e X.env)] := by rfl) (hbase : attributeBase o "join" X.env (eval o X.env) = eval o X.env := by rfl) (hline : (apos.endLine == pos.line) = true := by rfl) :
    Px p c X (.Call (.Attribute o "join" apos) [e] [] pos) σ F R := fun n F1 H1 s1 s2 f P hn Q k =>
  we_of (pe_join pe_we pe_we hs hbase hline) ((ho.f s1).at s2 fun v F2 H2 g2 hv => ⟨⟨z, hv⟩, he n F2 H2 (s1.trans g2.ff) g2.fh (by obtain ⟨o, ho⟩ := P.some; exact g2.f0 f ho) (P.mono g2.hh) hn _ fun d u F3 H3 g3 P3 hu hB => by
    obtain ⟨ys, rfl, hz, hR⟩ := hB
    obtain ⟨l, vs, rfl, h1, h2⟩ := hu
    obtain rfl := h2.strs
    exact ⟨z, l, ys, hv, rfl, .inl (SqL.of (g3.fh _ _ h1)), hz, k (.str (Txt.join z ys)) (.str _) F3 H3 (g2.gp.trans g3) P3 rfl hR⟩⟩)
end
/-! ## methods of lists -/
structure Bm (X : Cx) (o : Expr) (name : Str) (e : Expr) (es : List Expr) (apos cpos : Pos) : Prop where
  hbase : attributeBase o name X.env (eval o X.env) = eval o X.env
  hfew : ((backTo cpos (starEach (e :: es) X.env)).all (fun x => !x.1) && (backToKw cpos (keywordEach [] X.env)).all (fun x => x.1.isSome)
      && decide ((e :: es).length + ([] : List Keyword).length + (if ([] : List Keyword).isEmpty then 0 else 1) < 30)) = true
  hline : (apos.endLine == cpos.line) = true
  hs : starEach (e :: es) X.env = (false, eval e X.env) :: starEach es X.env
  hplain : (backTo cpos (starEach es X.env)).any (·.1) = false
section
variable {X : Cx} {σ : St} {F H : Hp} {e o : Expr} {d : PyData} {apos cpos pos : Pos} {l : Addr} {xs : List V} {D : Ends}
theorem ws_append (ho : VE X o σ F F (.ref l)) (he : DE X e σ F F d) (s : Same F H) (hl : H l = some (.lst xs)) (hz : xs.length < sizeLine) (q : ∀ v F2 H2, Gr F H F2 H2 → Da F2 d v → D.nx σ (upd H2 l (.lst (xs ++ [v]))))
    (b : Bm X o "append" e [] apos cpos := by exact ⟨rfl, rfl, rfl, rfl, rfl⟩) (hsw : swapsWith (.Call (.Attribute o "append" apos) [e] [] cpos) none pos.line X.env = pure false := by rfl) : WS X (.Expr (.Call (.Attribute o "append" apos) [e] [] cpos) pos) D σ H :=
  ws_expr (we_of (pe_bm PySem.F.plainAttrs_list PySem.F.slot_list_append PySem.F.type_list_append mt_append pe_we (pa_cons pe_we pa_nil b.hs) b.hbase b.hfew b.hline b.hs b.hplain)
    (ho.at s fun F2 H2 g2 => ⟨.inl ⟨rfl, xs, SqL.of (g2.hh _ _ hl)⟩, (he.f g2.ff).at g2.fh fun v F3 H3 g3 hv => ⟨l, xs, v, rfl, rfl, (g2.trans g3).hh _ _ hl, hz, q v F3 H3 (g2.trans g3) hv⟩⟩)) hsw
/-- .. what is put there draws -/
theorem ws_appendX {p : Addr} {c n : Nat} {R : PyData → Prop} (ho : VE X o σ F F (.ref l)) (he : Px p c X e σ F R) (s : Same F H) (hl : H l = some (.lst xs)) (hlp : l ≠ p) (hz : xs.length < sizeLine) (f : F p = none) (P : Pool H p n) (hn : n + c ≤ 1000000)
    (q : ∀ d v F2 H2, Gp p F H F2 H2 → Pool H2 p (n + c) → Da F2 d v → R d → D.nx σ (upd H2 l (.lst (xs ++ [v]))))
    (b : Bm X o "append" e [] apos cpos := by exact ⟨rfl, rfl, rfl, rfl, rfl⟩) (hsw : swapsWith (.Call (.Attribute o "append" apos) [e] [] cpos) none pos.line X.env = pure false := by rfl) : WS X (.Expr (.Call (.Attribute o "append" apos) [e] [] cpos) pos) D σ H :=
  ws_expr (we_of (pe_bm PySem.F.plainAttrs_list PySem.F.slot_list_append PySem.F.type_list_append mt_append pe_we (pa_cons pe_we pa_nil b.hs) b.hbase b.hfew b.hline b.hs b.hplain)
    (ho.at s fun F2 H2 g2 => ⟨.inl ⟨rfl, xs, SqL.of (g2.hh _ _ hl)⟩, he n F2 H2 g2.ff g2.fh (by obtain ⟨o, ho⟩ := P.some; exact g2.f0 f ho) (P.mono g2.hh) hn _ fun d v F3 H3 g3 P3 hv hR => ⟨l, xs, v, rfl, rfl, g3.hh _ _ hlp (g2.hh _ _ hl), hz, q d v F3 H3 (g2.gp.trans g3) P3 hv hR⟩⟩)) hsw
end
theorem Gp.back {p : Addr} {F F' H F2 H2 : Hp} (g : Gp p F' H F2 H2) (s : Same F F') : Gp p F H F H2 := ⟨Same.refl _, s.trans (g.ff.trans g.fh), g.hh, g.at', fun _ e _ => e⟩
theorem Gr.back {F F' H F2 H2 : Hp} (g : Gr F' H F2 H2) (s : Same F F') : Gr F H F H2 := ⟨Same.refl _, s.trans (g.ff.trans g.fh), g.hh, fun _ e _ => e⟩
theorem Same.cell {F H : Hp} {l : Addr} {o : HO} (s : Same F H) (h : H l = some o) : Same (upd F l o) H := fun b x e => by
  by_cases hb : b = l
  · subst hb; rw [upd_same] at e; rw [h]; exact e
  · rw [upd_ne hb] at e; exact s _ _ e
theorem atI_neg1 {α : Type} {xs : List α} {x : α} (h : xs ≠ []) (e : xs.getLast? = some x) : L2.atI xs (-1) = some x := by
  obtain ⟨ys, rfl⟩ := List.getLast?_eq_some_iff.mp e
  exact atI_last ys x
end Kr

/-! layer Kr9 -/
namespace Kr
open PySem L2
/-! ## all that is new is told for the time being -/
def Fz (F0 H0 H : Hp) : Hp := fun b => if ((H0 b).isNone || (F0 b).isSome) = true then H b else none
/-- behind a start at F0, H0: all but the pool stands; so many drawings -/
structure HS (p : Addr) (F0 H0 H : Hp) (n : Nat) : Prop where
  s0 : Same F0 H0
  f0 : F0 p = none
  p0 : H0 p ≠ none
  hh : ∀ b o, b ≠ p → H0 b = some o → H b = some o
  P : Pool H p n
section
variable {p : Addr} {F0 H0 H H2 F2 : Hp} {n m : Nat} {q : Addr} {o : HO}
theorem Fz.new (h : H0 q = none) : Fz F0 H0 H q = H q := by
  unfold Fz
  rw [h]
  rfl
theorem Fz.le : Same (Fz F0 H0 H) H := fun b x e => by
  unfold Fz at e
  split at e
  · exact e
  · cases e
theorem HS.fp (s : HS p F0 H0 H n) : Fz F0 H0 H p = none := by
  unfold Fz
  rw [s.f0]
  cases h : H0 p with
  | none => exact absurd h s.p0
  | some o => rfl
theorem HS.sF (s : HS p F0 H0 H n) : Same F0 H := fun b x e => s.hh b x (ne_of_none e s.f0) (s.s0 b x e)
theorem HS.sz (s : HS p F0 H0 H n) : Same F0 (Fz F0 H0 H) := fun b x e => by
  unfold Fz
  rw [e]
  show (if ((H0 b).isNone || true) = true then H b else none) = some x
  rw [Bool.or_true, if_pos rfl]
  exact s.sF b x e
theorem HS.gp (s : HS p F0 H0 H n) : Gp p F0 H0 (Fz F0 H0 H) H := ⟨s.sz, Fz.le, s.hh, fun _ => (by obtain ⟨o, ho⟩ := s.P.some; rw [ho]; exact fun z => nomatch z), fun b e hn => by
  unfold Fz
  rw [e]
  cases h : H0 b with
  | none => exact absurd h hn
  | some o => rfl⟩
theorem HS.step (s : HS p F0 H0 H n) (g : Gp p (Fz F0 H0 H) H F2 H2) (P : Pool H2 p m) : HS p F0 H0 H2 m := ⟨s.s0, s.f0, s.p0, fun b o hb e => g.hh b o hb (s.hh b o hb e), P⟩
theorem HS.gr (s : HS p F0 H0 H n) {F : Hp} (g : Gr F H F2 H2) : HS p F0 H0 H2 n := ⟨s.s0, s.f0, s.p0, fun b o hb e => g.hh b o (s.hh b o hb e), s.P.mono g.hh⟩
theorem HS.up (s : HS p F0 H0 H n) (h : n ≤ m) : HS p F0 H0 H m := ⟨s.s0, s.f0, s.p0, s.hh, s.P.mono (Same.refl _) h⟩
theorem HS.ne (s : HS p F0 H0 H n) (h : H0 q = none) : q ≠ p := fun z => by subst z; exact s.p0 h
theorem HS.ne' (s : HS p F0 H0 H n) (h : H q = none) : q ≠ p := fun z => by
  subst z
  obtain ⟨o, ho⟩ := s.P.some
  rw [ho] at h; cases h
theorem HS.free (s : HS p F0 H0 H n) (h : H q = none) : H0 q = none := by
  cases e : H0 q with
  | none => rfl
  | some o => rw [s.hh q o (s.ne' h) e] at h; cases h
theorem HS.mut (s : HS p F0 H0 H n) (h : H0 q = none) : HS p F0 H0 (upd H q o) n := ⟨s.s0, s.f0, s.p0, fun b u hb e => by rw [upd_ne (ne_of_none e h)]; exact s.hh b u hb e, by
  obtain ⟨c, k, t, h1, h2, h3, h4⟩ := s.P
  exact ⟨c, k, t, by rw [upd_ne (fun z => s.ne h z.symm)]; exact h1, h2, h3, h4⟩⟩
theorem HS.start (s : Same F0 H0) (f : F0 p = none) (P : Pool H0 p n) : HS p F0 H0 H0 n := ⟨s, f, (by obtain ⟨o, ho⟩ := P.some; rw [ho]; exact fun z => nomatch z), fun _ _ _ e => e, P⟩
/-- what stands at new addresses is told -/
theorem HS.ks (h : H0 q = none) {ks : List Str} (e : H q = some (.lst (ks.map V.str))) : Da (Fz F0 H0 H) (ksD ks) (.ref q) := ⟨q, _, rfl, by rw [Fz.new h]; exact e, daAll_strs ks⟩
end
/-! ## rooms that are being made -/
structure RC where
  t : Addr
  d : Addr
  k : Addr
  locks : List Str
  keys : List Str
structure RoomAt (H0 H : Hp) (r : RC) : Prop where
  t0 : H0 r.t = none
  d0 : H0 r.d = none
  k0 : H0 r.k = none
  ht : H r.t = some (.tup [.ref r.d, .ref r.k])
  hd : H r.d = some (.lst (r.locks.map V.str))
  hk : H r.k = some (.lst (r.keys.map V.str))
def RC.room (r : RC) : Room' := (r.locks, r.keys)
theorem RoomAt.da {F0 H0 H : Hp} {r : RC} (h : RoomAt H0 H r) : Da (Fz F0 H0 H) (roomD r.room) (.ref r.t) :=
  ⟨r.t, _, rfl, by rw [Fz.new h.t0]; exact h.ht, daAll_cons (HS.ks h.d0 h.hd) (daAll_cons (HS.ks h.k0 h.hk) daAll_nil)⟩
theorem rooms_da {F0 H0 H : Hp} : ∀ {rs : List RC}, (∀ r ∈ rs, RoomAt H0 H r) → DaAll (Fz F0 H0 H) (rs.map fun r => roomD r.room) (rs.map fun r => V.ref r.t)
  | [], _ => daAll_nil
  | r :: rs, h => daAll_cons (h r List.mem_cons_self).da (rooms_da fun x m => h x (List.mem_cons_of_mem _ m))
theorem RoomAt.keep {H0 H H2 : Hp} {r : RC} (h : RoomAt H0 H r) (k : ∀ b o, (b = r.t ∨ b = r.d ∨ b = r.k) → H b = some o → H2 b = some o) : RoomAt H0 H2 r :=
  ⟨h.t0, h.d0, h.k0, k _ _ (.inl rfl) h.ht, k _ _ (.inr (.inl rfl)) h.hd, k _ _ (.inr (.inr rfl)) h.hk⟩
/-- each list of keys is its own -/
def Apart (rs : List RC) : Prop := ∀ (i j : Nat) (r s : RC), rs[i]? = some r → rs[j]? = some s → (r.k = s.k → i = j) ∧ r.k ≠ s.d ∧ r.k ≠ s.t
/-- what a drawn house is -/
structure HouseOf (most tot : Nat) (h : House) : Prop where
  good : GoodHouse h
  rooms : h.2.length ≤ most
  begin' : h.1.length ≤ tot
  each : ∀ r ∈ h.2, r.2.length ≤ tot
  total : (h.2.map fun r => r.2.length).sum ≤ tot
  kinds : ∃ ks : List Str, ks.length ≤ 60 ∧ (∀ k ∈ h.1, k ∈ ks) ∧ ∀ r ∈ h.2, (∀ k ∈ r.1, k ∈ ks) ∧ ∀ k ∈ r.2, k ∈ ks
theorem strs_sub {ks : List Str} {es : List PyData} (h : ∀ x ∈ es, x ∈ ks.map PyData.str) : ∃ ys : List Str, es = ys.map .str ∧ ∀ y ∈ ys, y ∈ ks := by
  induction es with
  | nil => exact ⟨[], rfl, fun y hy => nomatch hy⟩
  | cons d ds ih =>
    obtain ⟨ys, rfl, hy⟩ := ih fun x hx => h x (List.mem_cons_of_mem _ hx)
    obtain ⟨c, hc, rfl⟩ := List.mem_map.mp (h _ List.mem_cons_self)
    refine ⟨c :: ys, rfl, fun y hm => ?_⟩
    rcases List.mem_cons.mp hm with rfl | hm
    · exact hc
    · exact hy y hm
section
variable {X : Cx} {σ : St} {F H : Hp} {e : Expr} {pos p : Pos} {ns : List Int}
theorem de_sum (hm : X.mg "sum" = none) (hc : X.calm = true) (ha : DE X e σ F H (.list (ns.map .int))) (hg : Gl X "sum" := by rfl) (l : Pl X e [] pos := by exact ⟨rfl, rfl⟩) : DE X (.Call (.Name "sum" p) [e] [] pos) σ F H (.int ns.sum) :=
  de_callB (cr_sum hc) hg hm (by decide +kernel) (dl_cons ha dl_nil l.he) (fun vs F1 H1 g1 hv Q q => by
    obtain ⟨v, rfl, a, xs, rfl, h1, h2⟩ := daAll1 hv
    obtain rfl := h2.ints
    exact ⟨_, ns, rfl, SqL.of (g1.fh _ _ h1), q _ F1 H1 (.refl g1.fh) rfl⟩) ⟨by decide, by decide⟩ l
end
section
variable {p : Addr} {c c1 c2 : Nat} {X : Cx} {σ : St} {F : Hp} {e a b : Expr} {pos q : Pos} {A B : Int → Prop}
theorem px_min (hm : X.mg "min" = none) (hc : X.calm = true) (ha : Px p c1 X a σ F (fun d => ∃ i, d = .int i ∧ A i)) (hb : Px p c2 X b σ F (fun d => ∃ i, d = .int i ∧ B i)) (hg : Gl X "min" := by rfl) (l : Pl X a [b] pos := by exact ⟨rfl, rfl⟩) (l2 : starEach [b] X.env = [(false, eval b X.env)] := by rfl) :
    Px p (c1 + c2) X (.Call (.Name "min" q) [a, b] [] pos) σ F (fun d => ∃ i j, d = .int (min i j) ∧ A i ∧ B j) := fun n F1 H1 s1 s2 f P hn Q k =>
  we_of (pe_callB (call_min2 hc) hg hm (by decide +kernel) (pa_cons pe_we (pa_cons pe_we pa_nil l2) l.he) (by decide) (by decide) l.he l.hpl) (ha n F1 H1 s1 s2 f P (by omega) _ fun d1 x F2 H2 g2 P2 hx hA => hb (n + c1) F2 H2 (s1.trans g2.ff) g2.fh (by obtain ⟨o, ho⟩ := P.some; exact g2.f0 f ho) P2 (by omega) _ fun d2 y F3 H3 g3 P3 hy hB => by
    obtain ⟨i, rfl, hi⟩ := hA
    obtain ⟨j, rfl, hj⟩ := hB
    obtain rfl : x = .int i := hx
    obtain rfl : y = .int j := hy
    refine ⟨i, j, rfl, k (.int (min i j)) _ F3 H3 (g2.trans g3) (P3.mono (Same.refl _) (by omega)) ?_ ⟨i, j, rfl, hi, hj⟩⟩
    show V.int _ = V.int _
    congr 1
    split <;> omega)
/-- a comparison with a known number -/
theorem pxt_eqI {j : Int} (ha : Px p c X a σ F (fun d => ∃ i, d = .int i ∧ A i)) (hb : DE X b σ F F (.int j)) : PxT p c X (.Compare a [.Eq] [b] pos) σ F (fun _ => True) := fun n F1 H1 s1 s2 f P hn Q k =>
  wt_of (pt_cmpR op_eq pe_we pe_we (nomark _)) (ha n F1 H1 s1 s2 f P hn _ fun d v F2 H2 g2 P2 hv hA => by
    obtain ⟨i, rfl, hi⟩ := hA
    obtain rfl : v = .int i := hv
    refine (hb.f (s1.trans g2.ff)).at g2.fh fun u F3 H3 g3 hu => ?_
    obtain rfl : u = .int j := hu
    exact ⟨rfl, _, rfl, k _ F3 H3 (g2.trans g3.gp) (P2.mono g3.hh) True.intro⟩)
theorem pxt_w {R : Bool → Prop} (h : ∀ n F1 H1, Same F F1 → Same F1 H1 → F1 p = none → Pool H1 p n → n + c ≤ 1000000 → ∀ Q : Bool → Hp → Prop, (∀ b F2 H2, Gp p F1 H1 F2 H2 → Pool H2 p (n + c) → R b → Q b H2) → WW X e σ H1 Q) : PxT p c X e σ F R := fun n F1 H1 s1 s2 f P hn Q k => wt_of (PW.pt pw_ww) (h n F1 H1 s1 s2 f P hn Q k)
/-- a known test, then one that draws -/
theorem pxt_and {bb : Bool} {R : Bool → Prop} (ha : DT X a σ F F bb) (hb : bb = true → PxT p c X b σ F R) (hR : bb = false → R false) : PxT p c X (.BoolOp .And [a, b] pos) σ F R := pxt_w fun n F1 H1 s1 s2 f P hn Q k =>
  ww_of (pw_and pt_wt (pw_and1 pt_wt)) ((ha.mono ⟨s1, Same.refl _, s1, fun _ e n => absurd e n⟩).at s2 fun F2 H2 g2 => by
    cases bb with
    | true => exact iteT (hb rfl n F2 H2 (s1.trans g2.ff) g2.fh (by obtain ⟨o, ho⟩ := P.some; exact g2.f0 f ho) (P.mono g2.hh) hn _ fun b F3 H3 g3 P3 hR => k b F3 H3 (g2.gp.trans g3) P3 hR)
    | false => exact iteF (k false F2 H2 g2.gp (P.mono g2.hh) (hR rfl)))
end
theorem PxT.imp {p : Addr} {c : Nat} {X : Cx} {e : Expr} {σ : St} {F : Hp} {R R' : Bool → Prop} (h : PxT p c X e σ F R) (k : ∀ b, R b → R' b) : PxT p c X e σ F R' := fun n F1 H1 s1 s2 f P hn Q q => h n F1 H1 s1 s2 f P hn Q fun b F2 H2 g P2 hR => q b F2 H2 g P2 (k b hR)
section
variable {p : Addr} {F0 H0 H H2 F2 : Hp} {n m : Nat} {q : Addr} {o : HO}
theorem HS.keep (s : HS p F0 H0 H n) (g : Gp p (Fz F0 H0 H) H F2 H2) : Same F2 (Fz F0 H0 H2) := fun b x e => by
  have h2 := g.fh b x e
  have hb : ((H0 b).isNone || (F0 b).isSome) = true := by
    cases hh : ((H0 b).isNone || (F0 b).isSome) with
    | true => rfl
    | false =>
      have hz : Fz F0 H0 H b = none := by unfold Fz; rw [hh]; rfl
      have hne : H b ≠ none := by
        intro z
        have := s.free z
        rw [this] at hh
        simp at hh
      rw [g.new b hz hne] at e
      cases e
  unfold Fz
  rw [hb, if_pos rfl]
  exact h2
theorem HS.keepZ (s : HS p F0 H0 H n) (g : Gp p (Fz F0 H0 H) H F2 H2) : Same (Fz F0 H0 H) (Fz F0 H0 H2) := g.ff.trans (s.keep g)
theorem Fz.upd {b : Addr} (h : b ≠ q) : Fz F0 H0 (upd H q o) b = Fz F0 H0 H b := by
  unfold Fz
  rw [upd_ne h]
theorem gr_z {F : Hp} (g : Gr F H F2 H2) : Same (Fz F0 H0 H) (Fz F0 H0 H2) := fun b x e => by
  unfold Fz at e ⊢
  split at e
  · rename_i hc
    rw [if_pos hc]
    exact g.hh b x e
  · cases e
theorem hh_z (k : ∀ b o, b ≠ p → H b = some o → H2 b = some o) (h : Fz F0 H0 H p = none) : Same (Fz F0 H0 H) (Fz F0 H0 H2) := fun b x e => by
  have hb : b ≠ p := ne_of_none e h
  unfold Fz at e ⊢
  split at e
  · rename_i hc
    rw [if_pos hc]
    exact k b x hb e
  · cases e
end
section
variable {X : Cx} {σ : St} {F H : Hp} {e a b o tg : Expr} {d : PyData} {apos cpos pos rp tp rq : Pos} {l p : Addr} {xs : List V} {D : Ends} {body : List Stmt} {c n : Nat} {R : PyData → Prop} {va : V}
/-- for k in range(e), a word of the slots and the heap -/
theorem ws_forR {n : Nat} (hp : PassesOwn (model X.prog X.w) X.A X.env X.xe) (hc : X.calm = true) (hm : X.mg "range" = none) (h : DE X e σ F F (.int n)) (hn : n ≤ 1000000) (s : Same F H)
    (k : ∀ F1 H1, Gr F H F1 H1 → ∃ Pv : Nat → St → Hp → Prop, Pv 0 σ H1 ∧ (∀ i σ' H', i < n → Pv i σ' H' → WG X tg (.int i) σ' H' fun σ2 H2 => WSs X body { D with nx := Pv (i + 1), ct := Pv (i + 1), bk := D.nx } σ2 H2) ∧ ∀ σ' H', Pv n σ' H' → D.nx σ' H')
    (hg : Gl X "range" := by rfl) (pl : Pl X e [] rp := by exact ⟨rfl, rfl⟩) (hs : ∀ x, foldedSetIterable (.Call (.Name "range" rq) [e] [] rp) X.env x = pure x := by intro _; rfl) : WS X (.For tg (.Call (.Name "range" rq) [e] [] rp) body [] pos) D σ H :=
  ws_of (ps_for hp hc (pi_range1 hg hm (pa_cons pe_we pa_nil pl.he) (hs := pl.he)) pg_wg pss_wss hs) (h.at s fun v F2 H2 g2 hv => by
    obtain rfl : v = .int n := hv
    obtain ⟨Pv, h0, hS, hD⟩ := k F2 H2 g2
    refine ⟨n, rfl, by omega, by omega, for_range (lo := 0) (n := (n : Int).toNat) Pv h0 (fun i σ' H' hi p' => ?_) (fun σ' H' p' => ?_)⟩
    · have : (0 : Int) + (i : Int) = (i : Int) := Int.zero_add _
      rw [this]
      exact hS i σ' H' (by omega) p'
    · rw [Int.toNat_natCast] at p'
      exact hD σ' H' p')
/-- o.append((a, b)), b new -/
theorem ws_appendPair {kt : Nat} (ho : VE X o σ F F (.ref l)) (ha : VE X a σ F F va) (hb : PxN p c X b σ F R) (s : Same F H) (hl : H l = some (.lst xs)) (hlp : l ≠ p) (hz : xs.length < sizeLine) (f : F p = none) (P : Pool H p n) (hn : n + c ≤ 1000000)
    (q : ∀ d v t F2 H2, Gp p F H F2 H2 → Pool H2 p (n + c) → Da F2 d v → R d → (∀ a, v = .ref a → H a = none) → H2 t = none → D.nx σ (upd (upd H2 t (.tup [va, v])) l (.lst (xs ++ [.ref t]))))
    (bm : Bm X o "append" (.Tuple [a, b] kt tp) [] apos cpos := by exact ⟨rfl, rfl, rfl, rfl, rfl⟩) (hsw : swapsWith (.Call (.Attribute o "append" apos) [.Tuple [a, b] kt tp] [] cpos) none pos.line X.env = pure false := by rfl)
    (l1 : starEach [a, b] X.env = (false, eval a X.env) :: starEach [b] X.env := by rfl) (l2 : starEach [b] X.env = [(false, eval b X.env)] := by rfl) : WS X (.Expr (.Call (.Attribute o "append" apos) [.Tuple [a, b] kt tp] [] cpos) pos) D σ H :=
  ws_expr (we_of (pe_bm PySem.F.plainAttrs_list PySem.F.slot_list_append PySem.F.type_list_append mt_append pe_we (pa_cons (pe_tup (pa_cons pe_we (pa_cons pe_we pa_nil l2) l1)) pa_nil bm.hs) bm.hbase bm.hfew bm.hline bm.hs bm.hplain)
    (ho.at s fun F2 H2 g2 => ⟨.inl ⟨rfl, xs, SqL.of (g2.hh _ _ hl)⟩, (ha.mono ⟨g2.ff, Same.refl _, g2.ff, fun _ e n => absurd e n⟩).at g2.fh fun F3 H3 g3 =>
      hb n F3 H3 (g2.ff.trans g3.ff) g3.fh (by obtain ⟨o, ho⟩ := P.some; exact (g2.trans g3).f0 f ho) (P.mono (g2.trans g3).hh) hn _ fun d v F4 H4 g4 P4 hv hR hf => ⟨by show 2 ≤ sizeLine; decide, fun t ht => by
        have e4 : H4 l = some (.lst xs) := g4.hh _ _ hlp ((g2.trans g3).hh _ _ hl)
        have htl : l ≠ t := ne_of_none e4 ht
        exact ⟨l, xs, .ref t, rfl, rfl, by rw [upd_ne htl]; exact e4, hz, q d v t F4 H4 ((g2.trans g3).gp.trans g4) P4 hv hR (fun a ea => (g2.trans g3).hh.free (hf a ea)) ht⟩⟩⟩)) hsw
/-- sorted(e) of texts, new -/
theorem pxn_sortedS {A : List Str → Prop} (hm : X.mg "sorted" = none) (ha : Px p c X e σ F (fun d => ∃ xs : List Str, d = ksD xs ∧ A xs)) (hg : Gl X "sorted" := by rfl) (pl : Pl X e [] cpos := by exact ⟨rfl, rfl⟩) : PxN p c X (.Call (.Name "sorted" pos) [e] [] cpos) σ F (fun d => ∃ xs : List Str, d = ksD (srt xs) ∧ A xs) := fun n F1 H1 s1 s2 f P hn Q k =>
  we_of (pe_callB cr_sortedSA hg hm (by decide +kernel) (pa_cons pe_we pa_nil pl.he) (by decide) (by decide) pl.he pl.hpl) (ha n F1 H1 s1 s2 f P hn _ fun d v F2 H2 g2 P2 hv hA => by
    obtain ⟨xs, rfl, hxs⟩ := hA
    obtain ⟨a, ys, rfl, h1, h2⟩ := hv
    obtain rfl := h2.strs
    refine ⟨a, xs, rfl, SqL.of (g2.fh _ _ h1), fun l hl => ?_⟩
    have hp : H1 p ≠ none := by obtain ⟨o, ho⟩ := P.some; rw [ho]; exact fun z => nomatch z
    have hlp : l ≠ p := fun z => by subst z; exact g2.at' hp hl
    refine k (ksD (srt xs)) (.ref l) (upd F2 l (.lst _)) _ (g2.shut hl hp) ?_ ⟨l, _, rfl, upd_same, daAll_strs _⟩ ⟨xs, rfl, hxs⟩ (fun a ea => ?_)
    · obtain ⟨c, m, t, e1, e2, e3, e4⟩ := P2
      exact ⟨c, m, t, by rw [upd_ne (fun z => hlp z.symm)]; exact e1, e2, e3, e4⟩
    · injection ea with ea
      subst ea
      cases hq : H1 l with
      | none => rfl
      | some o => rw [g2.hh l o hlp hq] at hl; cases hl)
end
theorem px_lst2 {p : Addr} {c1 c2 : Nat} {X : Cx} {σ : St} {F : Hp} {a b : Expr} {pos : Pos} {A B R : PyData → Prop} (ha : Px p c1 X a σ F A) (hb : Px p c2 X b σ F B) (hR : ∀ d e, A d → B e → R (.list [d, e])) (l1 : starEach [a, b] X.env = (false, eval a X.env) :: starEach [b] X.env := by rfl) (l2 : starEach [b] X.env = [(false, eval b X.env)] := by rfl) : Px p (c1 + (c2 + 0)) X (.List [a, b] pos) σ F R := fun n F1 H1 s1 s2 f P hn Q k =>
  we_of (pe_lst pa_wa) ((pxa_cons ha (pxa_cons hb pxa_nil l2) l1) n F1 H1 s1 s2 f P hn _ fun ds vs F2 H2 g2 P2 hvs hds => by
    obtain ⟨d, r, rfl, hA, e, r2, rfl, hB, rfl⟩ := hds
    refine ⟨by rw [hvs.length]; show 2 ≤ sizeLine; decide, fun l hl => ?_⟩
    have hp : H1 p ≠ none := by obtain ⟨o, ho⟩ := P.some; rw [ho]; exact fun z => nomatch z
    have hlp : l ≠ p := fun z => by subst z; exact g2.at' hp hl
    refine k (.list [d, e]) (.ref l) (upd F2 l (.lst vs)) _ (g2.shut hl hp) ?_ ⟨l, _, rfl, upd_same, hvs.mono (same_upd (g2.fh.free hl))⟩ (hR d e hA hB)
    obtain ⟨c, m, t, e1, e2, e3, e4⟩ := P2
    exact ⟨c, m, t, by rw [upd_ne (fun z => hlp z.symm)]; exact e1, e2, e3, e4⟩)
end Kr

/-! layer KrS -/
namespace Kr
open PySem PySem.Spec PyProof.Rows
/-! ## sets of texts -/
def txtOf (e : Int × Value) : Str := match e.2 with | .str x _ => x | _ => ⟨#[]⟩
def EntS (w : World) (e : Int × Value) : Prop := ∃ x tk, e.2 = Value.str x tk ∧ e.1 = hashStr w x
/-- the set at a: its texts, in the order of its rows -/
def StrSet (w : World) (h : Heap) (a : Addr) (L : List Str) : Prop := ∃ ob rows ep tb, h.get? a = some ob ∧ ob.ExactSet ∧ ob.data = .set rows ep tb ∧ (∀ e ∈ rows.toList, EntS w e) ∧ rows.toList.map txtOf = L ∧ L.Nodup ∧
  rows.size < scanBound ∧ tb.fits rows.size = true ∧ L2.Ris tb.place.toList ∧ (w.params.followText "set-order" = true ∨ tb.led = true)
section
variable {P : Program} {w : World} {A : Around} {E : Value → Shared → Prop} {s : Shared} {a : Addr} {L : List Str} {h h' : Heap}
theorem StrSet.at (R : StrSet w h a L) (k : ∀ o, h.get? a = some o → h'.get? a = some o) : StrSet w h' a L := by
  obtain ⟨ob, rows, ep, tb, h1, rest⟩ := R
  exact ⟨ob, rows, ep, tb, k ob h1, rest⟩
theorem entS_elems {l : List (Int × Value)} (g : ∀ e ∈ l, EntS w e) : ElemsOf (PySem.strKind P w) l := fun e m => by
  obtain ⟨x, tk, e1, e2⟩ := g e m
  exact ⟨⟨x, by rw [e1]; exact PySem.strKind_is P w x tk, e2⟩, by rw [e1]; rfl⟩
theorem entS_is {e : Int × Value} (g : EntS w e) (x : Str) : (PySem.strKind P w).is x e.2 = true ↔ txtOf e = x := by
  obtain ⟨y, tk, e1, _⟩ := g
  unfold txtOf
  rw [e1]
  show Value.isStrOf x (.str y tk) = true ↔ y = x
  simp [Value.isStrOf]
theorem rows_stored {h : Heap} {a : Addr} {o : Obj} {es es' : Array (Int × Value)} {ep : Nat} {t t' : SetTable} (ho : h.get? a = some o) (hd : o.data = .set es ep t) : (h.update a (Obj.putSet es' t')).get? a = some { o with data := .set es' (ep + 1) t' } := L2.store_at ho hd
/-- the table is kept, or laid anew -/
theorem strSet_store {g : Bool → Sem Unit} (hg : ∀ (b : Bool) (s1 : Shared) (Q' : Unit → Shared → Prop), Q' () s1 → wpAny (model P w) A (g b) Q' E s1)
    {ob : Obj} {rows : Array (Int × Value)} {ep : Nat} {tb : SetTable} (h1 : s.heap.get? a = some ob) (h2 : ob.ExactSet) (h3 : ob.data = .set rows ep tb) {rows1 : Array (Int × Value)} {tb1 : SetTable} (h4 : ∀ e ∈ rows1.toList, EntS w e) (h5 : (rows1.toList.map txtOf).Nodup)
    (h6 : rows1.size < scanBound) (h7 : tb1.fits rows1.size = true) (h8 : L2.Ris tb1.place.toList) (h9 : w.params.followText "set-order" = true ∨ tb1.led = true) {dm : Bool} {R : Option Bool → Shared → Prop}
    (hR : ∀ h' L', Heap.SameBut a s.heap h' → StrSet w h' a L' → L'.Perm (rows1.toList.map txtOf) → R (some true) { s with heap := h' }) :
    wpAny (model P w) A (storeSet a rows1 tb1 >>= fun _ => if (!dm && tb1.tooFull) = true then (g (relayAll tb1 rows1 (SetTable.grown rows1.size)).2.2 >>= fun _ => storeSet a (relayAll tb1 rows1 (SetTable.grown rows1.size)).1 (relayAll tb1 rows1 (SetTable.grown rows1.size)).2.1 >>= fun _ => pure (some true)) else pure (some true)) R E s := by
  refine wpAny_bind (wpAny_storeSet_of h1 h3 ?_ (fits_of_scanBound h6))
  have at1 := rows_stored (es' := rows1) (t' := tb1) h1 h3; have but1 := Heap.SameBut.update s.heap a (Obj.putSet rows1 tb1)
  split
  · have q1 := relayAll_perm tb1 rows1 (SetTable.grown rows1.size); have q2 := relayAll_fits tb1 rows1 (SetTable.grown rows1.size)
    have q3 := L2.relayAll_ris tb1 rows1 (SetTable.grown rows1.size); have q4 := L2.relayAll_led tb1 rows1 (SetTable.grown rows1.size)
    generalize relayAll tb1 rows1 (SetTable.grown rows1.size) = Y at q1 q2 q3 q4 ⊢
    obtain ⟨rows2, tb2, gv⟩ := Y
    dsimp only at q1 q2 q3 q4 ⊢
    have len2 : rows2.size = rows1.size := by rw [← Array.length_toList, q1.length_eq, Array.length_toList]
    refine wpAny_bind (hg _ _ _ (wpAny_bind (wpAny_storeSet_of at1 rfl ?_ (fits_of_scanBound (by rw [len2]; exact h6)))))
    have at2 := rows_stored (es' := rows2) (t' := tb2) at1 rfl
    exact wpAny_pure (hR _ (rows2.toList.map txtOf) (but1.trans (Heap.SameBut.update _ a _)) ⟨_, rows2, _, tb2, at2, h2, rfl, fun e m => h4 e (q1.mem_iff.mp m), rfl, (q1.map txtOf).nodup_iff.mpr h5, by rw [len2]; exact h6, q2, q3, h9.imp id fun z => by rw [q4]; exact z⟩ (q1.map txtOf))
  · exact wpAny_pure (hR _ (rows1.toList.map txtOf) but1 ⟨_, rows1, _, tb1, at1, h2, rfl, h4, rfl, h5, h6, h7, h8, h9⟩ (.refl _))
/-- one text more -/
theorem strSet_add {x : Str} {tk : Tok} {Q : Bool → Shared → Prop} (R : StrSet w s.heap a L) (room : L.length + 1 < scanBound)
    (hQ : ∀ h' L' b, Heap.SameBut a s.heap h' → StrSet w h' a L' → (x ∈ L ∧ L' = L) ∨ (x ∉ L ∧ L'.Perm (x :: L)) → Q b { s with heap := h' }) :
    wpAny (model P w) A (setAddHashed a (.str x tk) ((PySem.strKind P w).hash x)) Q E s := by
  obtain ⟨ob, rows, ep, tb, h1, h2, h3, h4, h5, h6, h7, h8, h9, h10⟩ := R
  have key := PySem.strKind_is P w x tk; have scan : (Value.str x tk).scannable = true := rfl; have elems : ElemsOf (PySem.strKind P w) rows.toList := entS_elems h4
  unfold setAddHashed setAddHashedIn
  refine wpAny_holding (wpAny_bind (wpAny_setState_of h1 h3 h8 ?_)); dsimp only; rw [byScan_of scan h7 elems]; simp only [↓reduceIte]
  unfold setAddByScan
  refine wpAny_bind (wpAny_bind (wpAny_rule (wpAny_bind (wpAny_setScan_of key h1 h3 h8 elems ?_))))
  cases fi : List.findIdx? (fun e => (PySem.strKind P w).is x e.2) rows.toList with
  | some j =>
    dsimp only
    obtain ⟨jl, pj, _⟩ := List.findIdx?_eq_some_iff_getElem.mp fi
    have xL : x ∈ L := by rw [← h5]; exact List.mem_map.mpr ⟨rows.toList[j], List.getElem_mem jl, (entS_is (P := P) (h4 _ (List.getElem_mem jl)) x).mp pj⟩
    exact wpAny_pure (wpAny_pure (hQ s.heap L _ (Heap.SameBut.refl a s.heap) ⟨ob, rows, ep, tb, h1, h2, h3, h4, h5, h6, h7, h8, h9, h10⟩ (.inl ⟨xL, rfl⟩)))
  | none =>
    dsimp only
    have xn : x ∉ L := fun z => by
      rw [← h5] at z
      obtain ⟨e, m, q⟩ := List.mem_map.mp z
      have c := List.findIdx?_eq_none_iff.mp fi e m
      rw [(entS_is (P := P) (h4 e m) x).mpr q] at c; cases c
    have gw : ∀ (b : Bool) {s1 : Shared} {Q' : Unit → Shared → Prop}, Q' () s1 → wpAny (model P w) A (match b with | true => rule "set.scan.the-table-gave-way" | false => pure ()) Q' E s1 := fun b s1 Q' q => by cases b <;> first | exact wpAny_pure q | exact wpAny_rule q
    have q1 := layNew_perm tb rows ((PySem.strKind P w).hash x) (.str x tk); have q2 := layNew_fits tb rows ((PySem.strKind P w).hash x) (.str x tk)
    have q3 := L2.layNew_ris tb rows ((PySem.strKind P w).hash x) (.str x tk) h9; have q4 := L2.layNew_led tb rows ((PySem.strKind P w).hash x) (.str x tk)
    generalize layNew tb rows ((PySem.strKind P w).hash x) (.str x tk) = Y at q1 q2 q3 q4 ⊢
    obtain ⟨rows1, tb1, dm, gv⟩ := Y
    dsimp only at q1 q2 q3 q4 ⊢
    rw [Array.toList_push] at q1
    have pc : rows1.toList.Perm (((PySem.strKind P w).hash x, Value.str x tk) :: rows.toList) := q1.trans (List.perm_append_singleton _ _)
    have pk : (rows1.toList.map txtOf).Perm (x :: L) := by rw [← h5]; exact pc.map txtOf
    have g1 : ∀ e ∈ rows1.toList, EntS w e := fun e m => by
      rcases List.mem_cons.mp (pc.mem_iff.mp m) with z | z
      · rw [z]; exact ⟨x, tk, rfl, rfl⟩
      · exact h4 e z
    have n1 : (rows1.toList.map txtOf).Nodup := pk.nodup_iff.mpr (List.nodup_cons.mpr ⟨xn, h6⟩)
    have l1 : rows1.size = L.length + 1 := by rw [← Array.length_toList, pc.length_eq, List.length_cons, ← h5, List.length_map]
    have b1 : rows1.size < scanBound := by rw [l1]; exact room
    have led1 : w.params.followText "set-order" = true ∨ tb1.led = true := h10.imp id fun z => by rw [q4]; exact z
    refine wpAny_bind (gw _ ?_)
    split
    · refine wpAny_bind ?_
      rw [hashByValue_scannable 8 scan]
      refine wpAny_pure (strSet_store ?_ h1 h2 h3 g1 n1 b1 ?_ ?_ ?_ ?_)
      · intro b s1 Q' q; cases b <;> first | exact wpAny_pure q | exact wpAny_rule q
      · first | (split <;> first | exact q2 | exact SetTable.fits_plain_off q2) | exact q2
      · first | (split <;> exact q3) | exact q3
      · first | (split <;> exact led1) | exact led1
      · intro h' L' sb r pm; dsimp only; exact wpAny_pure (hQ h' L' _ sb r (.inr ⟨xn, pm.trans pk⟩))
    · refine wpAny_bind (wpAny_pure ?_)
      simp only [↓reduceIte]
      refine strSet_store ?_ h1 h2 h3 g1 n1 b1 q2 q3 led1 ?_
      · intro b s1 Q' q; cases b <;> first | exact wpAny_pure q | exact wpAny_rule q
      · intro h' L' sb r pm; dsimp only; exact wpAny_pure (hQ h' L' _ sb r (.inr ⟨xn, pm.trans pk⟩))
end
/-- of these texts, each once -/
def Met (xs L : List Str) : Prop := L.Nodup ∧ ∀ x, x ∈ L ↔ x ∈ xs
theorem Met.next {xs L L' : List Str} {i : Nat} {x : Str} (m : Met (xs.take i) L) (hx : xs[i]? = some x) (c : (x ∈ L ∧ L' = L) ∨ (x ∉ L ∧ L'.Perm (x :: L))) : Met (xs.take (i + 1)) L' := by
  rw [List.take_add_one, hx]
  rcases c with ⟨h, rfl⟩ | ⟨h, pm⟩
  · refine ⟨m.1, fun y => ?_⟩
    rw [m.2 y]
    simp only [Option.toList_some, List.mem_append, List.mem_singleton]
    exact ⟨.inl, fun z => z.elim id fun e => by subst e; exact (m.2 y).mp h⟩
  · refine ⟨pm.nodup_iff.mpr (List.nodup_cons.mpr ⟨h, m.1⟩), fun y => ?_⟩
    rw [pm.mem_iff, List.mem_cons, m.2 y]
    simp only [Option.toList_some, List.mem_append, List.mem_singleton]
    exact Or.comm
theorem Met.len {xs L : List Str} (m : Met xs L) : L.length ≤ xs.length := subset_length m.1 fun x h => (m.2 x).mp h
section
variable {P : Program} {w : World} {A : Around} {E : Value → Shared → Prop} {s : Shared}
theorem strSet_loop {I : Addr} {fp wr : List Addr} {G : Array GenState → Array GenState → Prop} {n : Nat} {Pv : Nat → Value → Prop} {St : Nat → Shared → Prop} {R : Result → Shared → Prop} (W : WalksS P w A.in1 I fp wr G n Pv St) (S : Addr) (hSf : S ∉ fp) (xs : List Str) (hn : n = xs.length) (hb : xs.length + 1 < scanBound)
    (hval : ∀ i v, Pv i v → ∃ x t, xs[i]? = some x ∧ v = .str x t) : ∀ (k i : Nat) (s : Shared), n - i = k → i ≤ n → St i s → (∃ L, Met (xs.take i) L ∧ StrSet w s.heap S L) →
      (∀ s' L, Moved (S :: wr) G s s' → Met xs L → StrSet w s'.heap S L → R (.ok (.ret .none)) s') → codeAny (model P w) A (.builtin "set.update.loop" ⟨[.ref S, .ref I], []⟩) R s := by
  have hSw : S ∉ wr := fun z => hSf (W.sub _ z); have hsub : ∀ b ∈ wr, b ∈ S :: wr := fun b z => List.mem_cons_of_mem _ z
  intro k
  induction k with
  | zero =>
    rintro i s hk hi hst ⟨L, hm, hS⟩ hR
    obtain rfl : i = n := by omega
    refine codeAny_builtin F.entry_set_update_loop ?_
    rw [Around.under_plainId F.plain_set_update_loop _]
    show wpAny _ A.in1 (pyNext (.ref I) >>= _) _ _ s
    refine wpAny_bind (W.done s _ _ hst fun s1 mv => ?_)
    show wpAny _ A.in1 (ret Value.none) _ _ s1
    rw [List.take_of_length_le (by omega)] at hm
    exact wpAny_pure (hR s1 L (mv.mono hsub) hm (hS.at fun o e => mv.heap S o hSw e))
  | succ k ih =>
    rintro i s hk hi hst ⟨L, hm, hS⟩ hR
    have hlt : i < n := by omega
    refine codeAny_builtin F.entry_set_update_loop ?_
    rw [Around.under_plainId F.plain_set_update_loop _]
    show wpAny _ A.in1 (pyNext (.ref I) >>= _) _ _ s
    refine wpAny_bind (W.item i s _ _ hlt hst fun v s1 hP hst1 mv => ?_)
    obtain ⟨x, t, hx, rfl⟩ := hval i v hP
    have hS1 : StrSet w s1.heap S L := hS.at fun o e => mv.heap S o hSw e
    have hLl : L.length ≤ i := Nat.le_trans hm.len (by rw [List.length_take]; omega)
    show wpAny _ A.in1 (holding [Value.str x t] (setAdd S (.str x t)) >>= _) _ _ s1
    refine wpAny_bind (wpAny_holding ?_)
    unfold setAdd
    refine wpAny_holding (wpAny_bind ((PySem.strKind P w).pyHash (k := x) (PySem.strKind_is _ _ _ _) (strSet_add (s := { s1 with toks := s1.toks + 1 }) hS1 (by omega) fun h' L' b sb hS2 hc => ?_)))
    refine wpAny_pure ⟨plainId_quiet F.plain_set_update_loop _, ih (i + 1) _ (by omega) hlt (W.frame _ s1 _ _ hst1 (Nat.le_succ _) fun b hb o e => ?_) ⟨L', hm.next hx hc, hS2⟩ fun s3 L3 mv3 m3 hS3 => ?_⟩
    · rw [sb.2 b (fun z : b = S => hSf (z ▸ hb))]; exact e
    · refine hR s3 L3 (Moved.trans W.gtrans ((mv.mono hsub).then_heap (Nat.le_succ _) fun b o hb e => ?_) mv3) m3 hS3
      rw [sb.2 b (fun z : b = S => hb (z ▸ List.mem_cons_self))]; exact e
theorem strSet_fresh {h : Heap} {a : Addr} (ho : h.get? a = some { cls := .type "set", dict := none, data := .set #[] 0 (.fresh 0 0 (!w.params.followText "set-order")) }) : StrSet w h a [] :=
  ⟨_, #[], 0, _, ho, ⟨rfl, rfl, rfl⟩, rfl, (fun e m => by simp at m), rfl, List.nodup_nil, by decide, rfl, List.Pairwise.nil, by show _ ∨ (!w.params.followText "set-order") = true; cases w.params.followText "set-order" <;> simp⟩
set_option maxHeartbeats 6400000 in
/-- set(xs) -/
theorem call_set_strs {l : Addr} {items : Array Value} (xs : List Str) {Q : Value → Shared → Prop} (hh : A.handled = none) (hl : s.heap.IsList l items) (hit : StrsAre items.toList xs) (hb : xs.length + 1 < scanBound)
    (h : ∀ (h' : Heap) (tk : Nat) (L : List Str), Met xs L → StrSet w h' s.heap.objs.size L → (∀ b o, s.heap.get? b = some o → h'.get? b = some o) → Q (.ref s.heap.objs.size) { s with heap := h', toks := tk }) : wpAny (model P w) A (call (.type "set") [.ref l]) Q E s := by
  have hisz : items.size = xs.length := by have q := hit.length; rw [Array.length_toList] at q; exact q
  obtain ⟨c, tl, hmro⟩ := F.called_set.mro; have hmade := F.called_set.made; have hsub := F.called_set.sub
  refine wpAny_call (codeAny_of_tree ?_)
  show wpAny _ _ (callAny (.type "set") _) _ _ _
  refine wpAny_pure ⟨Code.quiet_builtin _ (by decide +kernel), codeAny_builtin F.entry_type_call ?_⟩
  rw [Around.under_plain (weight_type_call_type "set" [.ref l] []) rfl]
  have h1 := F.called_set.notType; have h2 := F.called_set.canCreate; have hct := F.typeCall_set_1 (.ref l)
  repeat (any_goals (first | assumption | wp_step))
  refine codeAny_mono (L2.code_set_led1 (.ref l) (E := E) (Q₁ := fun obj s1 => obj = .ref s.heap.objs.size ∧ s1 = { s with heap := s.heap.push { cls := .type "set", dict := none, data := .set #[] 0 (.fresh 0 0 (!w.params.followText "set-order")) } }) ⟨rfl, rfl⟩) fun r s1 hr => ?_
  cases r with
  | error e => exact hr
  | ok fl =>
    cases fl with
    | ret obj =>
      obtain ⟨rfl, rfl⟩ := hr
      generalize hnew : s.heap.push { cls := .type "set", dict := none, data := .set #[] 0 (.fresh 0 0 (!w.params.followText "set-order")) } = hN
      have hS : hN.get? s.heap.objs.size = some { cls := .type "set", dict := none, data := .set #[] 0 (.fresh 0 0 (!w.params.followText "set-order")) } := by rw [← hnew]; exact Heap.get?_push_size _ rfl
      have hkeep : ∀ b o, s.heap.get? b = some o → hN.get? b = some o := fun b o e => by rw [← hnew]; exact Heap.get?_push_of_some _ e
      have hNs : hN.objs.size = s.heap.objs.size + 1 := by rw [← hnew]; exact Heap.size_push ..
      have hT : Shared.TypeIs { s with heap := hN } (.ref s.heap.objs.size) "set" := ⟨_, hS, rfl⟩
      have hli := F.called_set.init.lookup; have hbi := F.called_set.init.bind (.ref s.heap.objs.size)
      repeat (any_goals (first | assumption | wp_step))
      refine codeAny_mono (codeAny_call_builtin (R := wants (fun r s2 => r = .none ∧ ∃ h' tk L, s2 = { s with heap := h', toks := tk } ∧ Met xs L ∧ StrSet w h' s.heap.objs.size L ∧ (∀ b o, s.heap.get? b = some o → h'.get? b = some o)) E) F.called_set.init.plain F.entry_set_init (check_set_init_1 hT ?_)) fun r2 s2 hr2 => ?_
      · obtain ⟨ol, hol, hcl, nl, hdl⟩ := hl
        obtain ⟨ocls, odict, odata, oslots⟩ := ol
        simp only at hcl hdl
        subst hcl; subst hdl
        have hol' := hkeep l _ hol
        have hsls := F.sub_list_set; have hslf := F.sub_list_frozenset; have hne : (Value.type "list" == Value.type "dict") = false := by decide
        have hl1 : hN.IsList l items := ⟨_, hol', rfl, nl, rfl⟩
        unfold Builtin.«set.__init__» noKeywords Builtin.Frozenset.updateFrom
        generalize hPI : pyIter = PI
        wp_walk
        subst hPI
        refine wpAny_pyIter_list hl1 (wpAny_bind (wpAny_runValue ?_))
        have hlS : l < s.heap.objs.size := Heap.lt_size hol; have hh3 : A.in1.in1.in1.handled = none := by simp [hh]
        have hneI : l ≠ hN.objs.size := by rw [hNs]; exact Nat.ne_of_lt (Nat.lt_succ_of_lt hlS)
        have hSf : s.heap.objs.size ∉ [hN.objs.size, l] := by rw [hNs]; simp only [List.mem_cons, List.mem_singleton, List.not_mem_nil, or_false, not_or]; exact ⟨Nat.ne_of_lt (Nat.lt_succ_self _), Nat.ne_of_gt hlS⟩
        have hval : ∀ (i : Nat) (v : Value), items[i]? = some v → ∃ x t, xs[i]? = some x ∧ v = .str x t := fun i v hv => by
          have hi : i < xs.length := by rw [← hisz]; exact (Array.getElem?_eq_some_iff.mp hv).1
          obtain ⟨t, e⟩ := SS.strs_at hit i v (by rw [Array.getElem?_toList]; exact hv)
          exact ⟨xs[i], t, List.getElem?_eq_getElem hi, by rw [e, List.getD_eq_getElem?_getD, List.getElem?_eq_getElem hi]; rfl⟩
        refine strSet_loop ((Walks.list hh3 _ l hneI items).toS) s.heap.objs.size hSf xs hisz hb hval (items.size - 0) 0 _ (by omega) (Nat.zero_le _) ⟨⟨_, Heap.get?_push_size _ rfl, rfl, rfl⟩, (hl1.push _)⟩ ?hS0 ?hR
        case hS0 => exact ⟨[], ⟨List.nodup_nil, fun x => by simp⟩, strSet_fresh (Heap.get?_push_of_some _ hS)⟩
        case hR =>
          intro s3 L mv mL hS3
          obtain ⟨h3, g3, d3, tk3, os3⟩ := s3
          obtain rfl : g3 = s.gens := mv.gens; obtain rfl : d3 = s.drawn := mv.drawn; obtain rfl : os3 = s.os := mv.os
          show wpAny _ _ _ _ _ _
          refine wpAny_pure ?_
          show wpAny _ _ (ret Value.none) _ _ _
          refine wpAny_pure ⟨rfl, h3, tk3, L, rfl, mL, hS3, fun b o e => ?_⟩
          have hb0 : b < s.heap.objs.size := Heap.lt_size e
          refine mv.heap b o ?_ (Heap.get?_push_of_some _ (hkeep b o e))
          simp only [List.mem_cons, List.mem_singleton, List.not_mem_nil, or_false, not_or]
          exact ⟨Nat.ne_of_lt hb0, by rw [hNs]; exact Nat.ne_of_lt (Nat.lt_succ_of_lt hb0)⟩
      · cases r2 with
        | error e => exact hr2
        | ok fl2 =>
          cases fl2 with
          | ret r =>
            obtain ⟨rfl, h', tk, L, rfl, mL, hS', hk'⟩ := hr2
            repeat (any_goals (first | assumption | wp_step))
            exact h _ _ _ mL hS' hk'
          | _ => exact hr2.elim
    | _ => exact hr.elim
end
end Kr

/-! layer KrT -/
namespace Kr
section
open PySem PySem.Spec PyProof.Rows
variable {P : Program} {w : World} {A : Around} {E : Value → Shared → Prop} {s : Shared} {a : Addr} {L : List Str}
theorem strs_of_rows (w : World) : ∀ (l : List Value), (∀ v ∈ l, ∃ x tk, v = Value.str x tk) → ∃ ss, StrsAre l ss ∧ ss = l.map fun v => txtOf (0, v)
  | [], _ => ⟨[], .nil, rfl⟩
  | v :: l, h => by
    obtain ⟨ss, h1, h2⟩ := strs_of_rows w l fun u hu => h u (List.mem_cons_of_mem _ hu)
    obtain ⟨x, tk, rfl⟩ := h v List.mem_cons_self
    exact ⟨x :: ss, .cons x tk h1, by rw [h2]; rfl⟩
theorem sorted_strSet {Q : Value → Shared → Prop} (R : StrSet w s.heap a L) (hh : A.handled = none)
    (hQ : ∀ s' p (out : Array Value) (c : Nat) (ss : List Str), (∀ b o, s.heap.get? b = some o → s'.heap.get? b = some o) → s'.gens = s.gens → s'.os = s.os → s.heap.objs.size ≤ p → s'.heap.get? p = some (seqObj "list" out c) → StrsAre out.toList ss → ss.Perm L → sortedS ss = true → Q (.ref p) s') :
    wpAny (model P w) A (call (.builtin "sorted") [.ref a]) Q E s := by
  obtain ⟨ob, rows, ep, tb, h1, h2, h3, h4, h5, h6, h7, h8, h9, h10⟩ := R
  refine Calls.call_function_entry kind_sorted plain_sorted entry_sorted (args_sorted1 _) ?_
  unfold Builtin.«sorted»
  refine wpAny_bind (m := checkCount "sorted" 1 1 _) (wpAny_pure (wpAny_bind (L2.collect_set (A := A.in1) hh ⟨ob, h1, h2.1, h3⟩ h8 h7 h9 h10 fun s1 vs k1 hz g1 o1 pm => ?_)))
  obtain ⟨ss, hs, hse⟩ := strs_of_rows w vs fun v hv => by
    obtain ⟨e, he, q⟩ := List.mem_map.mp (pm.mem_iff.mp hv)
    obtain ⟨x, tk, e1, _⟩ := h4 e he
    exact ⟨x, tk, by rw [← q]; exact e1⟩
  have pk : ss.Perm L := by
    rw [hse, ← h5]
    have q := pm.map fun v => txtOf (0, v)
    rw [List.map_map] at q
    exact q
  have hvl : vs.length ≤ sizeLine := by rw [pm.length_eq, List.length_map, Array.length_toList]; exact fits_of_scanBound h7
  refine wpAny_bind (wpAny_newList ?_ hvl)
  have hoL : (s1.heap.push (seqObj "list" vs.toArray 0)).get? s1.heap.objs.size = some (seqObj "list" vs.toArray 0) := Heap.get?_push_size _ rfl
  refine wpAny_bind (wpAny_holding (wpAny_call_entry slot_list_sort ⟨_, hoL, rfl⟩ entry_list_sort (list_sort_treeKAny strKind_oneLt hoL hs.keysOf (fun v1 v2 rest e => keyKind_strs (by rw [← e]; exact hs)) hvl fun st hp hst => ⟨_, rfl, ?_⟩) (args_list_sort _)))
  obtain ⟨ss', a1, a2, a3⟩ := sorted_out_str hs hp hst
  obtain ⟨c, hc⟩ := sortedHeap_at (vs := vs) (out := (arrOf st).map (·.2)) hoL
  refine wpAny_pure ⟨_, rfl, hQ _ s1.heap.objs.size _ c ss' (fun b u e => ?_) g1 o1 hz hc a1 (a2.trans pk) a3⟩
  have q := k1 b u e; have hlt := Heap.lt_size q
  show (sortedHeap (s1.heap.push (seqObj "list" vs.toArray 0)) s1.heap.objs.size vs ((arrOf st).map (·.2))).get? b = some u
  rw [sortedHeap_old (Nat.ne_of_lt hlt) (by rw [size_push']; exact Nat.lt_succ_of_lt hlt)]
  exact Heap.get?_push_of_some _ q
end
open PySem L2
/-! ## set(xs), sorted of it -/
def SetSO (w : World) (a : Addr) (L : List Str) : HO := .ext fun h => StrSet w h a L
theorem setSO_new {P : Program} {w : World} {H : Hp} {h : Heap} {a : Addr} {L : List Str} (R : StrSet w h a L) : ObjOk P w H h a (SetSO w a L) := by
  have ⟨o, _, _, _, ho, _⟩ := R
  exact ⟨R, ⟨o, ho⟩, fun h1 h2 p k => p.at k⟩
/-- the kinds of a list, sorted, each once -/
def kset (xs : List Str) : List Str := srt xs.eraseDups
theorem eraseDups_met : ∀ (n : Nat) (xs : List Str), xs.length ≤ n → Met xs xs.eraseDups
  | 0, [], _ => ⟨List.nodup_nil, fun x => by simp⟩
  | n + 1, [], _ => ⟨List.nodup_nil, fun x => by simp⟩
  | n + 1, x :: xs, h => by
    rw [List.eraseDups_cons]
    have hl : (xs.filter fun b => !b == x).length ≤ n := Nat.le_trans (List.length_filter_le _ _) (by simpa using h)
    obtain ⟨h1, h2⟩ := eraseDups_met n _ hl
    refine ⟨List.nodup_cons.mpr ⟨fun z => ?_, h1⟩, fun y => ?_⟩
    · have := (h2 x).mp z
      simp at this
    · rw [List.mem_cons, h2 y, List.mem_filter, List.mem_cons]
      by_cases e : y = x
      · simp [e]
      · simp [e]
theorem perm_of_nodup : ∀ {xs ys : List Str}, xs.Nodup → ys.Nodup → (∀ x, x ∈ xs ↔ x ∈ ys) → xs.Perm ys := fun {xs ys} h1 h2 h => by
  rw [List.perm_iff_count]
  intro a
  by_cases ha : a ∈ xs
  · have c1 := (List.nodup_iff_count.mp h1) a
    have c2 := (List.nodup_iff_count.mp h2) a
    have c3 := List.count_pos_iff.mpr ha
    have c4 := List.count_pos_iff.mpr ((h a).mp ha)
    omega
  · rw [List.count_eq_zero.mpr ha, List.count_eq_zero.mpr (fun z => ha ((h a).mpr z))]
theorem srt_perm_eq {xs ys : List Str} (p : xs.Perm ys) : srt xs = srt ys := sorted_unique ((srt_perm xs).trans (p.trans (srt_perm ys).symm)) (srt_sorted xs) (srt_sorted ys)
theorem Met.kset {xs L : List Str} (m : Met xs L) : srt L = Kr.kset xs := srt_perm_eq (perm_of_nodup m.1 (eraseDups_met _ xs (Nat.le_refl _)).1 fun x => (m.2 x).trans ((eraseDups_met _ xs (Nat.le_refl _)).2 x).symm)
theorem mem_kset {xs : List Str} {x : Str} : x ∈ kset xs ↔ x ∈ xs := mem_srt.trans ((eraseDups_met _ xs (Nat.le_refl _)).2 x)
theorem kset_nodup (xs : List Str) : (kset xs).Nodup := (srt_perm _).nodup_iff.mpr (eraseDups_met _ xs (Nat.le_refl _)).1
theorem kset_sorted (xs : List Str) : (kset xs).Pairwise (fun a b => leS a b = true) := srt_sorted _
/-- two sorted lists of the same kinds, each once, are one -/
theorem kset_ext {xs ys : List Str} (h : ∀ x, x ∈ xs ↔ x ∈ ys) : kset xs = kset ys := srt_perm_eq (perm_of_nodup (eraseDups_met _ xs (Nat.le_refl _)).1 (eraseDups_met _ ys (Nat.le_refl _)).1 fun x => ((eraseDups_met _ xs (Nat.le_refl _)).2 x).trans ((h x).trans ((eraseDups_met _ ys (Nat.le_refl _)).2 x).symm))
section
variable {X : Cx} {σ : St} {F H : Hp} {e : Expr} {pos p p2 pos2 : Pos} {xs : List Str}
def rSetS (K : PySem.W.Frag) (w : World) : List V → Hp → VK → Prop := fun vs H Q => ∃ (a : Addr) (ks : List Str), vs = [.ref a] ∧ SqL K H a (ks.map V.str) ∧ ks.length + 1 < scanBound ∧ ∀ p L, H p = none → Met ks L → Q (.ref p) (upd H p (SetSO w p L))
theorem cr_setS (hc : X.calm = true) : CallR X (.type "set") (rSetS X.K X.w) := by
  intro pins s σ H vs us Q I r h
  obtain ⟨a, ks, rfl, hs, hb, q⟩ := h
  obtain ⟨its, rv, hl, hz⟩ := I.list hs
  rw [Vals.ref1 r]
  refine call_set_strs ks (I.ok.hd hc) hl.isList (by rw [List.toList_toArray]; exact strs_of_vals rv) hb fun h' tk L m hS k => ?_
  have hn : H s.heap.objs.size = none := I.hok.fresh (Nat.le_refl _)
  exact ⟨.ref _, upd H s.heap.objs.size (SetSO X.w s.heap.objs.size L), I.laid (t' := tk) k (Nat.le_refl _) (setSO_new hS), rfl, q _ L hn m⟩
def rSortedSetS (w : World) : List V → Hp → VK → Prop := fun vs H Q => ∃ (a : Addr) (L : List Str), vs = [.ref a] ∧ H a = some (SetSO w a L) ∧ ∀ p, H p = none → Q (.ref p) (upd H p (.lst ((srt L).map V.str)))
theorem cr_sortedSetS (hc : X.calm = true) : CallR X (.builtin "sorted") (rSortedSetS X.w) := by
  intro pins s σ H vs us Q I r h
  obtain ⟨a, L, rfl, ha, q⟩ := h
  have R : StrSet X.w s.heap a L := (I.hok a _ ha).1
  rw [Vals.ref1 r]
  refine sorted_strSet R (I.ok.hd hc) fun s' p out c ss k g o hp hg hi pm hs => ?_
  obtain rfl := srt_eq pm hs
  have hlen : ((srt L).map V.str).length ≤ sizeLine := by
    obtain ⟨_, rows, _, _, _, _, _, _, e, _, hb, _⟩ := R
    rw [List.length_map, srt_length, ← e, List.length_map, Array.length_toList]
    exact fits_of_scanBound hb
  have hn : H p = none := I.hok.fresh hp
  have J : Inv X pins σ (upd H p (.lst ((srt L).map V.str))) { s with heap := s'.heap, gens := s'.gens, drawn := s'.drawn, toks := s'.toks } :=
    I.call (ch := []) (Un.laid k hp hn) (I.hok.laid k hp ⟨hlen, out.toList, c, vals_of_strs hi, hg⟩) (by rw [g]; exact I.bare) (fun _ z => nomatch z)
  have e : s' = { s with heap := s'.heap, gens := s'.gens, drawn := s'.drawn, toks := s'.toks } := by cases s'; cases s; cases o; rfl
  rw [e]
  exact ⟨.ref p, _, J, rfl, q p hn⟩
/-- sorted(set(e)) -/
theorem de_sortedSet (hm : X.mg "sorted" = none) (hm2 : X.mg "set" = none) (hc : X.calm = true) (hl : xs.length ≤ 4000) (ha : DE X e σ F H (.list (xs.map .str))) (hg : Gl X "sorted" := by rfl) (hg2 : Gl X "set" := by rfl) (l : Pl X (.Call (.Name "set" p2) [e] [] pos2) [] pos := by exact ⟨rfl, rfl⟩) (l2 : Pl X e [] pos2 := by exact ⟨rfl, rfl⟩) :
    DE X (.Call (.Name "sorted" p) [.Call (.Name "set" p2) [e] [] pos2] [] pos) σ F H (ksD (kset xs)) := fun F1 H1 g Q q =>
  we_of (pe_callB (cr_sortedSetS hc) hg hm (by decide +kernel) (pa_cons (pe_callTy (cr_setS hc) hg2 hm2 (by decide +kernel) (pa_cons pe_we pa_nil l2.he) (by decide) (by decide) l2.he l2.hpl) pa_nil l.he) (by decide) (by decide) l.he l.hpl)
    (ha F1 H1 g _ fun v F2 H2 g2 hv => by
      obtain ⟨a, ys, rfl, h1, h2⟩ := hv
      obtain rfl := h2.strs
      refine ⟨a, xs, rfl, SqL.of (g2.fh _ _ h1), by show xs.length + 1 < 4096; omega, fun b L hb m => ⟨b, L, rfl, upd_same, fun c hcn => ?_⟩⟩
      have gb := g2.open' (o := SetSO X.w b L) hb
      rw [m.kset]
      exact q _ (upd F2 c (.lst _)) _ (gb.shut hcn) ⟨c, _, rfl, upd_same, daAll_strs _⟩)
end
end Kr

/-! layer KrU -/
namespace Kr
open PySem L2
/-! ## defs that tell something new of data -/
def spR (n : Nat) (pre : List PyData → Prop) (post : List PyData → PyData → Prop) : Sp := fun vs H Q _ => ∃ F ds, ds.length = n ∧ Same F H ∧ DaAll F ds vs ∧ pre ds ∧ ∀ d v F2 H2, Gr F H F2 H2 → Da F2 d v → post ds d → (∀ a, v = .ref a → H a = none) → Q v H2
section
variable {P : Program} {w : World} {K : PySem.W.Frag} {mg : Str → Option Value} {base : Heap}
theorem okR {x qual : Str} {st : Stmt} {f : Addr} {fd : FuncData} {N ps : List Str} {k : Nat} {pre : List PyData → Prop} {post : List PyData → PyData → Prop} (F : Fun K x qual st f fd) (S : FnScope N ps (defScope st))
    (hbody : ∀ (X : Cx) (cdv : Value) (A : Around) (outer : List Env) (s : Shared) (H0 : Hp) (E : XK) (vs : List V) (F H : Hp) (ds : List PyData) (Q : VK), X = (cxOf CX0 P w K mg base N qual (defScope st) f cdv A outer s H0 E).nox → Room k X.A → Same F H → DaAll F ds vs → pre ds → (∀ d v F2 H2, Gr F H F2 H2 → Da F2 d v → post ds d → (∀ a, v = .ref a → H a = none) → Q v H2) →
      WSs X (defBody st) { nx := fun _ H' => Q .non H', rt := Q } (start N vs) H) : FnOk P w K mg base CX0 (k + 1) f fd ps (spR ps.length pre post) :=
  okW F S (fun vs H Q E ⟨F, ds, hl, _, ha, _⟩ => by rw [ha.length, hl]) fun cdv A outer s H vs Q E hr ⟨F, ds, hl, hs, ha, hp, q⟩ => hbody _ cdv A outer s H E vs F H ds Q rfl hr hs ha hp q
end
section
variable {X : Cx} {σ : St} {F H : Hp} {e o : Expr} {es : List Expr} {ds : List PyData} {k n : Nat} {f : Addr} {fd : FuncData} {ps : List Str} {pre : List PyData → Prop} {post : List PyData → PyData → Prop} {x : Str} {p pos apos cpos : Pos} {D : Ends} {d : PyData} {l : Addr} {xs : List V}
/-- what is new and one of R -/
def NE (X : Cx) (e : Expr) (σ : St) (F H : Hp) (R : PyData → Prop) : Prop := ∀ F1 H1, Gr F H F1 H1 → ∀ Q : VK, (∀ d v F2 H2, Gr F1 H1 F2 H2 → Da F2 d v → R d → (∀ a, v = .ref a → H1 a = none) → Q v H2) → WE X e σ H1 Q
theorem NE.go {R : PyData → Prop} (h : NE X e σ F H R) (s : Same F H) {Q : VK} (q : ∀ d v F2 H2, Gr F H F2 H2 → Da F2 d v → R d → (∀ a, v = .ref a → H a = none) → Q v H2) : WE X e σ H Q := h F H (.refl s) Q q
theorem NE.de {R : PyData → Prop} (h : NE X e σ F H R) (hR : ∀ d', R d' → d' = d) : DE X e σ F H d := fun F1 H1 g Q q => h F1 H1 g Q fun d' v F2 H2 g2 hd r _ => by have := hR d' r; subst this; exact q v F2 H2 g2 hd
theorem ne_call (G : FnOk X.prog X.w X.K X.mg X.base CX0 k f fd ps (spR n pre post)) (hr : Room k X.A) (hm : X.mg x = some (.ref f)) (hk : PySem.W.keepIn X.K (.ref f) = true) (hb : Binds X.K fd ps []) (ha : DL X (e :: es) σ F H ds) (hn : ds.length = n) (hp : pre ds)
    (hg : Gl X x := by rfl) (hdb : (x == ("__debug__" : Str)) = false := by decide) (l : Pl X e es pos := by exact ⟨rfl, rfl⟩) : NE X (.Call (.Name x p) (e :: es) [] pos) σ F H (post ds) := fun F1 H1 g Q q =>
  we_of (pe_call G hr hg hm hk hb .nil pass0 pa_wa hdb l.he l.hpl) (ha F1 H1 g _ fun vs F2 H2 g2 hvs => by
    show spR n pre post (vs ++ []) H2 Q E0
    rw [List.append_nil]
    exact ⟨F2, ds, hn, g2.fh, hvs, hp, fun d v F3 H3 g3 hv hpo hf => q d v F3 H3 (g2.trans g3) hv hpo fun a ea => g2.hh.free (hf a ea)⟩)
/-- list(e), left open -/
theorem we_listOf (hm : X.mg "list" = none) (ha : DE X e σ F F (.list ds)) (s : Same F H) {Q : VK} (q : ∀ l vs F2 H2, Gr F H F2 H2 → DaAll F2 ds vs → H2 l = none → Q (.ref l) (upd H2 l (.lst vs))) (hg : Gl X "list" := by rfl) (pl : Pl X e [] pos := by exact ⟨rfl, rfl⟩) : WE X (.Call (.Name "list" p) [e] [] pos) σ H Q :=
  we_of (pe_callTy call_list_of hg hm (by decide +kernel) (pa_cons pe_we pa_nil pl.he) (by decide) (by decide) pl.he pl.hpl) (ha.at s fun v F2 H2 g2 hv => by
    obtain ⟨a, vs, rfl, h1, h2⟩ := hv
    exact ⟨a, vs, rfl, .inl (SqL.of (g2.fh _ _ h1)), fun l hl => q l vs F2 H2 g2 h2 hl⟩)
/-- o.extend(e) -/
theorem ws_extend (ho : VE X o σ F F (.ref l)) (he : DE X e σ F F (.list ds)) (s : Same F H) (hl : H l = some (.lst xs)) (hz : xs.length + ds.length ≤ sizeLine) (q : ∀ vs F2 H2, Gr F H F2 H2 → DaAll F2 ds vs → D.nx σ (upd H2 l (.lst (xs ++ vs))))
    (b : Bm X o "extend" e [] apos cpos := by exact ⟨rfl, rfl, rfl, rfl, rfl⟩) (hsw : swapsWith (.Call (.Attribute o "extend" apos) [e] [] cpos) none pos.line X.env = pure false := by rfl) : WS X (.Expr (.Call (.Attribute o "extend" apos) [e] [] cpos) pos) D σ H :=
  ws_expr (we_of (pe_bm PySem.F.plainAttrs_list PySem.F.slot_list_extend PySem.F.type_list_extend mt_extend pe_we (pa_cons pe_we pa_nil b.hs) b.hbase b.hfew b.hline b.hs b.hplain)
    (ho.at s fun F2 H2 g2 => ⟨.inl ⟨rfl, xs, SqL.of (g2.hh _ _ hl)⟩, (he.f g2.ff).at g2.fh fun v F3 H3 g3 hv => by
      obtain ⟨a, vs, rfl, h1, h2⟩ := hv
      exact ⟨l, a, xs, vs, rfl, rfl, (g2.trans g3).hh _ _ hl, g3.fh _ _ h1, by rw [h2.length]; exact hz, q vs F3 H3 (g2.trans g3) h2⟩⟩)) hsw
end
section
variable {X : Cx} {σ : St} {F H : Hp} {e : Expr} {p p2 pos pos2 : Pos} {xs : List Str}
theorem ne_sortedSet (hm : X.mg "sorted" = none) (hm2 : X.mg "set" = none) (hc : X.calm = true) (hl : xs.length ≤ 4000) (ha : DE X e σ F H (.list (xs.map .str))) (hg : Gl X "sorted" := by rfl) (hg2 : Gl X "set" := by rfl) (l : Pl X (.Call (.Name "set" p2) [e] [] pos2) [] pos := by exact ⟨rfl, rfl⟩) (l2 : Pl X e [] pos2 := by exact ⟨rfl, rfl⟩) :
    NE X (.Call (.Name "sorted" p) [.Call (.Name "set" p2) [e] [] pos2] [] pos) σ F H (fun d => d = ksD (kset xs)) := fun F1 H1 g Q q =>
  we_of (pe_callB (cr_sortedSetS hc) hg hm (by decide +kernel) (pa_cons (pe_callTy (cr_setS hc) hg2 hm2 (by decide +kernel) (pa_cons pe_we pa_nil l2.he) (by decide) (by decide) l2.he l2.hpl) pa_nil l.he) (by decide) (by decide) l.he l.hpl)
    (ha F1 H1 g _ fun v F2 H2 g2 hv => by
      obtain ⟨a, ys, rfl, h1, h2⟩ := hv
      obtain rfl := h2.strs
      refine ⟨a, xs, rfl, SqL.of (g2.fh _ _ h1), by show xs.length + 1 < 4096; omega, fun b L hb m => ⟨b, L, rfl, upd_same, fun c hcn => ?_⟩⟩
      have gb := g2.open' (o := SetSO X.w b L) hb
      rw [m.kset]
      exact q (ksD (kset xs)) _ (upd F2 c (.lst _)) _ (gb.shut hcn) ⟨c, _, rfl, upd_same, daAll_strs _⟩ rfl fun z ez => by
        injection ez with ez; subst ez; exact gb.hh.free hcn)
end
/-! ## what comes -/
inductive Comes (h : House) : Str → Prop
  | begin' {k : Str} : k ∈ h.1 → Comes h k
  | room {r : Room'} {k : Str} : r ∈ h.2 → (∀ l ∈ r.1, Comes h l) → k ∈ r.2 → Comes h k
def IsCome (h : House) (c : List Str) : Prop := (∀ x, x ∈ c ↔ Comes h x) ∧ c.Nodup ∧ c.Pairwise (fun a b => leS a b = true)
theorem IsCome.unique {h : House} {c d : List Str} (a : IsCome h c) (b : IsCome h d) : c = d := sorted_unique (perm_of_nodup a.2.1 b.2.1 fun x => (a.1 x).trans (b.1 x).symm) a.2.2 b.2.2
/-- closed under the rooms, and no more than comes -/
theorem isCome_of {h : House} {c : List Str} (h1 : ∀ x ∈ c, Comes h x) (h2 : ∀ x ∈ h.1, x ∈ c) (h3 : ∀ r ∈ h.2, (∀ l ∈ r.1, l ∈ c) → ∀ k ∈ r.2, k ∈ c) (h4 : c.Nodup) (h5 : c.Pairwise (fun a b => leS a b = true)) : IsCome h c := by
  refine ⟨fun x => ⟨h1 x, fun hx => ?_⟩, h4, h5⟩
  induction hx with
  | begin' h => exact h2 _ h
  | room hr _ hk ih => exact h3 _ hr ih _ hk
/-- the keys of the rooms of rs whose locks are all of c -/
def newKeys (c : List Str) (rs : List Room') : List Str := (rs.filter fun r => r.1.all fun k => decide (k ∈ c)).flatMap (·.2)
theorem mem_newKeys {c : List Str} {rs : List Room'} {k : Str} : k ∈ newKeys c rs ↔ ∃ r ∈ rs, (∀ l ∈ r.1, l ∈ c) ∧ k ∈ r.2 := by
  unfold newKeys
  simp only [List.mem_flatMap, List.mem_filter, List.all_eq_true, decide_eq_true_eq]
  exact ⟨fun ⟨r, ⟨h1, h2⟩, h3⟩ => ⟨r, h1, h2, h3⟩, fun ⟨r, h1, h2, h3⟩ => ⟨r, ⟨h1, h2⟩, h3⟩⟩
theorem nodup_back {l ks : List Str} (hl : l.Nodup) (hk : ks.Nodup) (h : ∀ x ∈ l, x ∈ ks) (hn : ks.length ≤ l.length) : ∀ x ∈ ks, x ∈ l := fun x hx => by
  by_cases hm : x ∈ l
  · exact hm
  · exfalso
    have := subset_length (l := x :: l) (ks := ks) (List.nodup_cons.mpr ⟨hm, hl⟩) fun y hy => by
      rcases List.mem_cons.mp hy with rfl | hy
      · exact hx
      · exact h y hy
    simp only [List.length_cons] at this
    omega
def keysIn (rs : List Room') : Nat := (rs.map fun r => r.2.length).sum
structure Small (h : House) : Prop where
  good : GoodHouse h
  b : h.1.length ≤ 1000
  r : h.2.length ≤ 1000
  k : keysIn h.2 ≤ 1000
theorem newKeys_len (c : List Str) : ∀ rs : List Room', (newKeys c rs).length ≤ keysIn rs
  | [] => Nat.le_refl _
  | r :: rs => by
    have ih := newKeys_len c rs
    unfold newKeys keysIn at ih ⊢
    rw [List.filter_cons, List.map_cons, List.sum_cons]
    split
    · rw [List.flatMap_cons, List.length_append]; omega
    · omega
theorem comes_in {h : House} {x : Str} (hx : Comes h x) : x ∈ h.1 ++ h.2.flatMap (·.2) := by
  cases hx with
  | begin' h => exact List.mem_append_left _ h
  | room hr _ hk => exact List.mem_append_right _ (List.mem_flatMap.mpr ⟨_, hr, hk⟩)
theorem flat_len : ∀ rs : List Room', (rs.flatMap (·.2)).length = keysIn rs
  | [] => rfl
  | r :: rs => by unfold keysIn; rw [List.flatMap_cons, List.length_append, List.map_cons, List.sum_cons, flat_len rs]; rfl
theorem come_len {h : House} {c : List Str} (s : Small h) (h1 : ∀ x ∈ c, Comes h x) (hn : c.Nodup) : c.length ≤ 2000 := by
  have := subset_length (ks := h.1 ++ h.2.flatMap (·.2)) hn fun x hx => comes_in (h1 x hx)
  rw [List.length_append, flat_len] at this
  have := s.b
  have := s.k
  omega
theorem newKeys_snoc {c : List Str} {rs : List Room'} {i : Nat} {r : Room'} (h : rs[i]? = some r) : newKeys c (rs.take (i + 1)) = newKeys c (rs.take i) ++ (if (r.1.all fun k => decide (k ∈ c)) = true then r.2 else []) := by
  unfold newKeys
  rw [List.take_add_one, h, List.filter_append, List.flatMap_append]
  congr 1
  simp only [Option.toList_some, List.filter_cons, List.filter_nil]
  split <;> simp
theorem take_keys {rs : List Room'} (i : Nat) : keysIn (rs.take i) ≤ keysIn rs := by
  have e : keysIn rs = keysIn (rs.take i) + keysIn (rs.drop i) := by
    unfold keysIn
    rw [← List.sum_append, ← List.map_append, List.take_append_drop]
  omega
theorem step_come {h : House} {c : List Str} (hc : ∀ x ∈ c, Comes h x) : ∀ x ∈ kset (c ++ newKeys c h.2), Comes h x := fun x hx => by
  rcases List.mem_append.mp (mem_kset.mp hx) with hx | hx
  · exact hc x hx
  · obtain ⟨r, hr, h1, h2⟩ := mem_newKeys.mp hx
    exact .room hr (fun l hl => hc l (h1 l hl)) h2
theorem done_come {h : House} {c : List Str} {many : Int} (hc : ∀ x ∈ c, Comes h x) (hb : ∀ x ∈ h.1, x ∈ c) (hn : c.Nodup) (hp : c.Pairwise (fun a b => leS a b = true)) (hm : ¬ many < c.length)
    (hw : many = -1 ∨ ∃ c0 : List Str, c0.Nodup ∧ (c0.length : Int) = many ∧ (∀ x ∈ c0, x ∈ c) ∧ ∀ x ∈ newKeys c0 h.2, x ∈ c) : IsCome h c := by
  rcases hw with rfl | ⟨c0, h1, h2, h3, h4⟩
  · omega
  · have hb' := nodup_back h1 hn h3 (by omega)
    exact isCome_of hc hb (fun r hr hl k hk => h4 k (mem_newKeys.mpr ⟨r, hr, fun l hl' => hb' l (hl l hl'), hk⟩)) hn hp

theorem getMap {α : Type} {f : α → PyData} {xs : List α} {i : Nat} {d : PyData} (h : (xs.map f)[i]? = some d) : ∃ x, xs[i]? = some x ∧ f x = d := by
  rw [List.getElem?_map] at h
  cases e : xs[i]? with
  | none => rw [e] at h; cases h
  | some x => rw [e] at h; exact ⟨x, rfl, by injection h⟩
theorem roomSz {h : House} {r : Room'} {i : Nat} (s : Small h) (hr : h.2[i]? = some r) : r.1.length ≤ sizeLine := by
  have := (s.good.rooms r (List.mem_of_getElem? hr)).2.2.2.1
  exact sz100 (by omega)
theorem extSz {h : House} {r : Room'} {i : Nat} {c : List Str} (s : Small h) (cl : c.length ≤ 2000) (hr : h.2[i]? = some r) : ((c ++ newKeys c (h.2.take i)).map V.str).length + (r.2.map PyData.str).length ≤ sizeLine := by
  have h1 := newKeys_len c (h.2.take i)
  have h2 := take_keys (rs := h.2) i
  have h3 := s.k
  have h4 := s.good.each r (List.mem_of_getElem? hr)
  rw [List.length_map, List.length_map, List.length_append]
  exact Nat.le_trans (show _ ≤ 200000 by omega) (by decide)
theorem comeSz {h : House} {c : List Str} (s : Small h) (cl : c.length ≤ 2000) : (c ++ newKeys c h.2).length ≤ 4000 := by
  have := newKeys_len c h.2
  have := s.k
  rw [List.length_append]; omega
end Kr

/-! layer KrV -/
namespace Kr
open PySem L2
/-! ## ints in lists -/
theorem inV_ints (x : Int) : ∀ xs : List Int, inV (.int x) (xs.map V.int) = decide (x ∈ xs)
  | [] => rfl
  | y :: ys => by
    have ih := inV_ints x ys
    unfold inV at ih ⊢
    rw [List.map_cons, List.any_cons, ih]
    show ((y == x) || decide (x ∈ ys)) = _
    by_cases h : y = x
    · subst h; simp
    · have h' : x ≠ y := fun e => h e.symm
      simp [h, h']
theorem flat_ints (xs : List Int) : (xs.map V.int).all flatV = true := by
  rw [List.all_map, List.all_eq_true]
  intro x _; rfl
theorem ints_unique : ∀ {xs ys : List Int}, xs.Perm ys → xs.Pairwise (· ≤ ·) → ys.Pairwise (· ≤ ·) → xs = ys
  | [], ys, p, _, _ => (List.nil_perm.mp p).symm
  | x :: xs, [], p, _, _ => by simpa using p.length_eq
  | x :: xs, y :: ys, p, h1, h2 => by
    have e : x = y := by
      have hx : x ∈ y :: ys := p.mem_iff.mp List.mem_cons_self
      have hy : y ∈ x :: xs := p.mem_iff.mpr List.mem_cons_self
      rcases List.mem_cons.mp hx with e | hx
      · exact e
      rcases List.mem_cons.mp hy with e | hy
      · exact e.symm
      exact Int.le_antisymm (List.rel_of_pairwise_cons h1 hy) (List.rel_of_pairwise_cons h2 hx)
    subst e
    rw [ints_unique ((List.perm_cons x).mp p) h1.of_cons h2.of_cons]
def srtI (xs : List Int) : List Int := xs.mergeSort fun a b => decide (a ≤ b)
theorem srtI_perm (xs : List Int) : (srtI xs).Perm xs := List.mergeSort_perm _ _
theorem srtI_sorted (xs : List Int) : (srtI xs).Pairwise (· ≤ ·) := by
  have := List.pairwise_mergeSort (le := fun a b : Int => decide (a ≤ b)) (fun a b c h1 h2 => by simp only [decide_eq_true_eq] at *; omega) (fun a b => by simp only [Bool.or_eq_true, decide_eq_true_eq]; omega) xs
  exact this.imp fun h => of_decide_eq_true h
section
variable {X : Cx} {σ : St} {F H : Hp} {e a b o : Expr} {pos p apos p2 : Pos} {x : Int} {xs : List Int}
theorem c_notInI (ha : DE X a σ F H (.int x)) (hb : DE X b σ F H (.list (xs.map .int))) (hm : behindInMarks .NotIn b = false := by rfl) : DC X .NotIn a b σ F H (!decide (x ∈ xs)) :=
  c_cmp op_notIn_seq hm ha hb fun x' y' F1 H1 g1 hx hy Q q => by
    obtain rfl : x' = .int x := hx
    obtain ⟨l, vs, rfl, h1, h2⟩ := hy
    obtain rfl := h2.ints
    exact ⟨l, _, rfl, .inl (SqL.of (g1.fh _ _ h1)), rfl, flat_ints _, q _ F1 H1 (.refl g1.fh) (by rw [inV_ints]; rfl)⟩
theorem c_inI (ha : DE X a σ F H (.int x)) (hb : DE X b σ F H (.list (xs.map .int))) (hm : behindInMarks .In b = false := by rfl) : DC X .In a b σ F H (decide (x ∈ xs)) :=
  c_cmp op_in_seq hm ha hb fun x' y' F1 H1 g1 hx hy Q q => by
    obtain rfl : x' = .int x := hx
    obtain ⟨l, vs, rfl, h1, h2⟩ := hy
    obtain rfl := h2.ints
    exact ⟨l, _, rfl, .inl (SqL.of (g1.fh _ _ h1)), rfl, flat_ints _, q _ F1 H1 (.refl g1.fh) (by rw [inV_ints]; rfl)⟩
theorem de_sortedI (hm : X.mg "sorted" = none) (ha : DE X e σ F H (.list (xs.map .int))) (hg : Gl X "sorted" := by rfl) (l : Pl X e [] pos := by exact ⟨rfl, rfl⟩) : DE X (.Call (.Name "sorted" p) [e] [] pos) σ F H (.list ((srtI xs).map .int)) :=
  de_callB cr_sortedI hg hm (by decide +kernel) (dl_cons ha dl_nil l.he) (fun vs F1 H1 g1 hv Q q => by
    obtain ⟨v, rfl, a, ys, rfl, h1, h2⟩ := daAll1 hv
    obtain rfl := h2.ints
    refine ⟨_, xs, rfl, SqL.of (g1.fh _ _ h1), fun ns l hp hs hl => ?_⟩
    have := ints_unique (hp.trans (srtI_perm xs).symm) hs (srtI_sorted xs)
    subst this
    exact q _ (upd F1 l (.lst _)) _ ((Gr.refl g1.fh).shut hl) ⟨l, _, rfl, upd_same, daAll_ints _⟩) ⟨by decide, by decide⟩ l
theorem de_intB {bb : Bool} (hm : X.mg "int" = none) (ha : DE X e σ F H (.bool bb)) (hg : Gl X "int" := by rfl) (l : Pl X e [] pos := by exact ⟨rfl, rfl⟩) : DE X (.Call (.Name "int" p) [e] [] pos) σ F H (.int (if bb then 1 else 0)) :=
  de_callTy call_int1 hg hm (by decide +kernel) (dl_cons ha dl_nil l.he) (fun vs F1 H1 g1 hv Q q => by
    obtain ⟨v, rfl, hd⟩ := daAll1 hv
    obtain rfl : v = .bl bb := hd
    exact .inr ⟨bb, rfl, q _ F1 H1 (.refl g1.fh) rfl⟩) ⟨by decide, by decide⟩ l
end
/-! ## a sign, some times -/
def repS (x : Str) (n : Int) : Str := if n = 1 then x else ⟨(List.replicate n.toNat x.cps).foldl (· ++ ·) #[]⟩
theorem op_repS {X : Cx} : OpR X (binaryOp .Mult) (fun x y H Q => ∃ z n, x = V.str z ∧ y = V.int n ∧ 1 ≤ n ∧ n ≤ 1000 ∧ z.length = 1 ∧ Q (.str (repS z n)) H) := by
  intro pins s σ H x y v u Q I rx ry h
  obtain ⟨z, n, rfl, rfl, h1, h2, hz, q⟩ := h
  obtain ⟨t, rfl⟩ := rx
  obtain ⟨t', rfl⟩ := ry
  have hl : PySem.Builtin.Str.tooLong (z.length * n.toNat) = false := by
    rw [hz, Nat.one_mul]
    unfold PySem.Builtin.Str.tooLong
    simp only [decide_eq_false_iff_not]
    have : sizeLine = 16777216 := by decide
    omega
  refine PySem.P.mul_str (by rw [decide_eq_false (by omega), decide_eq_false (by omega)]; rfl) (fun _ _ => by
    rw [hz]
    have : (1 : Int) ≤ (2 ^ 63 - 1) / n := Int.le_ediv_of_mul_le (by omega) (by omega)
    show ¬ ((1 : Nat) : Int) > _
    omega) (fun _ _ => hl) ?_
  rw [if_neg (by omega)]
  unfold repS at q
  by_cases hn : n = 1
  · subst hn
    rw [if_pos rfl] at q
    rw [if_pos (by rfl)]
    exact ⟨.str z, H, I, ⟨_, rfl⟩, q⟩
  · rw [if_neg hn] at q
    rw [if_neg (by simp [hn, hz])]
    exact ⟨PySem.fits_reps hl, .str _, H, I.tok _, ⟨_, rfl⟩, q⟩
theorem de_repS {X : Cx} {σ : St} {F H : Hp} {a b : Expr} {pos : Pos} {z : Str} {n : Int} (ha : DE X a σ F H (.str z)) (hb : DE X b σ F H (.int n)) (h1 : 1 ≤ n) (h2 : n ≤ 1000) (hz : z.length = 1) : DE X (.BinOp a .Mult b pos) σ F H (.str (repS z n)) :=
  de_op op_repS ha hb fun x y F1 H1 g1 hx hy Q q => ⟨z, n, hx, hy, h1, h2, hz, q _ F1 H1 (.refl g1.fh) rfl⟩
/-! ## the come of a house, as the law takes it -/
structure LC (h : House) (c : List Str) (R : List Int) : Prop where
  hc : ∀ x ∈ c, Comes h x
  hb : ∀ x ∈ h.1, x ∈ c
  nd : c.Nodup
  st : c.Pairwise (fun a b => leS a b = true)
  rn : R.Nodup
  rr : ∀ i ∈ R, ∃ j : Nat, i = j ∧ j < h.2.length
  rk : ∀ j : Nat, (j : Int) ∈ R → ∀ r, h.2[j]? = some r → (∀ l ∈ r.1, l ∈ c) ∧ ∀ k ∈ r.2, k ∈ c
theorem LC.start (h : House) : LC h (kset h.1) [] := ⟨fun x hx => .begin' (mem_kset.mp hx), fun x hx => mem_kset.mpr hx, kset_nodup _, kset_sorted _, List.nodup_nil, (fun _ h => nomatch h), (fun _ h => nomatch h)⟩
theorem LC.step {h : House} {c : List Str} {R : List Int} {j : Nat} {r : Room'} (L : LC h c R) (hr : h.2[j]? = some r) (hj : (j : Int) ∉ R) (hl : ∀ l ∈ r.1, l ∈ c) : LC h (kset (c ++ r.2)) (R ++ [(j : Int)]) := by
  have sub : ∀ x ∈ c, x ∈ kset (c ++ r.2) := fun x hx => mem_kset.mpr (List.mem_append_left _ hx)
  refine ⟨fun x hx => ?_, fun x hx => sub x (L.hb x hx), kset_nodup _, kset_sorted _, ?_, fun i hi => ?_, fun k hk s hs => ?_⟩
  · rcases List.mem_append.mp (mem_kset.mp hx) with hx | hx
    · exact L.hc x hx
    · exact .room (List.mem_of_getElem? hr) (fun l hl' => L.hc l (hl l hl')) hx
  · exact List.nodup_append.mpr ⟨L.rn, List.nodup_cons.mpr ⟨(fun h => nomatch h), List.nodup_nil⟩, fun a ha b hb e => by
      rw [List.mem_singleton] at hb
      subst hb; subst e
      exact hj ha⟩
  · rcases List.mem_append.mp hi with hi | hi
    · exact L.rr i hi
    · rw [List.mem_singleton] at hi
      exact ⟨j, hi, (List.getElem?_eq_some_iff.mp hr).1⟩
  · rcases List.mem_append.mp hk with hk | hk
    · obtain ⟨h1, h2⟩ := L.rk k hk s hs
      exact ⟨fun l hl => sub l (h1 l hl), fun l hl => sub l (h2 l hl)⟩
    · rw [List.mem_singleton] at hk
      have : k = j := by omega
      subst this
      rw [hr] at hs
      injection hs with hs
      subst hs
      exact ⟨fun l hl' => sub l (hl l hl'), fun l hl' => mem_kset.mpr (List.mem_append_right _ hl')⟩
theorem LC.len {h : House} {c : List Str} {R : List Int} (L : LC h c R) : R.length ≤ h.2.length := by
  have := subset_length (ks := (List.range h.2.length).map fun j : Nat => (j : Int)) L.rn fun i hi => by
    obtain ⟨j, rfl, hj⟩ := L.rr i hi
    exact List.mem_map.mpr ⟨j, List.mem_range.mpr hj, rfl⟩
  simpa using this
def IsOpen (h : House) (R : List Int) : Prop := R.Pairwise (· ≤ ·) ∧ R.Nodup ∧ ∀ i : Int, i ∈ R ↔ ∃ j : Nat, i = j ∧ ∃ r, h.2[j]? = some r ∧ ∀ l ∈ r.1, Comes h l
theorem LC.done {h : House} {c : List Str} {R : List Int} (L : LC h c R) (hd : ∀ (j : Nat) r, h.2[j]? = some r → (j : Int) ∈ R ∨ ¬ ∀ l ∈ r.1, l ∈ c) : IsCome h c ∧ IsOpen h (srtI R) := by
  have C : IsCome h c := isCome_of L.hc L.hb (fun r hr hl k hk => by
    obtain ⟨j, hj⟩ := List.getElem?_of_mem hr
    rcases hd j r hj with h1 | h1
    · exact (L.rk j h1 r hj).2 k hk
    · exact absurd hl h1) L.nd L.st
  refine ⟨C, srtI_sorted _, (srtI_perm R).nodup_iff.mpr L.rn, fun i => ?_⟩
  rw [(srtI_perm R).mem_iff]
  constructor
  · intro hi
    obtain ⟨j, rfl, hj⟩ := L.rr i hi
    exact ⟨j, rfl, h.2[j], List.getElem?_eq_getElem hj, fun l hl => L.hc l ((L.rk j hi _ (List.getElem?_eq_getElem hj)).1 l hl)⟩
  · rintro ⟨j, rfl, r, hr, hl⟩
    rcases hd j r hr with h1 | h1
    · exact h1
    · exact absurd (fun l hl' => (C.1 l).mpr (hl l hl')) h1
theorem lenSz {h : House} {R : List Int} (hR : R.length ≤ h.2.length) (s : Small h) : (R.map V.int).length < sizeLine := by
  have := s.r
  rw [List.length_map]
  have : sizeLine = 16777216 := by decide
  omega
theorem one_le {r : Room'} : ∀ {rs : List Room'}, r ∈ rs → r.2.length ≤ keysIn rs
  | x :: rs, h => by
    have e : keysIn (x :: rs) = x.2.length + keysIn rs := by unfold keysIn; rw [List.map_cons, List.sum_cons]
    rcases List.mem_cons.mp h with rfl | h
    · omega
    · have := one_le h
      omega
theorem addSz {h : House} {r : Room'} {i : Nat} {c : List Str} (s : Small h) (cl : c.length ≤ 2000) (hr : h.2[i]? = some r) : (c ++ r.2).length ≤ 4000 := by
  have := one_le (List.mem_of_getElem? hr)
  have := s.k
  rw [List.length_append]; omega
theorem addSz2 {h : House} {r : Room'} {i : Nat} {c : List Str} (s : Small h) (cl : c.length ≤ 2000) (hr : h.2[i]? = some r) : (c.map PyData.str).length + (r.2.map PyData.str).length ≤ sizeLine := by
  have := one_le (List.mem_of_getElem? hr)
  have := s.k
  rw [List.length_map, List.length_map]
  exact sz100 (by omega)
end Kr

/-! layer KrW -/
namespace Kr
open PySem L2
theorem flat_ones {α : Type} (x : α) : ∀ n : Nat, (List.replicate n [x]).flatten = List.replicate n x
  | 0 => rfl
  | n + 1 => by rw [List.replicate_succ, List.flatten_cons, List.replicate_succ, flat_ones x n]; rfl
theorem seqIx {i : Int} {n : Nat} (h0 : 0 ≤ i) (hi : i.toNat < n) : seqIndex? i n = some i.toNat := by
  have hn : ¬ i < 0 := by omega
  have hb : (decide (0 ≤ i) && decide (i < (n : Int))) = true := by
    simp only [Bool.and_eq_true, decide_eq_true_eq]
    omega
  unfold seqIndex?
  simp only [hn, if_false, hb, if_true]
section
variable {p : Addr} {c c1 c2 : Nat} {X : Cx} {σ : St} {F H : Hp} {e a b o : Expr} {pos q cpos apos lp : Pos} {R : PyData → Prop}
/-! ## more that draws -/
theorem px_lst1 {A : PyData → Prop} (ha : Px p c X a σ F A) (l1 : starEach [a] X.env = [(false, eval a X.env)] := by rfl) : Px p c X (.List [a] pos) σ F (fun d => ∃ x, d = .list [x] ∧ A x) := fun n F1 H1 s1 s2 f P hn Q k =>
  we_of (pe_lst (pa_cons pe_we pa_nil l1)) (ha n F1 H1 s1 s2 f P hn _ fun d v F2 H2 g2 P2 hv hA => by
    refine ⟨by show 1 ≤ sizeLine; decide, fun l hl => ?_⟩
    have hp : H1 p ≠ none := by obtain ⟨o, ho⟩ := P.some; rw [ho]; exact fun z => nomatch z
    have hlp : l ≠ p := fun z => by subst z; exact g2.at' hp hl
    refine k (.list [d]) (.ref l) (upd F2 l (.lst [v])) _ (g2.shut hl hp) ?_ ⟨l, _, rfl, upd_same, daAll_cons (hv.mono (same_upd (g2.fh.free hl))) daAll_nil⟩ ⟨d, rfl, hA⟩
    obtain ⟨c, m, t, h, h1, h2, h3⟩ := P2
    exact ⟨c, m, t, by rw [upd_ne (fun z => hlp z.symm)]; exact h, h1, h2, h3⟩)
theorem px_catL {A B : List PyData → Prop} (ha : Px p c1 X a σ F (fun d => ∃ xs, d = .list xs ∧ A xs)) (hb : Px p c2 X b σ F (fun d => ∃ ys, d = .list ys ∧ B ys)) (hz : ∀ xs ys, A xs → B ys → xs.length + ys.length ≤ 100000) : Px p (c1 + c2) X (.BinOp a .Add b pos) σ F (fun d => ∃ xs ys, d = .list (xs ++ ys) ∧ A xs ∧ B ys) :=
  px_op op_cat ha hb fun d1 d2 x y F1 H1 s1 s2 ⟨xs, e1, hA⟩ ⟨ys, e2, hB⟩ hx hy Q k => by
    subst e1 e2
    obtain ⟨l, us, rfl, h1, h2⟩ := hx
    obtain ⟨m, ws, rfl, h3, h4⟩ := hy
    refine ⟨l, m, us, ws, rfl, rfl, s2 _ _ h1, s2 _ _ h3, by rw [h2.length, h4.length]; exact sz100 (hz xs ys hA hB), fun r hr => ?_⟩
    exact k (.list (xs ++ ys)) (.ref r) (upd F1 r (.lst (us ++ ws))) _ ((Gr.refl s2).shut hr) ⟨r, _, rfl, upd_same, (h2.append h4).mono (same_upd (s2.free hr))⟩ ⟨xs, ys, rfl, hA, hB⟩
theorem px_repL {A : PyData → Prop} {B : Nat → Prop} (ha : Px p c1 X a σ F (fun d => ∃ x, d = .list [x] ∧ A x)) (hb : Px p c2 X b σ F (fun d => ∃ n : Nat, d = .int n ∧ n ≤ 100000 ∧ B n)) : Px p (c1 + c2) X (.BinOp a .Mult b pos) σ F (fun d => ∃ (n : Nat) (x : PyData), d = .list (List.replicate n x) ∧ A x ∧ B n) :=
  px_op op_rep ha hb fun d1 d2 x y F1 H1 s1 s2 ⟨x0, e1, hA⟩ ⟨n, e2, hn, hB⟩ hx hy Q k => by
    subst e1 e2
    obtain ⟨l, us, rfl, h1, h2⟩ := hx
    have e := flat_ones x0 n
    have hu : us.length = 1 := h2.length
    refine ⟨l, n, us, rfl, hy, s2 _ _ h1, by omega, by omega, by rw [hu, Nat.one_mul, Int.toNat_natCast]; exact sz100 hn, fun r hr => ?_⟩
    have da := daAll_rep h2 n
    rw [e] at da
    rw [Int.toNat_natCast]
    exact k (.list (List.replicate n x0)) (.ref r) (upd F1 r (.lst _)) _ ((Gr.refl s2).shut hr) ⟨r, _, rfl, upd_same, da.mono (same_upd (s2.free hr))⟩ ⟨n, x0, rfl, hA, hB⟩
theorem px_intB (hm : X.mg "int" = none) (ha : Px p c X e σ F (fun d => ∃ bb : Bool, d = .bool bb)) (hg : Gl X "int" := by rfl) (l : Pl X e [] pos := by exact ⟨rfl, rfl⟩) : Px p c X (.Call (.Name "int" q) [e] [] pos) σ F (fun d => ∃ n : Nat, d = .int n ∧ n ≤ 100000 ∧ n ≤ 1) := fun n F1 H1 s1 s2 f P hn Q k =>
  we_of (pe_callTy call_int1 hg hm (by decide +kernel) (pa_cons pe_we pa_nil l.he) (by decide) (by decide) l.he l.hpl) (ha n F1 H1 s1 s2 f P hn _ fun d v F2 H2 g2 P2 hv hA => by
    obtain ⟨bb, rfl⟩ := hA
    obtain rfl : v = .bl bb := hv
    refine .inr ⟨bb, rfl, ?_⟩
    cases bb with
    | true => exact k (.int ((1 : Nat) : Int)) _ F2 H2 g2 P2 rfl ⟨1, rfl, by decide, by decide⟩
    | false => exact k (.int ((0 : Nat) : Int)) _ F2 H2 g2 P2 rfl ⟨0, rfl, by decide, by decide⟩)
theorem px_one {op} (h : Px p c X a σ F R) : Px p c X (.BoolOp op [a] pos) σ F R := fun n F1 H1 s1 s2 f P hn Q k => we_of (pe_one pe_we) (h n F1 H1 s1 s2 f P hn Q k)
theorem px_and {bb : Bool} (ha : DE X a σ F F (.bool bb)) (hb : bb = true → Px p c X (.BoolOp .And [b] pos) σ F (fun d => ∃ bb : Bool, d = .bool bb)) : Px p c X (.BoolOp .And [a, b] pos) σ F (fun d => ∃ bb : Bool, d = .bool bb) := fun n F1 H1 s1 s2 f P hn Q k =>
  we_of (pe_and pe_we pe_we) ((ha.f s1).at s2 fun v F2 H2 g2 hv => ⟨bb, hv, by
    cases bb with
    | true => exact iteT (hb rfl n F2 H2 (s1.trans g2.ff) g2.fh (by obtain ⟨o, ho⟩ := P.some; exact g2.f0 f ho) (P.mono g2.hh) hn _ fun d v F3 H3 g3 P3 hv hR => k d v F3 H3 (g2.gp.trans g3) P3 hv hR)
    | false => exact iteF (k (.bool false) _ F2 H2 g2.gp (P.mono g2.hh) rfl ⟨false, rfl⟩)⟩)
theorem px_eqI {j : Int} {A : Int → Prop} (ha : Px p c X a σ F (fun d => ∃ i, d = .int i ∧ A i)) (hb : DE X b σ F F (.int j)) : Px p c X (.Compare a [.Eq] [b] pos) σ F (fun d => ∃ bb : Bool, d = .bool bb) := fun n F1 H1 s1 s2 f P hn Q k =>
  we_of (pe_cmpR op_eq pe_we pe_we (nomark _)) (ha n F1 H1 s1 s2 f P hn _ fun d v F2 H2 g2 P2 hv hA => by
    obtain ⟨i, rfl, hi⟩ := hA
    obtain rfl : v = .int i := hv
    refine (hb.f (s1.trans g2.ff)).at g2.fh fun u F3 H3 g3 hu => ?_
    obtain rfl : u = .int j := hu
    exact ⟨rfl, k (.bool _) _ F3 H3 (g2.trans g3.gp) (P2.mono g3.hh) rfl ⟨_, rfl⟩⟩)
/-- o.pop(e), e drawn -/
theorem we_popX {n : Nat} {l : Addr} {xs : List V} (ho : VE X o σ F F (.ref l)) (he : Px p c X e σ F (fun d => ∃ i, d = .int i ∧ (0 : Int) ≤ i ∧ i < xs.length)) (s : Same F H) (hl : H l = some (.lst xs)) (hlp : l ≠ p) (hz : xs.length ≤ 100000) (f : F p = none) (P : Pool H p n) (hn : n + c ≤ 1000000) {Q : VK}
    (k : ∀ (i : Nat) v F2 H2, xs[i]? = some v → Gp p F H F2 H2 → Pool H2 p (n + c) → Q v (upd H2 l (.lst (xs.eraseIdx i))))
    (b : Bm X o "pop" e [] apos cpos := by exact ⟨rfl, rfl, rfl, rfl, rfl⟩) : WE X (.Call (.Attribute o "pop" apos) [e] [] cpos) σ H Q :=
  we_of (pe_bm PySem.F.plainAttrs_list PySem.F.slot_list_pop PySem.F.type_list_pop mt_popAt pe_we (pa_cons pe_we pa_nil b.hs) b.hbase b.hfew b.hline b.hs b.hplain)
    (ho.at s fun F2 H2 g2 => ⟨.inl ⟨rfl, xs, SqL.of (g2.hh _ _ hl)⟩, he n F2 H2 g2.ff g2.fh (by obtain ⟨o, ho⟩ := P.some; exact g2.f0 f ho) (P.mono g2.hh) hn _ fun d v F3 H3 g3 P3 hv hA => by
      obtain ⟨i, rfl, h0, h1⟩ := hA
      obtain rfl : v = .int i := hv
      have hi : i.toNat < xs.length := by omega
      refine ⟨l, xs, i, i.toNat, xs[i.toNat], rfl, rfl, g3.hh _ _ hlp (g2.hh _ _ hl), by omega, by omega, ?_, List.getElem?_eq_getElem hi, k i.toNat _ F3 H3 (List.getElem?_eq_getElem hi) (g2.gp.trans g3) P3⟩
      exact seqIx h0 hi⟩)
end
/-! ## y = [.. for .. in range(e)], by a word of the turn and the heap -/
theorem ws_setLcP {X : Cx} {σ : St} {F H : Hp} {e elt tg : Expr} {scope : Scope} {pos rp q spos py : Pos} {y : Str} {n : Nat} {D : Ends} (k : Nat) (own : List (Str × Nat)) (o : LcOk X scope own (.Call (.Name "range" q) [e] [] rp)) (hm : X.mg "range" = none) (he : DE X e σ F F (.int n)) (hn : n ≤ 100000) (s : Same F H)
    (h : ∀ F1 H1, Gr F H F1 H1 → ∀ L, H1 L = none → ∃ Pv : Nat → Hp → Prop, Pv 0 (upd H1 L (.lst [])) ∧ (∀ i H', i < n → Pv i H' → gB X scope tg (.int (0 + (i : Int))) (wipe σ (own.map (·.2))) H' fun σ2 H2 => wipe σ2 (own.map (·.2)) = wipe σ (own.map (·.2)) ∧ ∀ s H0 C cl fp, WE (Blk X scope s H0 C cl fp) elt σ2 H2 fun v H4 => ∃ acc, H4 L = some (.lst acc) ∧ acc.length < sizeLine ∧ Pv (i + 1) (upd H4 L (.lst (acc ++ [v])))) ∧ ∀ H', Pv n H' → D.nx (σ.set k (some (.ref L))) H')
    (hg : Gl X "range" := by rfl) (l : Pl X e [] rp := by exact ⟨rfl, rfl⟩) (hy : X.N[k]? = some y := by rfl) (hyl : X.env.scope.names.lookup y = some .local := by rfl)
    (hsw : swapsWith (.ListComp elt [⟨tg, .Call (.Name "range" q) [e] [] rp, [], 0⟩] scope pos) (some (.Name y py)) spos.line X.env = pure true := by exact sw_true rfl rfl rfl (by decide +kernel)) : WS X (.Assign [.Name y py] (.ListComp elt [⟨tg, .Call (.Name "range" q) [e] [] rp, [], 0⟩] scope pos) spos) D σ H :=
  ws_of (ps_setLc (g := gB X scope tg) (tt := tYes) (te := eB X scope elt) o.calm o.nd hy hyl hsw (pi_range1 hg hm (pa_cons pe_we pa_nil l.he) (hs := l.he)) (blkOk_by o.ok) (fun s H0 C cl fp => ⟨fun pins s' σ H v u Q I r h => h s H0 C cl fp pins s' u I r⟩) (fun _ _ _ _ _ => pts_nil) (fun s H0 C cl fp => ⟨fun pins s' σ H Q I h => h s H0 C cl fp pins s' I⟩) o.fs)
    (he.at s fun v F2 H2 g2 hv => by
      obtain rfl : v = .int n := hv
      refine ⟨n, rfl, by omega, by omega, fun L hL => ?_⟩
      obtain ⟨Pv, h0, hS, hD⟩ := h F2 H2 g2 L hL
      refine lc_range (lo := 0) (n := (n : Int).toNat) Pv h0 (fun i H' hi p => ?_) (fun H' p => ?_)
      · refine gB_mono _ _ _ _ _ ?_ (hS i H' (by omega) p)
        rintro σ2 H3 ⟨hw, hx⟩
        refine ⟨hw, ?_⟩
        unfold tYes
        dsimp only
        rw [if_pos rfl]
        exact hx
      · rw [Int.toNat_natCast] at p
        exact hD H' p)
/-! ## the chain's names -/
def nmK (k : Nat) : Str := repS ⟨#[letters.cps.toList.getD (k % 26) 0]⟩ (1 + (k : Int) / 26)
theorem nmK_kind : ∀ k : Nat, k ≤ 60 → isKind (nmK k) = true := by
  have h : ((List.range 61).all fun k => isKind (nmK k)) = true := by decide +kernel
  intro k hk
  exact List.all_eq_true.mp h k (List.mem_range.mpr (by omega))
theorem nmK_at (k : Nat) : L2.atI letters.cps.toList ((k : Int) % 26) = some (letters.cps.toList.getD (k % 26) 0) := by
  have ll : letters.cps.toList.length = 26 := by decide +kernel
  have e : (k : Int) % 26 = ((k % 26 : Nat) : Int) := by omega
  have hk : k % 26 < letters.cps.toList.length := by omega
  rw [e, List.getD_eq_getElem?_getD, List.getElem?_eq_getElem hk]
  exact atI_nat (List.getElem?_eq_getElem hk)
def nms (n : Nat) : List Str := (List.range n).map nmK
theorem nms_succ (n : Nat) : nms (n + 1) = nms n ++ [nmK n] := by unfold nms; rw [List.range_succ, List.map_append]; rfl
theorem nms_len (n : Nat) : (nms n).length = n := by unfold nms; simp
theorem nms_mem {n : Nat} {x : Str} (h : x ∈ nms n) (hn : n ≤ 61) : isKind x = true := by
  obtain ⟨k, hk, rfl⟩ := List.mem_map.mp h
  exact nmK_kind k (by have := List.mem_range.mp hk; omega)
theorem nms_at {n k : Nat} (h : k < n) : L2.atI ((nms n).map PyData.str) (k : Int) = some (.str (nmK k)) := by
  refine atI_nat ?_
  unfold nms
  rw [List.getElem?_map, List.getElem?_map, List.getElem?_range h]
  rfl
theorem nms_before {n k : Nat} (h : k < n) : ∃ x ∈ nms n, L2.atI ((nms n).map PyData.str) ((k : Int) - 1) = some (.str x) := by
  cases k with
  | zero =>
    have e : n = (n - 1) + 1 := by omega
    refine ⟨nmK (n - 1), by rw [e, nms_succ]; simp, ?_⟩
    rw [e, nms_succ, List.map_append]
    exact atI_last _ _
  | succ k =>
    refine ⟨nmK k, List.mem_map.mpr ⟨k, List.mem_range.mpr (by omega), rfl⟩, ?_⟩
    rw [show ((k + 1 : Nat) : Int) - 1 = (k : Int) by omega]
    exact nms_at (by omega)
/-- a house of a chain -/
structure ChainOf (most : Nat) (h : House) : Prop where
  good : GoodHouse h
  rooms : h.2.length ≤ most
  some : 1 ≤ h.2.length
  begin' : h.1.length ≤ 2
  each : ∀ r ∈ h.2, r.2.length ≤ 2
  kinds : ∃ ks : List Str, ks.length ≤ most + 1 ∧ (∀ k ∈ h.1, k ∈ ks) ∧ ∀ r ∈ h.2, (∀ k ∈ r.1, k ∈ ks) ∧ ∀ k ∈ r.2, k ∈ ks
theorem each_sum {n : Nat} : ∀ {rs : List Room'}, (∀ r ∈ rs, r.2.length ≤ n) → keysIn rs ≤ n * rs.length
  | [], _ => Nat.zero_le _
  | r :: rs, h => by
    have e : keysIn (r :: rs) = r.2.length + keysIn rs := by unfold keysIn; rw [List.map_cons, List.sum_cons]
    have h1 := h r List.mem_cons_self
    have h2 := each_sum (n := n) (rs := rs) fun s hs => h s (List.mem_cons_of_mem _ hs)
    rw [e, List.length_cons, Nat.mul_add]
    omega
theorem ChainOf.small {most : Nat} {h : House} (c : ChainOf most h) (hm : most ≤ 100) : Small h := ⟨c.good, by have := c.begin'; omega, by have := c.rooms; omega, by
  have := each_sum c.each
  have := c.rooms
  omega⟩
theorem HouseOf.small {most tot : Nat} {h : House} (c : HouseOf most tot h) (hm : most ≤ 1000) (ht : tot ≤ 1000) : Small h := ⟨c.good, by have := c.begin'; omega, by have := c.rooms; omega, Nat.le_trans c.total ht⟩
/-- the things of vs are rooms of rs -/
def OfRooms (F : Hp) (rs : List Room') (vs : List V) : Prop := ∀ v ∈ vs, ∃ r ∈ rs, Da F (roomD r) v
theorem ofRooms {F : Hp} {rs : List Room'} {vs : List V} : OfRooms F rs vs → ∃ ss : List Room', DaAll F (ss.map roomD) vs ∧ ss.length = vs.length ∧ ∀ r ∈ ss, r ∈ rs := by
  induction vs with
  | nil => exact fun _ => ⟨[], daAll_nil, rfl, fun r h => nomatch h⟩
  | cons v vs ih =>
    intro h
    obtain ⟨ss, h1, h2, h3⟩ := ih fun v hv => h v (List.mem_cons_of_mem _ hv)
    obtain ⟨r, hr, hd⟩ := h v List.mem_cons_self
    exact ⟨r :: ss, daAll_cons hd h1, by simp [h2], fun s hs => by
      rcases List.mem_cons.mp hs with rfl | hs
      · exact hr
      · exact h3 s hs⟩
theorem daAll_of {F : Hp} : ∀ {rs : List Room'} {vs : List V}, DaAll F (rs.map roomD) vs → OfRooms F rs vs
  | [], vs, h => by obtain rfl := (show vs = [] from h); exact fun v hv => nomatch hv
  | r :: rs, vs, h => by
    obtain ⟨v, us, rfl, h1, h2⟩ := (show ∃ v us, vs = v :: us ∧ Da F (roomD r) v ∧ DaAll F (rs.map roomD) us from h)
    intro w hw
    rcases List.mem_cons.mp hw with rfl | hw
    · exact ⟨r, List.mem_cons_self, h1⟩
    · obtain ⟨s, hs, hd⟩ := daAll_of h2 w hw
      exact ⟨s, List.mem_cons_of_mem _ hs, hd⟩
/-- what a room of the chain is -/
def chainRoom (ns : List Str) (r : Room') : Prop := (∀ k ∈ r.1, k ∈ ns) ∧ (∀ k ∈ r.2, k ∈ ns) ∧ 1 ≤ r.1.length ∧ r.1.length ≤ 4 ∧ srt r.1 = r.1 ∧ r.2.length ≤ 2
theorem chainOf {ns : List Str} {rs : List Room'} {b : List Str} {most : Nat} (hk : ∀ k ∈ ns, isKind k = true) (hr : ∀ r ∈ rs, chainRoom ns r) (hb : ∀ k ∈ b, k ∈ ns) (hb2 : b.length ≤ 2) (h1 : 1 ≤ rs.length) (h2 : rs.length ≤ most) (h3 : most ≤ 1000) (hn : ns.length ≤ most + 1 := by rw [nms_len]; omega) : ChainOf most (b, rs) :=
  ⟨⟨fun k h => hk k (hb k h), fun r h => ⟨fun k h' => hk k ((hr r h).1 k h'), fun k h' => hk k ((hr r h).2.1 k h'), (hr r h).2.2.1, (hr r h).2.2.2.1, (hr r h).2.2.2.2.1⟩, by show b.length ≤ 100000; omega, by show rs.length ≤ 100000; omega, fun r h => by have := (hr r h).2.2.2.2.2; omega⟩, h2, h1, hb2, fun r h => (hr r h).2.2.2.2.2, ns, hn, hb, fun r h => ⟨(hr r h).1, (hr r h).2.1⟩⟩
theorem srt_srt (xs : List Str) : srt (srt xs) = srt xs := sorted_unique (srt_perm _) (srt_sorted _) (srt_sorted _)
theorem mem_rep {x y : Str} {n : Nat} {ds : List PyData} (h : ds = List.replicate n (.str x)) : ds = (List.replicate n x).map PyData.str := by rw [h, List.map_replicate]
end Kr

/-! layer KrX -/
namespace Kr
open PySem L2
theorem Gp.back' {p : Addr} {F H F1 H1 F2 : Hp} (g : Gp p F H F2 H1) (s : Same F1 F2) (s0 : Same F F1) (n : ∀ b, F b = none → H b ≠ none → F1 b = none) : Gp p F H F1 H1 := ⟨s0, s.trans g.fh, g.hh, g.at', n⟩
theorem Gp.free' {p : Addr} {F H F1 H1 : Hp} {q : Addr} (g : Gp p F H F1 H1) (hq : q ≠ p) (h : H1 q = none) : H q = none := by
  cases e : H q with
  | none => rfl
  | some o => rw [g.hh q o hq e] at h; cases h
theorem Gp.thenGr {p : Addr} {F H F1 H1 F2 H2 : Hp} (g : Gp p F H F1 H1) (g2 : Gr F1 H1 F2 H2) : Gp p F H F1 H2 := ⟨g.ff, g2.ff.trans g2.fh, fun b o n e => g2.hh _ _ (g.hh b o n e), fun n z => g.at' n (g2.hh.free z), g.new⟩
theorem Pool.mut' {p q : Addr} {H H2 : Hp} {n m : Nat} {o : HO} (P : Pool H p n) (s : Same H H2) (h : q ≠ p) (hm : n ≤ m) : Pool (upd H2 q o) p m := by
  obtain ⟨c, k, t, h0, h1, h2, h3⟩ := P
  exact ⟨c, k, t, by rw [upd_ne (fun z => h z.symm)]; exact s _ _ h0, h1, h2, by omega⟩
theorem nmsSz {i many n : Nat} (h : i < many + 1) (h1 : many ≤ n) (h2 : n ≤ 60) : ((nms i).map V.str).length < sizeLine := by
  rw [List.length_map, nms_len]
  have : sizeLine = 16777216 := by decide
  omega
theorem chainSz1 {xs ys : List PyData} {x y : PyData} (h1 : xs = [x]) (h2 : ∃ n : Nat, ys = List.replicate n y ∧ n ≤ 1) : xs.length + ys.length ≤ 100000 := by
  obtain ⟨n, rfl, hn⟩ := h2
  subst h1
  rw [List.length_replicate]
  show 1 + n ≤ 100000
  omega
theorem chainSz2 {xs ys : List PyData} {x : PyData} {ns : List Str} (h1 : ∃ n : Nat, xs = List.replicate n x ∧ n ≤ 1) (h2 : ∃ (n : Nat) (x : Str), ys = List.replicate n (.str x) ∧ x ∈ ns ∧ n ≤ 1) : xs.length + ys.length ≤ 100000 := by
  obtain ⟨n, rfl, hn⟩ := h1
  obtain ⟨k, y, rfl, _, hk⟩ := h2
  rw [List.length_replicate, List.length_replicate]
  omega
theorem chainSz3 {vs : List V} {i many n : Nat} (h : vs.length = i) (hi : i < many) (h1 : many ≤ n) (h2 : n ≤ 60) : vs.length < sizeLine := by
  have : sizeLine = 16777216 := by decide
  omega
theorem chainLocks {d : PyData} {xs ys : List PyData} {a b : Str} {ns : List Str} (e : d = .list (xs ++ ys)) (h1 : xs = [.str a]) (h2 : ∃ n : Nat, ys = List.replicate n (.str b) ∧ n ≤ 1) (ha : a ∈ ns) (hb : b ∈ ns) : ∃ zs : List Str, d = ksD zs ∧ (∀ x ∈ zs, x ∈ ns) ∧ 1 ≤ zs.length ∧ zs.length ≤ 2 := by
  obtain ⟨n, rfl, hn⟩ := h2
  subst h1
  refine ⟨a :: List.replicate n b, ?_, fun x hx => ?_, ?_, ?_⟩
  · rw [e]; unfold ksD; rw [List.map_cons, List.map_replicate]; rfl
  · rcases List.mem_cons.mp hx with rfl | hx
    · exact ha
    · rw [List.eq_of_mem_replicate hx]; exact hb
  · rw [List.length_cons]; omega
  · rw [List.length_cons, List.length_replicate]; omega
theorem chainKeys {d : PyData} {a : Str} {ns : List Str} (h : ∃ xs ys, d = .list (xs ++ ys) ∧ (∃ n : Nat, xs = List.replicate n (.str a) ∧ n ≤ 1) ∧ ∃ (n : Nat) (x : Str), ys = List.replicate n (.str x) ∧ x ∈ ns ∧ n ≤ 1) (ha : a ∈ ns) : ∃ zs : List Str, d = ksD zs ∧ (∀ x ∈ zs, x ∈ ns) ∧ zs.length ≤ 2 := by
  obtain ⟨xs, ys, rfl, ⟨n, rfl, hn⟩, k, y, rfl, hy, hk⟩ := h
  refine ⟨List.replicate n a ++ List.replicate k y, ?_, fun x hx => ?_, ?_⟩
  · unfold ksD; rw [List.map_append, List.map_replicate, List.map_replicate]
  · rcases List.mem_append.mp hx with hx | hx
    · rw [List.eq_of_mem_replicate hx]; exact ha
    · rw [List.eq_of_mem_replicate hx]; exact hy
  · rw [List.length_append, List.length_replicate, List.length_replicate]; omega
theorem chainR {ns xs ks : List Str} (h1 : ∀ x ∈ xs, x ∈ ns) (h2 : 1 ≤ xs.length) (h3 : xs.length ≤ 2) (h4 : ∀ x ∈ ks, x ∈ ns) (h5 : ks.length ≤ 2) : chainRoom ns (srt xs, ks) := by
  have hl := (srt_perm xs).length_eq
  exact ⟨fun k hk => h1 k ((srt_perm xs).mem_iff.mp hk), h4, by show 1 ≤ (srt xs).length; omega, by show (srt xs).length ≤ 4; omega, srt_srt xs, h5⟩
theorem cmul_small {many n : Nat} (h1 : many ≤ n) (h2 : n ≤ 60) : CMul 2 (many : Int) := .inl ⟨by decide, by decide⟩
theorem popSz {xs : List V} {i many n : Nat} (h : xs.length + i = many) (h1 : many ≤ n) (h2 : n ≤ 60) : xs.length ≤ 100000 := by omega
theorem accSz {ys : List V} {i many n : Nat} (h : ys.length = i) (hi : i < many) (h1 : many ≤ n) (h2 : n ≤ 60) : ys.length < sizeLine := by
  have : sizeLine = 16777216 := by decide
  omega
theorem erase_len {α : Type} {xs : List α} {j : Nat} {v : α} (h : xs[j]? = some v) : (xs.eraseIdx j).length + 1 = xs.length := by
  have := (List.getElem?_eq_some_iff.mp h).1
  rw [List.length_eraseIdx, if_pos this]
  omega
theorem popPos {ss : List Room'} {xs : List V} {i many : Nat} (h : ss.length = xs.length) (h1 : xs.length + i = many) (hi : i < many) : (0 : Int) < (ss.map roomD).length := by rw [List.length_map]; omega
theorem popLt {ss : List Room'} {xs : List V} {i many n : Nat} (h : ss.length = xs.length) (h1 : xs.length + i = many) (h2 : many ≤ n) (h3 : n ≤ 60) : ((ss.map roomD).length : Int) < 1073741824 := by rw [List.length_map]; omega
theorem popIx {ss : List Room'} {xs : List V} (h : ss.length = xs.length) (d : PyData) (hd : ∃ i, d = .int i ∧ (0 : Int) ≤ i ∧ i < (ss.map roomD).length) : ∃ i, d = .int i ∧ (0 : Int) ≤ i ∧ i < xs.length := by
  obtain ⟨i, e, h0, h1⟩ := hd
  rw [List.length_map] at h1
  exact ⟨i, e, h0, by omega⟩
/-! ## the law's own call -/
def spLaw (K : PySem.W.Frag) : Sp := fun vs H Q _ => ∃ (a : Addr) (ns : List Int), vs = [.ref a] ∧ SqL K H a (ns.map V.int) ∧ ns.length ≤ 63 ∧ ∀ H', Q (.bl true) H'
end Kr

/-! layer KrY -/
namespace Kr
open PySem L2
section
variable {X : Cx} {σ : St} {F H : Hp} {a b e : Expr} {pos p : Pos} {D : Ends} {body : List Stmt} {R A : PyData → Prop} {i : Int}
/-- an item of a new list -/
theorem we_ixNE (ha : NE X a σ F F R) (hb : DE X b σ F F (.int i)) (s : Same F H) (h : ∀ d, R d → ∃ ds d0, d = .list ds ∧ L2.atI ds i = some d0 ∧ A d0) {Q : VK} (q : ∀ d0 v F2 H2, Gr F H F2 H2 → Da F2 d0 v → A d0 → Q v H2) (hs : PlainIx b := by exact fun _ _ => rfl) : WE X (.Subscript a b pos) σ H Q :=
  we_of (pe_ix ix_list pe_we pe_we hs) (ha F H ⟨Same.refl _, s, s, fun _ e n => absurd e n⟩ _ fun d x F2 H2 g2 hx hR _ => by
    obtain ⟨ds, d0, rfl, hat, hA⟩ := h d hR
    refine (hb.f g2.ff).at g2.fh fun y F3 H3 g3 hy => ?_
    obtain ⟨l, vs, rfl, h1, h2⟩ := g3.da hx
    obtain ⟨v, hv, hd⟩ := h2.atI hat
    exact ⟨l, vs, i, v, rfl, hy, SqL.of (g3.fh _ _ h1), hv, q d0 v F3 H3 (g2.trans g3) hd hA⟩)
/-- for, over a list told by any means -/
theorem ws_forX {tg iter : Expr} (hp : PassesOwn (model X.prog X.w) X.A X.env X.xe) (hc : X.calm = true)
    (hi : WE X iter σ H fun v H1 => ∃ (F1 : Hp) (ds : List PyData), Same F1 H1 ∧ Da F1 (.list ds) v ∧ ∃ Pv : Nat → St → Hp → Hp → Prop, Pv 0 σ F1 H1 ∧ (∀ i σ' F' H', Pv i σ' F' H' → Same F1 F' ∧ Same F' H') ∧
      (∀ i d v σ' F' H', ds[i]? = some d → Pv i σ' F' H' → Da F' d v → WG X tg v σ' H' fun σ2 H2 => WSs X body { D with nx := fun σ3 H3 => ∃ F3, Pv (i + 1) σ3 F3 H3, ct := fun σ3 H3 => ∃ F3, Pv (i + 1) σ3 F3 H3, bk := D.nx } σ2 H2) ∧
      (∀ σ' F' H', Pv ds.length σ' F' H' → D.nx σ' H')) (hs : ∀ x, foldedSetIterable iter X.env x = pure x := by intro _; rfl) : WS X (.For tg iter body [] pos) D σ H :=
  ws_of (ps_for hp hc (pi_list pe_we) pg_wg pss_wss hs) (hi.imp fun v H2 ⟨F2, ds, s2, hd, Pv, h0, hF, hS, hD⟩ => by
    obtain ⟨l, xs, rfl, h1, h2⟩ := hd
    refine ⟨l, rfl, ⟨xs, SqL.of (s2 _ _ h1)⟩, fun i m σ' H' => m = ds.length - i ∧ i ≤ ds.length ∧ ∃ F', Pv i σ' F' H', ⟨ds.length, by simp, Nat.zero_le _, F2, h0⟩, ?_⟩
    rintro i m σ' H' ⟨rfl, hi', F', p⟩
    obtain ⟨s3, s4⟩ := hF _ _ _ _ p
    by_cases hlt : i < ds.length
    · have e : ds[i]? = some ds[i] := List.getElem?_eq_getElem hlt
      obtain ⟨v, hv, hdv⟩ := h2.get e
      refine .inr ⟨⟨xs, v, SqL.of (s4 _ _ (s3 _ _ h1)), hv⟩, fun σ3 H3 => ∃ F3, Pv (i + 1) σ3 F3 H3, fun σ3 H3 p' => ⟨ds.length - (i + 1), by omega, rfl, hlt, p'⟩, fun x H4 y => ?_⟩
      obtain ⟨y1, y2⟩ := y
      subst y1
      exact hS i _ x σ' F' _ e p ((getV h2 e (y2 xs (SqL.of (s4 _ _ (s3 _ _ h1))))).mono s3)
    · have e : i = ds.length := by omega
      subst e
      exact .inl ⟨⟨xs, SqL.of (s4 _ _ (s3 _ _ h1)), by rw [h2.length]; exact Nat.le_refl _⟩, hD σ' F' H' p⟩)
end
theorem small0 : Small ([], []) := ⟨⟨(fun _ h => nomatch h), (fun _ h => nomatch h), by decide, by decide, (fun _ h => nomatch h)⟩, by decide, by decide, by decide⟩
theorem come0 {c : List Str} (h : IsCome ([], []) c) : c = [] := by
  cases c with
  | nil => rfl
  | cons x c =>
    have := (h.1 x).mp List.mem_cons_self
    cases this with
    | begin' h => cases h
    | room h _ _ => cases h
theorem come_kind {h : House} {x : Str} (g : GoodHouse h) (hx : Comes h x) : isKind x = true := by
  cases hx with
  | begin' h => exact g.keys x h
  | room hr _ hk => exact (g.rooms _ hr).2.1 x hk
theorem upto12 (n : Nat) : ∃ m : Nat, max (1 : Int) (min 12 (n : Int)) = m ∧ m ≤ 12 := ⟨(max (1 : Int) (min 12 (n : Int))).toNat, by omega, by omega⟩
theorem comeLt {h : House} {c : List Str} {F : Hp} {vs : List V} (sm : Small h) (hc : IsCome h c) (hd : DaAll F (c.map .str) vs) : vs.length < sizeLine := by
  have := come_len sm (fun x hx => (hc.1 x).mp hx) hc.2.1
  rw [hd.length, List.length_map]
  have : sizeLine = 16777216 := by decide
  omega
end Kr

/-! layer KrZ -/
namespace Kr
open PySem L2
theorem perm_ints {xs ys : List Int} (h1 : xs.Nodup) (h2 : ys.Nodup) (h : ∀ x, x ∈ xs ↔ x ∈ ys) : xs.Perm ys := by
  rw [List.perm_iff_count]
  intro a
  by_cases ha : a ∈ xs
  · rw [List.nodup_iff_count] at h1 h2
    have p1 : 0 < xs.count a := List.count_pos_iff.mpr ha
    have p2 : 0 < ys.count a := List.count_pos_iff.mpr ((h a).mp ha)
    have := h1 a
    have := h2 a
    omega
  · rw [List.count_eq_zero.mpr ha, List.count_eq_zero.mpr fun hb => ha ((h a).mpr hb)]
theorem IsOpen.unique {h : House} {a b : List Int} (x : IsOpen h a) (y : IsOpen h b) : a = b := ints_unique (perm_ints x.2.1 y.2.1 fun i => (x.2.2 i).trans (y.2.2 i).symm) x.1 y.1
theorem eqvAll_ints : ∀ R : List Int, PyData.eqvAll (R.map .int) (R.map .int) = true
  | [] => by simp [PyData.eqvAll]
  | x :: R => by
    rw [List.map_cons]
    unfold PyData.eqvAll
    rw [eqvAll_ints R]
    simp [PyData.eqv]
theorem eqv_ints (R : List Int) : PyData.eqv (.list (R.map .int)) (.list (R.map .int)) = true := by
  unfold PyData.eqv
  exact eqvAll_ints R
theorem lay_ints (R : List Int) : Lay 1 (.list (R.map .int)) := lay_list fun d m => by
  obtain ⟨k, hk, rfl⟩ := List.mem_map.mp m
  exact lay_int k
/-- the rooms that could be opened, of the first i -/
def opens (c : List Str) (rs : List Room') : Nat → List Int
  | 0 => []
  | i + 1 => opens c rs i ++ (match rs[i]? with | some r => if (r.1.all fun k => decide (k ∈ c)) = true then [(i : Int)] else [] | none => [])
theorem opens_lt {c : List Str} {rs : List Room'} : ∀ {i : Nat} {x : Int}, x ∈ opens c rs i → ∃ j : Nat, x = j ∧ j < i ∧ ∃ r, rs[j]? = some r ∧ ∀ l ∈ r.1, l ∈ c
  | i + 1, x, h => by
    unfold opens at h
    rcases List.mem_append.mp h with h | h
    · obtain ⟨j, h1, h2, h3⟩ := opens_lt h
      exact ⟨j, h1, by omega, h3⟩
    · cases e : rs[i]? with
      | none => rw [e] at h; cases h
      | some r =>
        rw [e] at h
        dsimp only at h
        split at h
        · rename_i ht
          rw [List.mem_singleton] at h
          refine ⟨i, h, by omega, r, e, fun l hl => ?_⟩
          have := List.all_eq_true.mp ht l hl
          exact of_decide_eq_true this
        · cases h
theorem opens_mem {c : List Str} {rs : List Room'} {j : Nat} {r : Room'} (hr : rs[j]? = some r) (hl : ∀ l ∈ r.1, l ∈ c) : ∀ {i : Nat}, j < i → (j : Int) ∈ opens c rs i
  | i + 1, h => by
    unfold opens
    by_cases e : j = i
    · subst e
      rw [hr]
      dsimp only
      rw [if_pos (List.all_eq_true.mpr fun l hl' => decide_eq_true (hl l hl'))]
      exact List.mem_append_right _ (List.mem_singleton.mpr rfl)
    · exact List.mem_append_left _ (opens_mem hr hl (by omega))
theorem opens_sorted {c : List Str} {rs : List Room'} : ∀ i : Nat, (opens c rs i).Pairwise (· < ·)
  | 0 => List.Pairwise.nil
  | i + 1 => by
    unfold opens
    refine List.pairwise_append.mpr ⟨opens_sorted i, ?_, fun a ha b hb => ?_⟩
    · split
      · split
        · exact List.pairwise_singleton _ _
        · exact List.Pairwise.nil
      · exact List.Pairwise.nil
    · obtain ⟨j, rfl, hj, _⟩ := opens_lt ha
      split at hb
      · split at hb
        · rw [List.mem_singleton] at hb; omega
        · cases hb
      · cases hb
theorem isOpen_of {h : House} {c : List Str} (hc : IsCome h c) : IsOpen h (opens c h.2 h.2.length) := by
  refine ⟨(opens_sorted _).imp fun h => Int.le_of_lt h, (opens_sorted _).imp fun h e => absurd (e ▸ h) (Int.lt_irrefl _), fun i => ⟨fun hi => ?_, fun hi => ?_⟩⟩
  · obtain ⟨j, e, _, r, hr, hl⟩ := opens_lt hi
    exact ⟨j, e, r, hr, fun l hl' => (hc.1 l).mp (hl l hl')⟩
  · obtain ⟨j, rfl, r, hr, hl⟩ := hi
    exact opens_mem hr (fun l hl' => (hc.1 l).mpr (hl l hl')) (List.getElem?_eq_some_iff.mp hr).1
theorem opens_snoc {c : List Str} {rs : List Room'} {i : Nat} {r : Room'} (hr : rs[i]? = some r) : opens c rs (i + 1) = opens c rs i ++ (if (r.1.all fun k => decide (k ∈ c)) = true then [(i : Int)] else []) := by
  show _ ++ _ = _
  rw [hr]
theorem opens_len {c : List Str} {rs : List Room'} : ∀ i : Nat, (opens c rs i).length ≤ i
  | 0 => Nat.le_refl _
  | i + 1 => by
    have ih := opens_len (c := c) (rs := rs) i
    unfold opens
    rw [List.length_append]
    split
    · split
      · simp only [List.length_cons, List.length_nil]; omega
      · simp only [List.length_nil]; omega
    · simp only [List.length_nil]; omega
theorem open0 {R : List Int} (h : IsOpen ([], []) R) : R = [] := by
  cases R with
  | nil => rfl
  | cons x R =>
    obtain ⟨j, _, r, hr, _⟩ := (h.2.2 x).mp List.mem_cons_self
    simp at hr
theorem opensSz {h : House} {c : List Str} {i : Nat} {d : Room'} (s : Small h) (hr : h.2[i]? = some d) : ((opens c h.2 i).map V.int).length < sizeLine := by
  have h1 := opens_len (c := c) (rs := h.2) i
  have h2 := (List.getElem?_eq_some_iff.mp hr).1
  have h3 := s.r
  rw [List.length_map]
  have : sizeLine = 16777216 := by decide
  omega
theorem openLen {h : House} {R : List Int} (s : Small h) (hR : IsOpen h R) : R.length ≤ 1000 := by
  have := subset_length (ks := (List.range h.2.length).map fun j : Nat => (j : Int)) hR.2.1 fun i hi => by
    obtain ⟨j, rfl, r, hr, _⟩ := (hR.2.2 i).mp hi
    exact List.mem_map.mpr ⟨j, List.mem_range.mpr (List.getElem?_eq_some_iff.mp hr).1, rfl⟩
  rw [List.length_map, List.length_range] at this
  exact Nat.le_trans this s.r
theorem openLt {h : House} {R : List Int} {F : Hp} {vs : List V} (s : Small h) (hR : IsOpen h R) (hd : DaAll F (R.map .int) vs) : vs.length < sizeLine := by
  have := openLen s hR
  rw [hd.length, List.length_map]
  have : sizeLine = 16777216 := by decide
  omega
theorem none_of {α : Type} (xs : List α) (h : α → PyData) : PyData.list ((xs.filter fun _ => false).map h) = .list [] := by
  rw [List.filter_eq_nil_iff.mpr (fun _ _ => Bool.false_ne_true)]
  rfl
end Kr

/-! layer KrB -/
namespace Kr
open PySem L2
/-! ## slices of lists -/
section
variable {X : Cx} {σ : St} {F H : Hp} {e a b : Expr} {pos p p2 : Pos} {ds : List PyData} {n : Nat}
theorem de_slLHi (he : DE X e σ F H (.list ds)) (hh : DE X b σ F H (.int (n : Int))) : DE X (.Subscript e (.Slice none (some b) none p2) pos) σ F H (.list (ds.take n)) := fun F1 H1 g Q q =>
  we_of (pe_slice sl_list pe_we po_none (po_some pe_we)) (he F1 H1 g _ fun v F2 H2 g2 hv => hh F2 H2 (g.trans g2) _ fun u F3 H3 g3 hu => ⟨n, hu, by
    obtain ⟨l, vs, rfl, h1, h2⟩ := g3.da hv
    refine ⟨l, vs, rfl, SqL.of (g3.fh _ _ h1), fun r hr => ?_⟩
    have e : cutV vs none (some (n : Int)) = vs.take n := by
      unfold cutV
      show (vs.drop 0).take (HT.sIx vs.length vs.length (some (n : Int)) - 0) = _
      have : HT.sIx vs.length vs.length (some (n : Int)) = min n vs.length := by
        unfold HT.sIx
        dsimp only
        rw [if_neg (by omega), Int.toNat_natCast]
      rw [this, List.drop_zero, Nat.sub_zero]
      by_cases hn : n ≤ vs.length
      · rw [Nat.min_eq_left hn]
      · rw [Nat.min_eq_right (by omega), List.take_length, List.take_of_length_le (by omega)]
    rw [e]
    exact q (.ref r) (upd F3 r (.lst (vs.take n))) _ ((g2.trans g3).shut hr) ⟨r, _, rfl, upd_same, (h2.take n).mono (same_upd (g3.fh.free hr))⟩⟩)
theorem de_slLLo (he : DE X e σ F H (.list ds)) (hh : DE X b σ F H (.int (n : Int))) : DE X (.Subscript e (.Slice (some b) none none p2) pos) σ F H (.list (ds.drop n)) := fun F1 H1 g Q q =>
  we_of (pe_slice sl_list pe_we (po_some pe_we) po_none) (he F1 H1 g _ fun v F2 H2 g2 hv => hh F2 H2 (g.trans g2) _ fun u F3 H3 g3 hu => ⟨n, hu, by
    obtain ⟨l, vs, rfl, h1, h2⟩ := g3.da hv
    refine ⟨l, vs, rfl, SqL.of (g3.fh _ _ h1), fun r hr => ?_⟩
    have e : cutV vs (some (n : Int)) none = vs.drop n := by
      unfold cutV
      have : HT.sIx vs.length 0 (some (n : Int)) = min n vs.length := by
        unfold HT.sIx
        dsimp only
        rw [if_neg (by omega), Int.toNat_natCast]
      rw [this]
      show (vs.drop (min n vs.length)).take (vs.length - min n vs.length) = _
      rw [List.take_of_length_le (by rw [List.length_drop]; exact Nat.le_refl _)]
      by_cases hn : n ≤ vs.length
      · rw [Nat.min_eq_left hn]
      · rw [Nat.min_eq_right (by omega), List.drop_length, List.drop_of_length_le (by omega)]
    rw [e]
    exact q (.ref r) (upd F3 r (.lst (vs.drop n))) _ ((g2.trans g3).shut hr) ⟨r, _, rfl, upd_same, (h2.drop n).mono (same_upd (g3.fh.free hr))⟩⟩)
theorem pxt_notTrue {p : Addr} {c : Nat} (h : Px p c X e σ F (fun d => d = .bool true)) (he : ∀ whole, isTrue e X.env whole = (do let v ← whole; standAt e.pos; holding [v] (truthy v)) := by intro _; rfl) : PxT p c X (.UnaryOp .Not e pos) σ F (fun b => b = false) := fun n F1 H1 s1 s2 f P hn Q k =>
  wt_of (pt_not (pt_val pe_we he)) (h n F1 H1 s1 s2 f P hn _ fun d v F2 H2 g2 P2 hv hd => by
    subst hd
    exact ⟨true, hv, k false F2 H2 g2 P2 rfl⟩)
end
/-! ## plain facts of what comes -/
theorem comes_mono {g h : House} (h1 : ∀ k ∈ g.1, Comes h k) (h2 : ∀ r ∈ g.2, ∃ s ∈ h.2, (∀ l ∈ s.1, l ∈ r.1) ∧ ∀ k ∈ r.2, k ∈ s.2) {x : Str} (hx : Comes g x) : Comes h x := by
  induction hx with
  | begin' hb => exact h1 _ hb
  | room hr _ hk ih =>
    obtain ⟨s, hs, hl, hk'⟩ := h2 _ hr
    exact .room hs (fun l hl' => ih l (hl l hl')) (hk' _ hk)
def twice (h : House) : House := (h.1 ++ h.1, h.2.map fun r => (kset r.1, r.2 ++ r.2))
theorem comes_twice {h : House} {x : Str} : Comes (twice h) x ↔ Comes h x := by
  constructor
  · refine comes_mono (fun k hk => .begin' ?_) fun r hr => ?_
    · rcases List.mem_append.mp hk with h | h <;> exact h
    · obtain ⟨s, hs, rfl⟩ := List.mem_map.mp hr
      exact ⟨s, hs, fun l hl => mem_kset.mpr hl, fun k hk => by rcases List.mem_append.mp hk with h | h <;> exact h⟩
  · refine comes_mono (fun k hk => .begin' (List.mem_append_left _ hk)) fun r hr => ⟨_, List.mem_map.mpr ⟨r, hr, rfl⟩, fun l hl => mem_kset.mp hl, fun k hk => List.mem_append_left _ hk⟩
theorem IsCome.twice {h : House} {c : List Str} (hc : IsCome h c) : IsCome (twice h) c := ⟨fun x => (hc.1 x).trans comes_twice.symm, hc.2⟩
theorem IsOpen.twice {h : House} {R : List Int} (hR : IsOpen h R) : IsOpen (twice h) R := by
  refine ⟨hR.1, hR.2.1, fun i => (hR.2.2 i).trans ⟨fun ⟨j, e, r, hr, hl⟩ => ?_, fun ⟨j, e, r, hr, hl⟩ => ?_⟩⟩
  · exact ⟨j, e, (kset r.1, r.2 ++ r.2), by show (h.2.map _)[j]? = _; rw [List.getElem?_map, hr]; rfl, fun l hl' => comes_twice.mpr (hl l (mem_kset.mp hl'))⟩
  · have hr : (h.2.map fun r => (kset r.1, r.2 ++ r.2))[j]? = some r := hr
    rw [List.getElem?_map] at hr
    cases e2 : h.2[j]? with
    | none => rw [e2] at hr; cases hr
    | some s =>
      rw [e2] at hr
      injection hr with hr
      subst hr
      exact ⟨j, e, s, e2, fun l hl' => comes_twice.mp (hl l (mem_kset.mpr hl'))⟩
theorem kset_of_mem {xs c : List Str} (h : ∀ x, x ∈ xs ↔ x ∈ c) (h1 : c.Nodup) (h2 : c.Pairwise (fun a b => leS a b = true)) : kset xs = c := sorted_unique (perm_of_nodup (kset_nodup _) h1 fun x => mem_kset.trans (h x)) (kset_sorted _) h2
theorem IsCome.self {h : House} {c : List Str} (hc : IsCome h c) : IsCome (c, h.2) c := by
  refine ⟨fun x => ⟨fun hx => .begin' hx, fun hx => (hc.1 x).mpr ?_⟩, hc.2⟩
  exact comes_mono (g := (c, h.2)) (h := h) (fun k hk => (hc.1 k).mp hk) (fun r hr => ⟨r, hr, fun _ h => h, fun _ h => h⟩) hx
theorem isCome_begin (b : List Str) : IsCome (b, []) (kset b) := by
  refine ⟨fun x => ⟨fun hx => .begin' (mem_kset.mp hx), fun hx => ?_⟩, kset_nodup _, kset_sorted _⟩
  cases hx with
  | begin' h => exact mem_kset.mpr h
  | room h _ _ => cases h
def keysAt (rs : List Room') (i : Int) : List Str := ((rs[i.toNat]?).map (·.2)).getD []
theorem opens_keys {c : List Str} {rs : List Room'} : ∀ n : Nat, n ≤ rs.length → (opens c rs n).flatMap (keysAt rs) = newKeys c (rs.take n)
  | 0, _ => rfl
  | n + 1, h => by
    have hr : rs[n]? = some rs[n] := List.getElem?_eq_getElem (by omega)
    rw [opens_snoc hr, List.flatMap_append, opens_keys n (by omega), newKeys_snoc hr]
    congr 1
    split
    · rw [List.flatMap_cons, List.flatMap_nil, List.append_nil]
      unfold keysAt
      rw [Int.toNat_natCast, hr]
      rfl
    · rfl
theorem lies_eq {h : House} {c : List Str} {R : List Int} (hc : IsCome h c) (hR : IsOpen h R) : R.flatMap (keysAt h.2) = newKeys c h.2 := by
  rw [hR.unique (isOpen_of hc), opens_keys _ (Nat.le_refl _), List.take_length]
theorem lies_come {h : House} {c : List Str} (hc : IsCome h c) : kset (h.1 ++ newKeys c h.2) = c := kset_of_mem (fun x => by
  rw [hc.1 x, List.mem_append, mem_newKeys]
  constructor
  · rintro (hx | ⟨r, hr, hl, hk⟩)
    · exact .begin' hx
    · exact .room hr (fun l hl' => (hc.1 l).mp (hl l hl')) hk
  · intro hx
    cases hx with
    | begin' h => exact .inl h
    | room hr hl hk => exact .inr ⟨_, hr, fun l hl' => (hc.1 l).mpr (hl l hl'), hk⟩) hc.2.1 hc.2.2
theorem IsCome.without {h : House} {c : List Str} {R : List Int} {j : Nat} (hc : IsCome h c) (hR : IsOpen h R) (hj : (j : Int) ∉ R) : IsCome (h.1, h.2.take j ++ h.2.drop (j + 1)) c := by
  refine ⟨fun x => (hc.1 x).trans ⟨fun hx => ?_, fun hx => ?_⟩, hc.2⟩
  · induction hx with
    | begin' hb => exact .begin' hb
    | @room r k hr hl hk ih =>
      obtain ⟨i, hi⟩ := List.getElem?_of_mem hr
      have hne : i ≠ j := fun e => by
        subst e
        exact hj ((hR.2.2 _).mpr ⟨i, rfl, r, hi, hl⟩)
      refine .room (r := r) ?_ ih hk
      show r ∈ h.2.take j ++ h.2.drop (j + 1)
      have hlt := (List.getElem?_eq_some_iff.mp hi).1
      rw [List.mem_append]
      by_cases h1 : i < j
      · exact .inl (List.mem_of_getElem? (i := i) (by rw [List.getElem?_take, if_pos h1]; exact hi))
      · exact .inr (List.mem_of_getElem? (i := i - (j + 1)) (by rw [List.getElem?_drop, show j + 1 + (i - (j + 1)) = i by omega]; exact hi))
  · exact comes_mono (g := (h.1, h.2.take j ++ h.2.drop (j + 1))) (h := h) (fun k hk => .begin' hk) (fun r hr => ⟨r, by
      rcases List.mem_append.mp hr with h | h
      · exact List.mem_of_mem_take h
      · exact List.mem_of_mem_drop h, fun _ h => h, fun _ h => h⟩) hx
theorem comes_more {h : House} {b : List Str} {x : Str} (hx : Comes h x) : Comes (h.1 ++ b, h.2) x := comes_mono (g := h) (h := (h.1 ++ b, h.2)) (fun k hk => .begin' (List.mem_append_left _ hk)) (fun r hr => ⟨r, hr, fun _ h => h, fun _ h => h⟩) hx
theorem come_more {h : House} {b c d : List Str} (hc : IsCome h c) (hd : IsCome (h.1 ++ b, h.2) d) : ∀ x ∈ c, x ∈ d := fun x hx => (hd.1 x).mpr (comes_more ((hc.1 x).mp hx))
theorem open_more {h : House} {b : List Str} {R S : List Int} (hR : IsOpen h R) (hS : IsOpen (h.1 ++ b, h.2) S) : ∀ x ∈ R, x ∈ S := fun x hx => by
  obtain ⟨j, e, r, hr, hl⟩ := (hR.2.2 x).mp hx
  exact (hS.2.2 x).mpr ⟨j, e, r, hr, fun l hl' => comes_more (hl l hl')⟩
/-- there is a come, and the rooms of it -/
theorem come_ex (h : House) : ∃ c, IsCome h c := by
  have key : ∀ n : Nat, ∀ c : List Str, (∀ x ∈ c, Comes h x) → (∀ x ∈ h.1, x ∈ c) → c.Nodup → c.Pairwise (fun a b => leS a b = true) → (h.1 ++ h.2.flatMap (·.2)).length + 1 - c.length ≤ n → ∃ c, IsCome h c := by
    intro n
    induction n with
    | zero =>
      intro c h1 _ h3 _ h5
      have := subset_length (ks := h.1 ++ h.2.flatMap (·.2)) h3 fun x hx => comes_in (h1 x hx)
      omega
    | succ n ih =>
      intro c h1 h2 h3 h4 h5
      by_cases hh : ∀ x ∈ newKeys c h.2, x ∈ c
      · exact ⟨c, isCome_of h1 h2 (fun r hr hl k hk => hh k (mem_newKeys.mpr ⟨r, hr, hl, hk⟩)) h3 h4⟩
      · refine ih (kset (c ++ newKeys c h.2)) (step_come h1) (fun x hx => mem_kset.mpr (List.mem_append_left _ (h2 x hx))) (kset_nodup _) (kset_sorted _) ?_
        have hlt : c.length < (kset (c ++ newKeys c h.2)).length := by
          apply Nat.lt_of_not_le
          intro hle
          exact hh fun x hx => nodup_back h3 (kset_nodup _) (fun x hx => mem_kset.mpr (List.mem_append_left _ hx)) hle x (mem_kset.mpr (List.mem_append_right _ hx))
        omega
  exact key _ (kset h.1) (fun x hx => .begin' (mem_kset.mp hx)) (fun x hx => mem_kset.mpr hx) (kset_nodup _) (kset_sorted _) (Nat.le_refl _)
end Kr

/-! layer KrC -/
namespace Kr
open PySem L2
structure Mid (h : House) : Prop where
  good : GoodHouse h
  b : h.1.length ≤ 200
  r : h.2.length ≤ 100
  k : keysIn h.2 ≤ 200
theorem Mid.small {h : House} (m : Mid h) : Small h := ⟨m.good, by have := m.b; omega, by have := m.r; omega, by have := m.k; omega⟩
theorem kset_len (xs : List Str) : (kset xs).length ≤ xs.length := subset_length (kset_nodup xs) fun x hx => mem_kset.mp hx
theorem kset_pos {xs : List Str} (h : 1 ≤ xs.length) : 1 ≤ (kset xs).length := by
  cases xs with
  | nil => simp at h
  | cons x xs => exact List.length_pos_of_mem (mem_kset.mpr (List.mem_cons_self (a := x) (l := xs)))
theorem srt_kset (xs : List Str) : srt (kset xs) = kset xs := sorted_unique (srt_perm _) (srt_sorted _) (kset_sorted _)
theorem keysIn_twice : ∀ rs : List Room', keysIn (rs.map fun r => (kset r.1, r.2 ++ r.2)) = 2 * keysIn rs
  | [] => rfl
  | r :: rs => by
    have ih := keysIn_twice rs
    unfold keysIn at ih ⊢
    rw [List.map_cons, List.map_cons, List.sum_cons, ih, List.map_cons, List.sum_cons]
    show (r.2 ++ r.2).length + _ = _
    rw [List.length_append]
    omega
theorem keysIn_append (a b : List Room') : keysIn (a ++ b) = keysIn a + keysIn b := by
  unfold keysIn
  rw [List.map_append, List.sum_append]
theorem drop_keys {rs : List Room'} (i : Nat) : keysIn (rs.drop i) ≤ keysIn rs := by
  have e : keysIn rs = keysIn (rs.take i) + keysIn (rs.drop i) := by
    rw [← keysIn_append, List.take_append_drop]
  omega
theorem Mid.each {h : House} (m : Mid h) {r : Room'} (hr : r ∈ h.2) : r.2.length ≤ 200 := Nat.le_trans (one_le hr) m.k
theorem Mid.twice {h : House} (m : Mid h) : Small (twice h) := by
  have h1 := m.b; have h2 := m.r; have h3 := m.k
  refine ⟨⟨fun k hk => ?_, fun r hr => ?_, ?_, ?_, fun r hr => ?_⟩, ?_, ?_, ?_⟩
  · rcases List.mem_append.mp hk with h | h <;> exact m.good.keys k h
  · obtain ⟨s, hs, rfl⟩ := List.mem_map.mp hr
    obtain ⟨o1, o2, o3, o4, o5⟩ := m.good.rooms s hs
    exact ⟨fun k hk => o1 k (mem_kset.mp hk), fun k hk => by rcases List.mem_append.mp hk with h | h <;> exact o2 k h, kset_pos o3, Nat.le_trans (kset_len _) o4, srt_kset _⟩
  · show (h.1 ++ h.1).length ≤ _; rw [List.length_append]; omega
  · show (h.2.map _).length ≤ _; rw [List.length_map]; omega
  · obtain ⟨s, hs, rfl⟩ := List.mem_map.mp hr
    have := m.each hs
    show (s.2 ++ s.2).length ≤ _
    rw [List.length_append]; omega
  · show (h.1 ++ h.1).length ≤ _; rw [List.length_append]; omega
  · show (h.2.map _).length ≤ _; rw [List.length_map]; omega
  · show keysIn (h.2.map _) ≤ _; rw [keysIn_twice]; omega
theorem Mid.come {h : House} {c : List Str} (m : Mid h) (hc : IsCome h c) : c.length ≤ 400 := by
  have := subset_length (ks := h.1 ++ h.2.flatMap (·.2)) hc.2.1 fun x hx => comes_in ((hc.1 x).mp hx)
  rw [List.length_append, flat_len] at this
  have h1 := m.b; have h3 := m.k
  omega
theorem Mid.self {h : House} {c : List Str} (m : Mid h) (hc : IsCome h c) : Small (c, h.2) := by
  have h1 := m.come hc; have h2 := m.r; have h3 := m.k
  exact ⟨⟨fun k hk => come_kind m.good ((hc.1 k).mp hk), m.good.rooms, by show c.length ≤ _; omega, m.good.many, m.good.each⟩, by show c.length ≤ _; omega, by show h.2.length ≤ _; omega, by show keysIn h.2 ≤ _; omega⟩
theorem Mid.begin' {h : House} (m : Mid h) : Small (h.1, []) := by
  have h1 := m.b
  exact ⟨⟨m.good.keys, (fun _ h => nomatch h), by show h.1.length ≤ _; omega, Nat.zero_le _, (fun _ h => nomatch h)⟩, by show h.1.length ≤ _; omega, Nat.zero_le _, Nat.zero_le _⟩
theorem Mid.without {h : House} (m : Mid h) (j : Nat) : Small (h.1, h.2.take j ++ h.2.drop (j + 1)) := by
  have h1 := m.b; have h2 := m.r; have h3 := m.k
  have h4 := take_keys (rs := h.2) j
  have h5 := drop_keys (rs := h.2) (j + 1)
  have mem : ∀ r ∈ h.2.take j ++ h.2.drop (j + 1), r ∈ h.2 := fun r hr => by
    rcases List.mem_append.mp hr with h | h
    · exact List.mem_of_mem_take h
    · exact List.mem_of_mem_drop h
  have len : (h.2.take j ++ h.2.drop (j + 1)).length ≤ 200 := by
    rw [List.length_append, List.length_take, List.length_drop]; omega
  exact ⟨⟨m.good.keys, fun r hr => m.good.rooms r (mem r hr), by show h.1.length ≤ _; omega, by show (h.2.take j ++ h.2.drop (j + 1)).length ≤ _; omega, fun r hr => m.good.each r (mem r hr)⟩, by show h.1.length ≤ _; omega, by show (h.2.take j ++ h.2.drop (j + 1)).length ≤ _; omega, by show keysIn (h.2.take j ++ h.2.drop (j + 1)) ≤ _; rw [keysIn_append]; omega⟩
theorem Mid.more {h : House} (m : Mid h) {r : Room'} (hr : r ∈ h.2) : Small (h.1 ++ r.1.take 1, h.2) := by
  have h1 := m.b; have h2 := m.r; have h3 := m.k
  have len : (h.1 ++ r.1.take 1).length ≤ 300 := by rw [List.length_append, List.length_take]; omega
  refine ⟨⟨fun k hk => ?_, m.good.rooms, by show (h.1 ++ r.1.take 1).length ≤ _; omega, m.good.many, m.good.each⟩, by show (h.1 ++ r.1.take 1).length ≤ _; omega, by show h.2.length ≤ _; omega, by show keysIn h.2 ≤ _; omega⟩
  rcases List.mem_append.mp hk with h | h
  · exact m.good.keys k h
  · exact (m.good.rooms r hr).1 k (List.mem_of_mem_take h)
theorem HouseOf.mid {most tot : Nat} {h : House} (c : HouseOf most tot h) (hm : most ≤ 100) (ht : tot ≤ 200) : Mid h := ⟨c.good, by have := c.begin'; omega, by have := c.rooms; omega, Nat.le_trans c.total ht⟩
theorem ChainOf.mid {most : Nat} {h : House} (c : ChainOf most h) (hm : most ≤ 100) : Mid h := ⟨c.good, by have := c.begin'; omega, by have := c.rooms; omega, by
  have := each_sum c.each
  have := c.rooms
  omega⟩
theorem Mid.b' {h : House} (m : Mid h) : h.1.length ≤ 4000 := by have := m.b; omega
theorem Mid.bsz {h : House} (m : Mid h) : (h.1.map PyData.str).length * (2 : Int).toNat ≤ sizeLine := by
  rw [List.length_map]
  have := m.b
  have : sizeLine = 16777216 := by decide
  show h.1.length * 2 ≤ _
  omega
theorem rep2 (xs : List Str) : (List.replicate (2 : Int).toNat (xs.map PyData.str)).flatten = (xs ++ xs).map PyData.str := by
  show (List.replicate 2 _).flatten = _
  simp [List.replicate_succ]
theorem Mid.locks {h : House} (m : Mid h) {r : Room'} (hr : r ∈ h.2) : r.1.length ≤ 4000 := by
  have := (m.good.rooms r hr).2.2.2.1
  omega
theorem Mid.keys2 {h : House} (m : Mid h) {r : Room'} (hr : r ∈ h.2) : (r.2.map PyData.str).length + (r.2.map PyData.str).length ≤ sizeLine := by
  have := m.each hr
  rw [List.length_map]
  exact sz100 (by omega)
theorem lies_take {h : House} {c : List Str} {R : List Int} (m : Mid h) (hc : IsCome h c) (hR : IsOpen h R) (i : Nat) : (h.1 ++ (R.take i).flatMap (keysAt h.2)).length ≤ 400 := by
  have e := lies_eq hc hR
  have h1 := newKeys_len c h.2
  have h2 : ((R.take i).flatMap (keysAt h.2)).length ≤ (R.flatMap (keysAt h.2)).length := by
    conv => rhs; rw [← List.take_append_drop i R, List.flatMap_append, List.length_append]
    omega
  rw [e] at h2
  have := m.b; have := m.k
  rw [List.length_append]
  omega
theorem open_at {h : House} {R : List Int} (hR : IsOpen h R) {i : Int} (hi : i ∈ R) : ∃ r, r ∈ h.2 ∧ L2.atI (h.2.map roomD) i = some (roomD r) ∧ keysAt h.2 i = r.2 := by
  obtain ⟨j, rfl, r, hr, _⟩ := (hR.2.2 i).mp hi
  refine ⟨r, List.mem_of_getElem? hr, L2.atI_nat (by rw [List.getElem?_map, hr]; rfl), ?_⟩
  unfold keysAt
  rw [Int.toNat_natCast, hr]
  rfl
theorem take_flat {R : List Int} {rs : List Room'} {i : Nat} {x : Int} (h : R[i]? = some x) : (R.take (i + 1)).flatMap (keysAt rs) = (R.take i).flatMap (keysAt rs) ++ keysAt rs x := by
  rw [List.take_add_one, h, List.flatMap_append]
  simp
/-- the rooms that do not come -/
def lostOf (h : House) (R : List Int) : List Nat := (List.range h.2.length).filter fun k => !decide ((k : Int) ∈ R)
theorem lost_mem {h : House} {R : List Int} {d : PyData} (hd : d ∈ (lostOf h R).map fun k : Nat => PyData.int (k : Int)) : ∃ j : Nat, d = .int j ∧ (j : Int) ∉ R ∧ ∃ r, h.2[j]? = some r := by
  obtain ⟨j, hj, rfl⟩ := List.mem_map.mp hd
  obtain ⟨h1, h2⟩ := List.mem_filter.mp hj
  exact ⟨j, rfl, of_decide_eq_false (by simpa using h2), _, List.getElem?_eq_getElem (List.mem_range.mp h1)⟩
theorem none_out {α : Type} {xs : List α} {f : α → Bool} (h : α → PyData) (hf : ∀ x ∈ xs, f x = false) : PyData.list ((xs.filter f).map h) = .list [] := by
  rw [List.filter_eq_nil_iff.mpr fun x hx => by rw [hf x hx]; exact Bool.false_ne_true]
  rfl
theorem intsD_nat (n : Nat) : intsD 0 (n : Int) = (List.range n).map fun k : Nat => PyData.int (k : Int) := by
  unfold intsD
  rw [show ((n : Int) - 0).toNat = n by omega]
  exact List.map_congr_left fun k _ => by rw [Int.zero_add]
theorem lost_ne {h : House} {R : List Int} (hb : (!((lostOf h R).map fun k : Nat => PyData.int (k : Int)).isEmpty) = true) : 0 < ((lostOf h R).map fun k : Nat => PyData.int (k : Int)).length := by
  cases e : (lostOf h R).map fun k : Nat => PyData.int (k : Int) with
  | nil => rw [e] at hb; cases hb
  | cons x xs => simp
theorem lost_lt {h : House} {R : List Int} (m : Mid h) : ((lostOf h R).map fun k : Nat => PyData.int (k : Int)).length ≤ 100 := by
  rw [List.length_map]
  unfold lostOf
  have := List.length_filter_le (fun k : Nat => !decide ((k : Int) ∈ R)) (List.range h.2.length)
  rw [List.length_range] at this
  exact Nat.le_trans this m.r
theorem lay_nats (xs : List Nat) : Lay 1 (.list (xs.map fun k : Nat => PyData.int (k : Int))) := lay_list fun d m => by
  obtain ⟨k, hk, rfl⟩ := List.mem_map.mp m
  exact lay_int k
theorem eqv_nil' (ds : List PyData) : PyData.eqv (.list ds) (.list []) = ds.isEmpty := by cases ds <;> simp [PyData.eqv, PyData.eqvAll]
theorem without_sz {h : House} (m : Mid h) (j : Nat) : ((h.2.map roomD).take j).length + ((h.2.map roomD).drop (j + 1)).length ≤ sizeLine := by
  rw [List.length_take, List.length_drop, List.length_map]
  have := m.r
  exact sz100 (by omega)
theorem more_sz {h : House} (m : Mid h) (r : Room') : (h.1.map PyData.str).length + ((r.1.map PyData.str).take 1).length ≤ sizeLine := by
  rw [List.length_take, List.length_map]
  have := m.b
  exact sz100 (by omega)
theorem liesSz {h : House} {c : List Str} {R : List Int} (m : Mid h) (hc : IsCome h c) (hR : IsOpen h R) (i : Nat) {r : Room'} (hr : r ∈ h.2) : ((h.1 ++ (R.take i).flatMap (keysAt h.2)).map PyData.str).length + (r.2.map PyData.str).length ≤ sizeLine := by
  have h1 := lies_take m hc hR i
  have h2 := m.each hr
  rw [List.length_map, List.length_map]
  exact sz100 (by omega)
theorem rangeSz {h : House} (m : Mid h) : -(2 ^ 62) ≤ ((h.2.map roomD).length : Int) ∧ ((h.2.map roomD).length : Int) < 2 ^ 62 := by
  rw [List.length_map]
  have := m.r
  omega
theorem lostPos {h : House} {R : List Int} (hb : (!((lostOf h R).map fun k : Nat => PyData.int (k : Int)).isEmpty) = true) : (0 : Int) < (((lostOf h R).map fun k : Nat => PyData.int (k : Int)).length : Nat) := by
  have := lost_ne hb
  omega
theorem lostLt {h : House} {R : List Int} (m : Mid h) : ((((lostOf h R).map fun k : Nat => PyData.int (k : Int)).length : Nat) : Int) < 1073741824 := by
  have := lost_lt (R := R) m
  omega
theorem getEnum {ds : List PyData} {i : Nat} {d : PyData} (h : (enumsD ds)[i]? = some d) : ∃ d0, ds[i]? = some d0 ∧ d = .tuple [.int (i : Nat), d0] := by
  unfold enumsD at h
  rw [List.getElem?_mapIdx] at h
  cases e : ds[i]? with
  | none => rw [e] at h; cases h
  | some x => rw [e] at h; exact ⟨x, rfl, by injection h with h; exact h.symm⟩
theorem enumsD_length (ds : List PyData) : (enumsD ds).length = ds.length := by unfold enumsD; simp
theorem upto10 (n : Nat) : ∃ m : Nat, max (1 : Int) (min 10 (n : Int)) = m ∧ m ≤ 10 := ⟨(max (1 : Int) (min 10 (n : Int))).toNat, by omega, by omega⟩
theorem twice_rooms (h : House) : PyData.list (h.2.map fun r => roomD (kset r.1, r.2 ++ r.2)) = .list ((twice h).2.map roomD) := by
  unfold twice
  rw [List.map_map]
  rfl
end Kr

/-! layer KrD -/
namespace Kr
open PySem L2
/-! ## dicts whose keys are texts or ints -/
theorem VE.f {X : Cx} {e : Expr} {σ : St} {F F1 : Hp} {v : V} (h : VE X e σ F F v) (s : Same F F1) : VE X e σ F1 F1 v := h.mono ⟨s, Same.refl _, s, fun _ e n => absurd e n⟩
section
variable {X : Cx} {σ : St} {F H : Hp} {o e f value : Expr} {a : Addr} {kvs : List (Key × V)} {k : Key} {pos pos' apos cpos tpos : Pos} {D : Ends} {d dv : PyData} {i j n : Int}
/-- a key as data -/
def keyD : Key → PyData
  | .inl i => .int i
  | .inr x => .str x
theorem keyV {F : Hp} {v : V} : ∀ {k : Key}, Da F (keyD k) v → v = kV k
  | .inl _, h => h
  | .inr _, h => h
/-- d.get(key, int) -/
theorem de_dget2 (hu : X.A.units + 64 < cLine) (ho : VE X o σ F H (.ref a)) (hF : F a = some (.dK kvs)) (he : DE X e σ F H (keyD k)) (hf : DE X f σ F H (.int i)) (hn : (valV kvs k).getD (.int i) = .int n) (m : M2 X o "get" apos e f cpos) : DE X (.Call (.Attribute o "get" apos) [e, f] [] cpos) σ F H (.int n) := fun F1 H1 g Q q =>
  we_of (pe_dget2 (by omega) pe_we pe_we pe_we m) (ho F1 H1 g _ fun F2 H2 g2 => ⟨a, rfl, .inl ⟨kvs, .inl ((g.trans g2).same _ _ hF)⟩, he F2 H2 (g.trans g2) _ fun y F3 H3 g3 hy => hf F3 H3 ((g.trans g2).trans g3) _ fun z F4 H4 g4 hz => by
    obtain rfl := keyV hy
    obtain rfl : z = .int i := hz
    refine ⟨valV kvs k, DGet.k ((((g.trans g2).trans g3).trans g4).same _ _ hF), ?_⟩
    rw [hn]
    exact q _ F4 H4 ((g2.trans g3).trans g4) rfl⟩)
/-- d[key], there -/
theorem de_dat (hu : X.A.units + 64 < cLine) (ho : VE X o σ F H (.ref a)) (hF : F a = some (.dK kvs)) (he : DE X e σ F H (keyD k)) (hn : valV kvs k = some (.int n)) (hs : NoSl e := by exact fun _ _ => rfl) : DE X (.Subscript o e pos) σ F H (.int n) := fun F1 H1 g Q q =>
  we_of (pe_dget (by omega) pe_we pe_we hs) (ho F1 H1 g _ fun F2 H2 g2 => he F2 H2 (g.trans g2) _ fun y F3 H3 g3 hy => by
    obtain rfl := keyV hy
    exact ⟨a, .int n, rfl, by rw [← hn]; exact DGet.k (((g.trans g2).trans g3).same _ _ hF), q _ F3 H3 (g2.trans g3) rfl⟩)
/-- key in d, key not in d, as tests -/
theorem dt_din (hu : X.A.units + 64 < cLine) (he : DE X e σ F H (keyD k)) (ho : VE X o σ F H (.ref a)) (hF : F a = some (.dK kvs)) (hm : behindInMarks .In o = false := by rfl) : DT X (.Compare e [.In] [o] pos) σ F H (valV kvs k).isSome := fun F1 H1 g Q q =>
  wt_of (pt_cmp (pc_din (by omega) pe_we pe_we) hm) (he F1 H1 g _ fun y F2 H2 g2 hy => ho F2 H2 (g.trans g2) _ fun F3 H3 g3 => by
    obtain rfl := keyV hy
    exact ⟨a, _, rfl, DGet.k (((g.trans g2).trans g3).same _ _ hF), _, rfl, q F3 H3 (g2.trans g3)⟩)
theorem dt_dnotin (hu : X.A.units + 64 < cLine) (he : DE X e σ F H (keyD k)) (ho : VE X o σ F H (.ref a)) (hF : F a = some (.dK kvs)) (hm : behindInMarks .NotIn o = false := by rfl) : DT X (.Compare e [.NotIn] [o] pos) σ F H (!(valV kvs k).isSome) := fun F1 H1 g Q q =>
  wt_of (pt_cmp (pc_dnotin (by omega) pe_we pe_we) hm) (he F1 H1 g _ fun y F2 H2 g2 hy => ho F2 H2 (g.trans g2) _ fun F3 H3 g3 => by
    obtain rfl := keyV hy
    exact ⟨a, _, rfl, DGet.k (((g.trans g2).trans g3).same _ _ hF), _, rfl, q F3 H3 (g2.trans g3)⟩)
/-- d[key] = value; the dict may be frozen for the time being -/
theorem ws_dput (hu : X.A.units + 64 < cLine) (ho : VE X o σ F F (.ref a)) (he : DE X e σ F F (keyD k)) (hv : DE X value σ F F dv) (s : Same F H) (ha : H a = some (.dK kvs)) (hl : kvs.length < sizeLine) (q : ∀ v F2 H2, Gr F H F2 H2 → Da F2 dv v → D.nx σ (upd H2 a (.dK (putK kvs k v))))
    (hs : swapsWith value (some (.Subscript o e pos')) pos.line X.env = pure false := by rfl) : WS X (.Assign [.Subscript o e pos'] value pos) D σ H :=
  ws_of (ps_dput (by omega) pe_we pe_we pe_we hs) (hv.at s fun v F2 H2 g2 hv2 => (ho.f g2.ff).at g2.fh fun F3 H3 g3 => (he.f (g2.trans g3).ff).at (g2.trans g3).fh fun y F4 H4 g4 hy => by
    obtain rfl := keyV hy
    have g := (g2.trans g3).trans g4
    exact ⟨a, _, rfl, DPut.k (g.hh _ _ ha) hl, q v F4 H4 g ((g3.trans g4).da hv2)⟩)
/-- {} -/
theorem we_dnew {Q : VK} (q : ∀ l, H l = none → Q (.ref l) (upd H l (.dK []))) : WE X (.Dict [] [] pos) σ H Q := we_of pe_dnewK q
end
/-! ## hands: how many keys of each kind -/
structure HandOf (kvs : List (Key × V)) (ks : List Str) (cnt : Str → Nat) : Prop where
  keys : kvs.map (·.1) = ks.map Sum.inr
  nd : ks.Nodup
  val : ∀ x, valV kvs (.inr x) = if x ∈ ks then some (.int (cnt x)) else none
  zero : ∀ x, x ∉ ks → cnt x = 0
theorem HandOf.nil : HandOf [] [] fun _ => 0 := ⟨rfl, List.nodup_nil, fun _ => rfl, fun _ _ => rfl⟩
theorem HandOf.get {kvs : List (Key × V)} {ks : List Str} {cnt : Str → Nat} (h : HandOf kvs ks cnt) (x : Str) : (valV kvs (.inr x)).getD (.int 0) = .int (cnt x : Int) := by
  rw [h.val x]
  split
  · rfl
  · rename_i hn
    rw [h.zero x hn]
    rfl
theorem HandOf.len {kvs : List (Key × V)} {ks : List Str} {cnt : Str → Nat} (h : HandOf kvs ks cnt) : kvs.length = ks.length := by
  have := congrArg List.length h.keys
  rwa [List.length_map, List.length_map] at this
theorem valV_none_of {kvs : List (Key × V)} {ks : List Str} {cnt : Str → Nat} (h : HandOf kvs ks cnt) {x : Str} (hx : x ∉ ks) : valV kvs (.inr x) = none := by
  rw [h.val x, if_neg hx]
theorem putK_keys {kvs : List (Key × V)} {k : Key} {v : V} (h : (valV kvs k).isSome = true) : (putK kvs k v).map (·.1) = kvs.map (·.1) := by
  unfold putK
  rw [valV_any, h, if_pos rfl, List.map_map]
  refine List.map_congr_left fun kv _ => ?_
  show (if kv.1 = k then (kv.1, v) else kv).1 = kv.1
  split <;> rfl
/-- one kind's number is set -/
theorem HandOf.put {kvs : List (Key × V)} {ks : List Str} {cnt : Str → Nat} (h : HandOf kvs ks cnt) (x : Str) (n : Nat) : HandOf (putK kvs (.inr x) (.int (n : Int))) (if x ∈ ks then ks else ks ++ [x]) (fun y => if y = x then n else cnt y) := by
  refine ⟨?_, ?_, fun y => ?_, fun y hy => ?_⟩
  · split
    · rename_i hx
      rw [putK_keys (by rw [h.val x, if_pos hx]; rfl)]
      exact h.keys
    · rename_i hx
      rw [putK_new _ (valV_none_of h hx), List.map_append, h.keys, List.map_append]
      rfl
  · split
    · exact h.nd
    · rename_i hx
      exact List.nodup_append.mpr ⟨h.nd, List.nodup_cons.mpr ⟨(fun h => nomatch h), List.nodup_nil⟩, fun a ha b hb e => by
        rw [List.mem_singleton] at hb
        subst hb; subst e
        exact hx ha⟩
  · rw [valV_put]
    by_cases e : y = x
    · subst e
      rw [if_pos rfl, if_pos (by split <;> simp_all), if_pos rfl]
    · rw [if_neg (fun z => e (Sum.inr.inj z)), h.val y, if_neg e]
      have : (y ∈ (if x ∈ ks then ks else ks ++ [x])) ↔ y ∈ ks := by
        split
        · exact Iff.rfl
        · rw [List.mem_append, List.mem_singleton]
          exact ⟨fun z => z.resolve_right e, .inl⟩
      simp only [this]
  · have hyx : y ≠ x := fun e => by
      subst e
      apply hy
      split <;> simp_all
    rw [if_neg hyx]
    refine h.zero y fun z => hy ?_
    split
    · exact z
    · exact List.mem_append_left _ z
end Kr

/-! layer KrE -/
namespace Kr
open PySem L2 PySem.Spec
/-! ## count and remove in lists of texts -/
def isTx (x : Str) : Value → Bool
  | .str y _ => y.cps.toList == x.cps.toList
  | _ => false
theorem isTx_str (y x : Str) (t : Tok) : isTx x (.str y t) = (y == x) := by
  show (y.cps.toList == x.cps.toList) = (y == x)
  by_cases e : y = x
  · subst e; simp
  · have : y.cps.toList ≠ x.cps.toList := fun z => e (by
      obtain ⟨a⟩ := y
      obtain ⟨b⟩ := x
      congr 1
      exact Array.toList_inj.mp z)
    rw [beq_eq_false_iff_ne.mpr this, beq_eq_false_iff_ne.mpr e]
theorem isTx_gives {x : Str} {t : Tok} : ∀ {us : List Value} {xs : List Str}, Vals (xs.map V.str) us → ∀ y ∈ us, MeetsSeq.EqGives y (.str x t) (isTx x y)
  | [], _, _, y, hy => nomatch hy
  | u :: us, [], h, _, _ => nomatch h
  | u :: us, z :: xs, h, y, hy => by
    cases h with
    | cons h1 h2 =>
      obtain ⟨t', rfl⟩ := h1
      rcases List.mem_cons.mp hy with e | e
      · subst e
        exact PySem.SeqRoads2.EqGives.str z x t' t
      · exact isTx_gives h2 y e
theorem isTx_count {x : Str} : ∀ {us : List Value} {xs : List Str}, Vals (xs.map V.str) us → us.countP (isTx x) = xs.count x
  | [], [], _ => rfl
  | [], z :: xs, h => nomatch h
  | u :: us, [], h => nomatch h
  | u :: us, z :: xs, h => by
    cases h with
    | cons h1 h2 =>
      obtain ⟨t', rfl⟩ := h1
      rw [List.countP_cons, List.count_cons, isTx_count h2, isTx_str]
section
variable {X : Cx}
def rCntS (K : PySem.W.Frag) : V → List V → Hp → VK → Prop := fun v vs H Q => ∃ (p : Addr) (xs : List Str) (x : Str), v = .ref p ∧ vs = [.str x] ∧ SqL K H p (xs.map V.str) ∧ Q (.int (xs.count x : Nat)) H
theorem mt_countS : MtR X "list.count" (rCntS X.K) := by
  intro pins s σ H v vs a us Q I ra rs h
  obtain ⟨p, xs, x, rfl, rfl, hs, q⟩ := h
  cases ra
  obtain ⟨u, rfl, t, rfl⟩ := rs.one
  obtain ⟨its, rv, ⟨⟨cls, dd, data, sl⟩, n, ho, hc, hdn, hd⟩, hlen⟩ := I.list hs
  simp only at hc hd
  subst hc hd
  have ec : its.toArray.toList.countP (isTx x) = xs.count x := isTx_count rv
  refine call_meets PySem.F.slot_list_count ⟨_, ho, rfl⟩ PySem.F.entry_list_count (PySem.F.args_list_count_2 _ _)
    (SeqAt.list_countAt p its.toArray n dd sl (.str x t) (isTx x)) ⟨ho, fun y hy => (isTx_gives rv y (by simpa using hy)).at _ _, .int (xs.count x : Nat), H, I.tok _, ⟨s.toks, ?_⟩, q⟩
  rw [ec]
/-- the first of its kind is taken out -/
def rRemS : V → List V → Hp → VK → Prop := fun v vs H Q => ∃ (l : Addr) (xs : List Str) (x : Str), v = .ref l ∧ vs = [.str x] ∧ H l = some (.lst (xs.map V.str)) ∧ x ∈ xs ∧ Q .non (upd H l (.lst ((xs.erase x).map V.str)))
theorem first_at {x : Str} : ∀ {xs : List Str}, x ∈ xs → ∃ j : Nat, xs[j]? = some x ∧ (∀ m : Nat, m < j → xs[m]? ≠ some x) ∧ xs.erase x = xs.eraseIdx j
  | z :: xs, h => by
    by_cases e : z = x
    · subst e
      exact ⟨0, rfl, fun m hm => absurd hm (Nat.not_lt_zero _), by simp⟩
    · obtain ⟨j, h1, h2, h3⟩ := first_at (xs := xs) ((List.mem_cons.mp h).resolve_left fun z' => e z'.symm)
      refine ⟨j + 1, by simpa using h1, fun m hm => ?_, ?_⟩
      · cases m with
        | zero => intro hh; exact e (by simpa using hh)
        | succ m => intro hh; exact h2 m (by omega) (by simpa using hh)
      · rw [List.erase_cons_tail (by simpa using e), h3]; rfl
theorem erase_mapS {α β : Type} (f : α → β) : ∀ (xs : List α) (j : Nat), (xs.map f).eraseIdx j = (xs.eraseIdx j).map f
  | [], _ => rfl
  | _ :: _, 0 => rfl
  | x :: xs, j + 1 => by
    show f x :: (xs.map f).eraseIdx j = f x :: (xs.eraseIdx j).map f
    rw [erase_mapS f xs j]
theorem mt_removeS : MtM X "list.remove" rRemS := by
  intro pins s σ H v vs a us Q I ra rs h
  obtain ⟨l, xs, x, rfl, rfl, hH, hx, q⟩ := h
  cases ra
  obtain ⟨u, rfl, t, rfl⟩ := rs.one
  obtain ⟨z, its, n, r, hl, e⟩ := I.lstM hH
  obtain ⟨j, hj, hno, he⟩ := first_at hx
  have hlen : its.length = xs.length := by rw [← hl, List.length_map]
  have hjn : j < xs.length := (List.getElem?_eq_some_iff.mp hj).1
  have itm : ∀ m (hm : m < its.length) y, xs[m]? = some y → ∃ t', its[m] = .str y t' := fun m hm y hy => by
    obtain ⟨u, hu, t', rfl⟩ := r.get (x := V.str y) (i := m) (by rw [List.getElem?_map, hy]; rfl)
    exact ⟨t', by rw [List.getElem?_eq_getElem hm] at hu; exact Option.some.inj hu⟩
  refine call_meets PySem.F.slot_list_remove ⟨_, e, rfl⟩ PySem.F.entry_list_remove (PySem.F.args_list_remove_2 _ _)
    (MeetsSeq.list_remove l its.toArray n (.str x t) (isTx x) (fun y hy => isTx_gives r y (by simpa using hy)) j (by rw [List.size_toArray]; omega) ?_ ?_ (by rw [List.size_toArray]; omega)) ⟨e, ?_⟩
  · obtain ⟨t', h1⟩ := itm j (by omega) x hj
    have hjs : j < its.toArray.size := by rw [List.size_toArray]; omega
    have h2 : its.toArray[j] = .str x t' := by simpa using h1
    rw [h2, isTx_str]
    exact beq_self_eq_true x
  · intro m hm hmj
    have hmx : m < xs.length := by omega
    obtain ⟨t', h1⟩ := itm m (by omega) _ (List.getElem?_eq_getElem hmx)
    have h2 : its.toArray[m] = .str xs[m] t' := by simpa using h1
    rw [h2, isTx_str]
    exact beq_eq_false_iff_ne.mpr fun z => hno m hmj (by rw [List.getElem?_eq_getElem hmx, z])
  · have rr := r.eraseIdx j
    have em : (xs.map V.str).eraseIdx j = (xs.erase x).map V.str := by rw [he, erase_mapS]
    rw [em] at rr
    refine ⟨.non, _, I.lset (its' := its.eraseIdx j) (t' := s.toks) hH e ?_ rr ?_, rfl, q⟩
    · show its.toArray.eraseIdxIfInBounds j = (its.eraseIdx j).toArray
      rw [List.eraseIdxIfInBounds_toArray]
    · have := List.length_erase_le (a := x) (l := xs)
      rw [List.length_map] at hl z ⊢
      omega
end
section
variable {X : Cx} {σ : St} {F H : Hp} {o e : Expr} {apos cpos pos : Pos} {xs : List Str} {x : Str} {D : Ends} {l : Addr}
/-- o.count(e) of texts -/
theorem de_countS (ho : DE X o σ F H (.list (xs.map .str))) (he : DE X e σ F H (.str x)) (b : Bm X o "count" e [] apos cpos := by exact ⟨rfl, rfl, rfl, rfl, rfl⟩) : DE X (.Call (.Attribute o "count" apos) [e] [] cpos) σ F H (.int (xs.count x : Nat)) := fun F1 H1 g Q q =>
  we_of (pe_bm PySem.F.plainAttrs_list PySem.F.slot_list_count PySem.F.type_list_count mt_countS pe_we (pa_cons pe_we pa_nil b.hs) b.hbase b.hfew b.hline b.hs b.hplain)
    (ho F1 H1 g _ fun v F2 H2 g2 hv => by
      obtain ⟨a, vs, rfl, h1, h2⟩ := hv
      obtain rfl := h2.strs
      exact ⟨.inl ⟨rfl, _, SqL.of (g2.fh _ _ h1)⟩, he F2 H2 (g.trans g2) _ fun u F3 H3 g3 hu => by
        obtain rfl : u = .str x := hu
        exact ⟨a, xs, x, rfl, rfl, SqL.of (g3.hh _ _ (g2.fh _ _ h1)), q _ F3 H3 (g2.trans g3) rfl⟩⟩)
/-- o.remove(e) of texts -/
theorem ws_removeS (ho : VE X o σ F F (.ref l)) (he : DE X e σ F F (.str x)) (s : Same F H) (hl : H l = some (.lst (xs.map V.str))) (hx : x ∈ xs) (q : ∀ F2 H2, Gr F H F2 H2 → D.nx σ (upd H2 l (.lst ((xs.erase x).map V.str))))
    (b : Bm X o "remove" e [] apos cpos := by exact ⟨rfl, rfl, rfl, rfl, rfl⟩) (hsw : swapsWith (.Call (.Attribute o "remove" apos) [e] [] cpos) none pos.line X.env = pure false := by rfl) : WS X (.Expr (.Call (.Attribute o "remove" apos) [e] [] cpos) pos) D σ H :=
  ws_expr (we_of (pe_bm PySem.F.plainAttrs_list PySem.F.slot_list_remove PySem.F.type_list_remove mt_removeS pe_we (pa_cons pe_we pa_nil b.hs) b.hbase b.hfew b.hline b.hs b.hplain)
    (ho.at s fun F2 H2 g2 => ⟨.inl ⟨rfl, _, SqL.of (g2.hh _ _ hl)⟩, (he.f g2.ff).at g2.fh fun v F3 H3 g3 hv => ⟨l, xs, x, rfl, by rw [show v = .str x from hv], (g2.trans g3).hh _ _ hl, hx, q F3 H3 (g2.trans g3)⟩⟩)) hsw
end
end Kr

/-! layer KrF -/
namespace Kr
open PySem L2
/-! ## hands as data -/
def handE (ks : List Str) (cnt : Str → Nat) : List (Key × V) := ks.map fun x => (.inr x, .int (cnt x : Int))
def handD (ks : List Str) (cnt : Str → Nat) : PyData := .dict (ks.map fun x => (.str x, .int (cnt x : Int)))
theorem valV_handE {cnt : Str → Nat} (x : Str) : ∀ ks : List Str, valV (handE ks cnt) (.inr x) = if x ∈ ks then some (.int (cnt x : Int)) else none
  | [] => by simp [handE, valV]
  | y :: ks => by
    have ih := valV_handE (cnt := cnt) x ks
    unfold handE at ih ⊢
    rw [List.map_cons]
    by_cases e : y = x
    · subst e
      rw [valV_pos rfl, if_pos List.mem_cons_self]
    · rw [valV_neg (fun z => e (Sum.inr.inj z)), ih]
      have : (x ∈ y :: ks) ↔ x ∈ ks := by
        rw [List.mem_cons]
        exact ⟨fun z => z.resolve_left fun z' => e z'.symm, .inr⟩
      simp only [this]
theorem handOf_E {ks : List Str} {cnt : Str → Nat} (nd : ks.Nodup) (h0 : ∀ x, x ∉ ks → cnt x = 0) : HandOf (handE ks cnt) ks cnt := ⟨by unfold handE; rw [List.map_map]; rfl, nd, fun x => valV_handE x ks, h0⟩
theorem daKV_hand {F : Hp} {cnt : Str → Nat} : ∀ {ks : List Str} {es : List (Key × V)}, DaKV F (ks.map fun x => (.str x, .int (cnt x : Int))) es ↔ es = handE ks cnt
  | [], es => Iff.rfl
  | x :: ks, es => by
    constructor
    · intro h
      obtain ⟨k, v, r, rfl, h1, h2, h3⟩ := (show ∃ k v r, es = (k, v) :: r ∧ KeyD (.str x) k ∧ Da F (.int (cnt x : Int)) v ∧ DaKV F (ks.map fun x => (.str x, .int (cnt x : Int))) r from h)
      obtain rfl : v = .int (cnt x : Int) := h2
      have e := daKV_hand.mp h3
      subst e
      cases k with
      | inl i => exact h1.elim
      | inr y =>
        obtain rfl : x = y := h1
        rfl
    · rintro rfl
      exact (show ∃ k v r, handE (x :: ks) cnt = (k, v) :: r ∧ KeyD (.str x) k ∧ Da F (.int (cnt x : Int)) v ∧ DaKV F (ks.map fun x => (.str x, .int (cnt x : Int))) r from ⟨.inr x, .int (cnt x : Int), handE ks cnt, rfl, rfl, rfl, daKV_hand.mpr rfl⟩)
/-- a put, in the form of handE -/
theorem put_handE {ks : List Str} {cnt : Str → Nat} (x : Str) (n : Nat) (nd : ks.Nodup) : putK (handE ks cnt) (.inr x) (.int (n : Int)) = handE (if x ∈ ks then ks else ks ++ [x]) (fun y => if y = x then n else cnt y) := by
  by_cases hx : x ∈ ks
  · rw [if_pos hx]
    unfold putK
    rw [valV_any, valV_handE, if_pos hx, Option.isSome_some, if_pos rfl]
    unfold handE
    rw [List.map_map]
    refine List.map_congr_left fun y _ => ?_
    show (if (Sum.inr y : Key) = .inr x then ((.inr y : Key), V.int (n : Int)) else ((.inr y : Key), V.int (cnt y : Int))) = _
    by_cases e : y = x
    · subst e; simp
    · rw [if_neg (fun z => e (Sum.inr.inj z))]
      dsimp only
      rw [if_neg e]
  · rw [if_neg hx, putK_new _ (by rw [valV_handE, if_neg hx])]
    unfold handE
    rw [List.map_append]
    congr 1
    · refine List.map_congr_left fun y hy => ?_
      have hne : y ≠ x := fun e => by subst e; exact hx hy
      dsimp only
      rw [if_neg hne]
    · simp
end Kr

/-! layer KrG -/
namespace Kr
open PySem L2
section
variable {X : Cx} {σ : St} {F H : Hp} {o e value : Expr} {a : Addr} {kvs : List (Key × V)} {k : Key} {pos tpos : Pos} {D : Ends} {i j : Int}
/-- d[key] -= int -/
theorem ws_dsub (hu : X.A.units + 64 < cLine) (ho : VE X o σ F F (.ref a)) (he : DE X e σ F F (keyD k)) (hv : DE X value σ F F (.int j)) (s : Same F H) (ha : H a = some (.dK kvs)) (hk : valV kvs k = some (.int i)) (hl : kvs.length < sizeLine) (q : ∀ F2 H2, Gr F H F2 H2 → D.nx σ (upd H2 a (.dK (putK kvs k (.int (i - j))))))
    (haug : ∀ ov iv new, augStore e ov iv new = (do holding [new, ov, iv] (setItem ov iv new); release [new, ov, iv] []; pure .next) := by intros; rfl) : WS X (.AugAssign (.Subscript o e tpos) .Sub value pos) D σ H :=
  ws_of (ps_daug (by omega) pe_we pe_we pe_we in_sub haug) (ho.at s fun F2 H2 g2 => (he.f g2.ff).at g2.fh fun y F3 H3 g3 hy => by
    obtain rfl := keyV hy
    have g := g2.trans g3
    refine ⟨a, .int i, rfl, by rw [← hk]; exact DGet.k (g.hh _ _ ha), (hv.f g.ff).at g.fh fun z F4 H4 g4 hz => ?_⟩
    obtain rfl : z = .int j := hz
    have g' := g.trans g4
    exact ⟨i, j, rfl, rfl, _, DPut.k (g'.hh _ _ ha) hl, q F4 H4 g'⟩)
end
/-! ## a hand that counts a list -/
def addK (ks : List Str) (x : Str) : List Str := if x ∈ ks then ks else ks ++ [x]
def handL (ks L : List Str) : List (Key × V) := handE ks fun y => L.count y
theorem handE_congr {ks : List Str} {f g : Str → Nat} (h : ∀ y, f y = g y) : handE ks f = handE ks g := by
  have : f = g := funext h
  rw [this]
theorem add_handL {ks L : List Str} (x : Str) (nd : ks.Nodup) : putK (handL ks L) (.inr x) (.int ((L.count x + 1 : Nat) : Int)) = handL (addK ks x) (L ++ [x]) := by
  unfold handL
  rw [put_handE x _ nd]
  refine handE_congr fun y => ?_
  rw [List.count_append, List.count_cons, List.count_nil]
  by_cases e : y = x
  · subst e; simp
  · have e' : ¬ x = y := fun z => e z.symm
    simp [e, e']
theorem sub_handL {ks L : List Str} (x : Str) (nd : ks.Nodup) (hx : x ∈ L) (hk : x ∈ ks) : putK (handL ks L) (.inr x) (.int ((L.count x : Int) - 1)) = handL ks (L.erase x) := by
  have hp : 0 < L.count x := List.count_pos_iff.mpr hx
  unfold handL
  rw [show ((L.count x : Int) - 1) = ((L.count x - 1 : Nat) : Int) by omega, put_handE x _ nd, if_pos hk]
  refine handE_congr fun y => ?_
  by_cases e : y = x
  · subst e
    rw [if_pos rfl, List.count_erase_self]
  · rw [if_neg e, List.count_erase_of_ne e]
theorem addK_nodup {ks : List Str} (x : Str) (nd : ks.Nodup) : (addK ks x).Nodup := by
  unfold addK
  split
  · exact nd
  · rename_i hx
    exact List.nodup_append.mpr ⟨nd, List.nodup_cons.mpr ⟨(fun h => nomatch h), List.nodup_nil⟩, fun a ha b hb e => by
      rw [List.mem_singleton] at hb
      subst hb; subst e
      exact hx ha⟩
theorem mem_addK {ks : List Str} {x y : Str} : y ∈ addK ks x ↔ y ∈ ks ∨ y = x := by
  unfold addK
  split
  · rename_i hx
    exact ⟨.inl, fun h => h.elim id fun e => e ▸ hx⟩
  · rw [List.mem_append, List.mem_singleton]
/-- the keys in hand behind a room -/
def behindL (L : List Str) (r : Room') : List Str := r.1.foldl List.erase L ++ r.2
def stepL (h : House) (L : List Str) (i : Nat) : List Str := match h.2[i]? with | some r => behindL L r | none => L
def walkL (h : House) (order : List Nat) : List Str := order.foldl (stepL h) h.1
end Kr

/-! layer KrH -/
namespace Kr
open PySem L2
/-! ## orders gone -/
theorem count_foldl_erase (x : Str) : ∀ (ls L : List Str), (ls.foldl List.erase L).count x = L.count x - ls.count x
  | [], L => by simp
  | l :: ls, L => by
    rw [List.foldl_cons, count_foldl_erase x ls, List.count_cons]
    by_cases e : l = x
    · subst e
      rw [List.count_erase_self]
      simp
      omega
    · have e' : x ≠ l := fun z => e z.symm
      rw [List.count_erase_of_ne e']
      simp [e]
theorem may_mem {L lo : List Str} {j : Nat} {x : Str} (hm : (lo.all fun k => decide (lo.count k ≤ L.count k)) = true) (hj : lo[j]? = some x) : x ∈ (lo.take j).foldl List.erase L := by
  rw [← List.count_pos_iff, count_foldl_erase]
  have h1 : lo.count x ≤ L.count x := of_decide_eq_true (List.all_eq_true.mp hm x (List.mem_of_getElem? hj))
  have h2 : lo.count x = (lo.take j).count x + (lo.drop j).count x := by rw [← List.count_append, List.take_append_drop]
  have h3 : 0 < (lo.drop j).count x := by
    rw [List.count_pos_iff]
    exact List.mem_of_getElem? (i := 0) (by rw [List.getElem?_drop]; simpa using hj)
  omega
theorem foldl_erase_snoc {L lo : List Str} {j : Nat} {x : Str} (hj : lo[j]? = some x) : (lo.take (j + 1)).foldl List.erase L = ((lo.take j).foldl List.erase L).erase x := by
  rw [List.take_add_one, hj, List.foldl_append]
  rfl
theorem mem_foldl_erase {x : Str} : ∀ {ls L : List Str}, x ∈ ls.foldl List.erase L → x ∈ L
  | [], _, h => h
  | l :: ls, L, h => List.mem_of_mem_erase (mem_foldl_erase (ls := ls) (L := L.erase l) h)
theorem walkL_snoc {h : House} {order : List Nat} {i k : Nat} {r : Room'} (hi : order[i]? = some k) (hr : h.2[k]? = some r) : walkL h (order.take (i + 1)) = behindL (walkL h (order.take i)) r := by
  unfold walkL
  rw [List.take_add_one, hi, List.foldl_append]
  show stepL h _ k = _
  unfold stepL
  rw [hr]
/-- an order that can be gone -/
structure CanGo (h : House) (order : List Nat) : Prop where
  nd : order.Nodup
  step : ∀ i k, order[i]? = some k → ∃ r : Room', h.2[k]? = some r ∧ (r.1.all fun l => decide (r.1.count l ≤ (walkL h (order.take i)).count l)) = true
end Kr

/-! layer KrI -/
namespace Kr
open PySem L2
theorem leS_refl (x : Str) : leS x x = true := by
  have := srt_sorted [x, x]
  have e : srt [x, x] = [x, x] := List.perm_replicate (n := 2) (a := x) |>.mp (srt_perm [x, x])
  rw [e] at this
  exact List.rel_of_pairwise_cons this List.mem_cons_self
/-- each of ks as often as it is in L -/
def outL (ks L : List Str) : List Str := ks.flatMap fun k => List.replicate (L.count k) k
theorem count_outL {L : List Str} {x : Str} : ∀ {ks : List Str}, ks.Nodup → (outL ks L).count x = if x ∈ ks then L.count x else 0
  | [], _ => rfl
  | k :: ks, nd => by
    have nd' := List.nodup_cons.mp nd
    have ih := count_outL (L := L) (x := x) nd'.2
    unfold outL at ih ⊢
    rw [List.flatMap_cons, List.count_append, ih, List.count_replicate]
    by_cases e : k = x
    · subst e
      simp [nd'.1]
    · have e' : ¬ x = k := fun z => e z.symm
      simp [e, e']
theorem outL_sorted {L : List Str} : ∀ {ks : List Str}, ks.Pairwise (fun a b => leS a b = true) → (outL ks L).Pairwise (fun a b => leS a b = true)
  | [], _ => List.Pairwise.nil
  | k :: ks, h => by
    unfold outL
    rw [List.flatMap_cons]
    refine List.pairwise_append.mpr ⟨List.pairwise_replicate.mpr (.inr (leS_refl k)), outL_sorted h.of_cons, fun a ha b hb => ?_⟩
    rw [List.eq_of_mem_replicate ha]
    obtain ⟨k2, hk2, hb⟩ := List.mem_flatMap.mp hb
    rw [List.eq_of_mem_replicate hb]
    exact List.rel_of_pairwise_cons h hk2
theorem outL_eq {ks L : List Str} (nd : ks.Nodup) (h : ∀ x ∈ L, x ∈ ks) : outL (srt ks) L = srt L := by
  refine sorted_unique ?_ (outL_sorted (srt_sorted _)) (srt_sorted _)
  refine List.Perm.trans ?_ (srt_perm L).symm
  rw [List.perm_iff_count]
  intro x
  rw [count_outL ((srt_perm ks).nodup_iff.mpr nd)]
  split
  · rfl
  · rename_i hx
    exact (List.count_eq_zero.mpr fun z => hx ((srt_perm ks).mem_iff.mpr (h x z))).symm
/-- a + b of lists, new -/
theorem ne_cat {X : Cx} {σ : St} {F H : Hp} {a b : Expr} {pos : Pos} {ds es : List PyData} (ha : DE X a σ F H (.list ds)) (hb : DE X b σ F H (.list es)) (hz : ds.length + es.length ≤ sizeLine) : NE X (.BinOp a .Add b pos) σ F H (fun d => d = .list (ds ++ es)) := fun F1 H1 g Q q =>
  we_of (pe_op op_cat pe_we pe_we) (ha F1 H1 g _ fun x F2 H2 g2 hx => hb F2 H2 (g.trans g2) _ fun y F3 H3 g3 hy => by
    obtain ⟨l, us, rfl, h1, h2⟩ := g3.da hx
    obtain ⟨m, ws, rfl, h3, h4⟩ := hy
    refine ⟨l, m, us, ws, rfl, rfl, g3.fh _ _ h1, g3.fh _ _ h3, by rw [h2.length, h4.length]; exact hz, fun r hr => ?_⟩
    exact q (.list (ds ++ es)) (.ref r) (upd F3 r (.lst (us ++ ws))) _ ((g2.trans g3).shut hr) ⟨r, _, rfl, upd_same, (h2.append h4).mono (same_upd (g3.fh.free hr))⟩ rfl fun z ez => by
      injection ez with ez; subst ez; exact (g2.trans g3).hh.free hr)
end Kr

/-! layer A1 -/
namespace Kr
open PySem L2
/-! ## trees of our own: each node at its address -/
inductive Kd where
  | lst
  | tup
  | dct (ks : List Key)
  | obj (C dx : Addr) (fs : List Str)
inductive Tr where
  | d (x : PyData)
  | nd (k : Kd) (a : Addr) (xs : List Tr)
def Kd.ho : Kd → List V → HO
  | .lst, vs => .lst vs
  | .tup, vs => .tup vs
  | .dct ks, vs => .dK (ks.zip vs)
  | .obj C dx fs, vs => .ins C dx (fs.zip vs)
def Kd.more : Kd → List Addr
  | .obj _ dx _ => [dx]
  | _ => []
def Kd.side (H : Hp) (a : Addr) (n : Nat) : Kd → Prop
  | .obj _ dx fs => H dx = some (.own a) ∧ fs.length = n
  | .dct ks => ks.length = n
  | _ => True
def Tr.root : Tr → Option Addr
  | .d _ => none
  | .nd _ a _ => some a
mutual
def Tr.addrs : Tr → List Addr
  | .d _ => []
  | .nd k a xs => a :: (k.more ++ Tr.addrsL xs)
def Tr.addrsL : List Tr → List Addr
  | [] => []
  | t :: ts => t.addrs ++ Tr.addrsL ts
end
mutual
def TrOk (F H : Hp) : Tr → V → Prop
  | .d x, v => Da F x v
  | .nd k a xs, v => v = .ref a ∧ ∃ vs, H a = some (k.ho vs) ∧ k.side H a xs.length ∧ TrAll F H xs vs
def TrAll (F H : Hp) : List Tr → List V → Prop
  | [], vs => vs = []
  | t :: ts, vs => ∃ v r, vs = v :: r ∧ TrOk F H t v ∧ TrAll F H ts r
end
theorem Kd.side_mono {F H : Hp} {k : Kd} {a : Addr} {n : Nat} {H2 : Hp} (h : k.side H a n) (e : ∀ q ∈ k.more, ∀ o, H q = some o → H2 q = some o) : k.side H2 a n := by
  cases k with
  | obj C dx fs => exact ⟨e dx (List.mem_singleton.mpr rfl) _ h.1, h.2⟩
  | _ => exact h
mutual
theorem TrOk.mono {F H F2 H2 : Hp} (s : Same F F2) : ∀ {t : Tr} {v : V}, TrOk F H t v → (∀ q ∈ t.addrs, ∀ o, H q = some o → H2 q = some o) → TrOk F2 H2 t v
  | .d x, v, h, _ => Da.mono s h
  | .nd k a xs, v, h, e => by
    obtain ⟨h0, vs, h1, h2, h3⟩ := (show v = .ref a ∧ ∃ vs, H a = some (k.ho vs) ∧ k.side H a xs.length ∧ TrAll F H xs vs from h)
    have e' : ∀ q ∈ a :: (k.more ++ Tr.addrsL xs), ∀ o, H q = some o → H2 q = some o := e
    exact (show v = .ref a ∧ ∃ vs, H2 a = some (k.ho vs) ∧ k.side H2 a xs.length ∧ TrAll F2 H2 xs vs from ⟨h0, vs, e' a (List.mem_cons_self ..) _ h1, Kd.side_mono (F := F) h2 fun q hq => e' q (List.mem_cons_of_mem _ (List.mem_append_left _ hq)), TrAll.mono s h3 fun q hq => e' q (List.mem_cons_of_mem _ (List.mem_append_right _ hq))⟩)
theorem TrAll.mono {F H F2 H2 : Hp} (s : Same F F2) : ∀ {ts : List Tr} {vs : List V}, TrAll F H ts vs → (∀ q ∈ Tr.addrsL ts, ∀ o, H q = some o → H2 q = some o) → TrAll F2 H2 ts vs
  | [], _, h, _ => h
  | t :: ts, vs, h, e => by
    obtain ⟨v, r, h0, h1, h2⟩ := (show ∃ v r, vs = v :: r ∧ TrOk F H t v ∧ TrAll F H ts r from h)
    have e' : ∀ q ∈ t.addrs ++ Tr.addrsL ts, ∀ o, H q = some o → H2 q = some o := e
    exact (show ∃ v r, vs = v :: r ∧ TrOk F2 H2 t v ∧ TrAll F2 H2 ts r from ⟨v, r, h0, h1.mono s fun q hq => e' q (List.mem_append_left _ hq), TrAll.mono s h2 fun q hq => e' q (List.mem_append_right _ hq)⟩)
end
/-! ## abstract values, cells, states -/
inductive AVal where
  | d (x : PyData)
  | r (n : Nat)
  | s (K : PySem.W.Frag) (ns : List Int)
  /-- the node at p of the tree n, at a path there -/
  | a (p : Addr) (n : Nat) (pt : List Nat)
inductive Cell where
  | lst (ds : List PyData)
  | dK (kvs : List (Key × PyData))
  | pool (n : Nat)
  | fz (x : PyData)
  | gone
  | nl (xs : List AVal)
  | nt (xs : List AVal)
  | nd (kvs : List (Key × AVal))
  | dl (od : Obj) (es : List (Key × V)) (kvs : List (Key × PyData))
  | tr (t : Tr)
def Cell.live : Cell → Bool
  | .fz _ => false
  | .gone => false
  | .tr _ => false
  | _ => true
def Cell.ads : Cell → List Addr
  | .tr t => t.addrs
  | _ => []
structure AS where
  sl : List (Option AVal)
  cs : List Cell
def VOk (ad : List Addr) (F : Hp) : AVal → V → Prop
  | .d x, v => Da F x v
  | .r n, v => ∃ a, ad[n]? = some a ∧ v = .ref a
  | .s K ns, v => ∃ a, v = .ref a ∧ SqL K F a (ns.map V.int)
  | .a p _ _, v => v = .ref p
def KvOk (F : Hp) : List (Key × PyData) → List (Key × V) → Prop := Paired fun p q => p.1 = q.1 ∧ Da F p.2 q.2
def KrOk (ad : List Addr) (F : Hp) : List (Key × AVal) → List (Key × V) → Prop := Paired fun p q => p.1 = q.1 ∧ VOk ad F p.2 q.2
def COk (ad : List Addr) (F H : Hp) (a : Addr) : Cell → Prop
  | .lst ds => ∃ vs, H a = some (.lst vs) ∧ DaAll F ds vs
  | .dK kvs => ∃ es, H a = some (.dK es) ∧ KvOk F kvs es
  | .pool n => Pool H a n
  | .fz x => Da F x (.ref a)
  | .gone => True
  | .nl xs => ∃ vs, H a = some (.lst vs) ∧ Paired (VOk ad F) xs vs
  | .nt xs => ∃ vs, H a = some (.tup vs) ∧ Paired (VOk ad F) xs vs
  | .nd kvs => ∃ es, H a = some (.dK es) ∧ KrOk ad F kvs es
  | .dl od es kvs => H a = some (.frz od (.dK es)) ∧ KvOk F kvs es
  | .tr t => t.root = some a ∧ TrOk F H t (.ref a)
/-- where a def began: the cells handed in, both heaps -/
structure Bs where
  S : List Addr
  F0 : Hp
  H0 : Hp
  T : List Addr
/-- the addresses of our trees stand apart -/
structure Inn (B : Bs) (ad : List Addr) (F H : Hp) (cs : List Cell) : Prop where
  nd : (cs.flatMap Cell.ads).Nodup
  off : ∀ q ∈ cs.flatMap Cell.ads, ∀ i : Nat, ad[i]? = some q → cs[i]? = some Cell.gone ∨ ∃ t : Tr, cs[i]? = some (Cell.tr t) ∧ t.root = some q
  fr : ∀ q ∈ cs.flatMap Cell.ads, F q = none ∧ H q ≠ none
  own : ∀ q ∈ cs.flatMap Cell.ads, q ∈ B.S ∨ q ∈ B.T ∨ B.H0 q = none
  old : ∀ b ∈ B.T, B.H0 b ≠ none
structure Rl (B : Bs) (ad : List Addr) (F H : Hp) (a : AS) (σ : St) : Prop where
  ff : Same B.F0 F
  fh : Same F H
  hh : ∀ b o, b ∉ B.S → b ∉ B.T → B.H0 b = some o → H b = some o
  al : ∀ b, b ∈ B.S ∨ b ∈ B.T → H b ≠ none
  new : ∀ b, B.F0 b = none → B.H0 b ≠ none → F b = none
  pre : ∃ ad', ad = B.S ++ ad' ∧ ∀ b ∈ ad', B.H0 b = none
  nd : ad.Nodup
  len : ad.length = a.cs.length
  cel : ∀ (i : Nat) (p : Addr) (c : Cell), ad[i]? = some p → a.cs[i]? = some c → H p ≠ none ∧ (c.live = true → F p = none) ∧ COk ad F H p c
  sln : a.sl.length = σ.length
  slt : ∀ (k : Nat) (x : AVal), a.sl[k]? = some (some x) → ∃ v, σ[k]? = some (some v) ∧ VOk ad F x v
  inn : Inn B ad F H a.cs
theorem ne_none {H : Hp} {p : Addr} {o : HO} (h : H p = some o) : H p ≠ none := by rw [h]; exact fun z => nomatch z
theorem some_of_ne {H : Hp} {p : Addr} (h : H p ≠ none) : ∃ o, H p = some o := by
  cases e : H p with
  | none => exact absurd e h
  | some o => exact ⟨o, rfl⟩
theorem Same.ne {H H2 : Hp} {p : Addr} (s : Same H H2) (h : H p ≠ none) : H2 p ≠ none := fun z => h (s.free z)
theorem Paired.imp {α β : Type} {R S : α → β → Prop} : ∀ {xs : List α} {ys : List β}, Paired R xs ys → (∀ x y, R x y → S x y) → Paired S xs ys
  | _, _, .nil, _ => .nil
  | _, _, .cons h t, k => .cons (k _ _ h) (Paired.imp t k)
theorem ext_get {ad ad2 : List Addr} (e : ∃ m, ad2 = ad ++ m) {n : Nat} {a : Addr} (h : ad[n]? = some a) : ad2[n]? = some a := by
  obtain ⟨m, rfl⟩ := e
  rw [List.getElem?_append_left (List.getElem?_eq_some_iff.mp h).1]
  exact h
abbrev Ext (ad ad2 : List Addr) : Prop := ∃ m, ad2 = ad ++ m
theorem Ext.refl (ad : List Addr) : Ext ad ad := ⟨[], by simp⟩
theorem Ext.trans {a b c : List Addr} (h : Ext a b) (k : Ext b c) : Ext a c := by
  obtain ⟨m, rfl⟩ := h
  obtain ⟨n, rfl⟩ := k
  exact ⟨m ++ n, by simp⟩
theorem VOk.mono {ad ad2 : List Addr} {F F2 : Hp} {x : AVal} {v : V} (h : VOk ad F x v) (e : Ext ad ad2) (s : Same F F2) : VOk ad2 F2 x v := by
  cases x with
  | d x => exact Da.mono s h
  | r n => obtain ⟨a, h1, h2⟩ := h; exact ⟨a, ext_get e h1, h2⟩
  | s K ns => obtain ⟨a, h1, h2⟩ := h; exact ⟨a, h1, s.seq h2⟩
  | a p n pt => exact h
theorem COk.mono {ad ad2 : List Addr} {F F2 H H2 : Hp} {p : Addr} {c : Cell} (h : COk ad F H p c) (e : Ext ad ad2) (s : Same F F2) (k : ∀ o, H p = some o → H2 p = some o) (kt : ∀ q ∈ c.ads, ∀ o, H q = some o → H2 q = some o := by exact fun _ h => nomatch h) : COk ad2 F2 H2 p c := by
  cases c with
  | lst ds => obtain ⟨vs, h1, h2⟩ := h; exact ⟨vs, k _ h1, h2.mono s⟩
  | dK kvs => obtain ⟨vs, h1, h2⟩ := h; exact ⟨vs, k _ h1, Paired.imp h2 fun _ _ h => ⟨h.1, h.2.mono s⟩⟩
  | pool n => obtain ⟨c, m, t, h1, h2⟩ := h; exact ⟨c, m, t, k _ h1, h2⟩
  | fz x => exact Da.mono s h
  | gone => trivial
  | nl xs => obtain ⟨vs, h1, h2⟩ := h; exact ⟨vs, k _ h1, Paired.imp h2 fun _ _ h => h.mono e s⟩
  | nt xs => obtain ⟨vs, h1, h2⟩ := h; exact ⟨vs, k _ h1, Paired.imp h2 fun _ _ h => h.mono e s⟩
  | nd kvs => obtain ⟨vs, h1, h2⟩ := h; exact ⟨vs, k _ h1, Paired.imp h2 fun _ _ h => ⟨h.1, h.2.mono e s⟩⟩
  | dl od es kvs => obtain ⟨h1, h2⟩ := h; exact ⟨k _ h1, Paired.imp h2 fun _ _ h => ⟨h.1, h.2.mono s⟩⟩
  | tr t => obtain ⟨h1, h2⟩ := h; exact ⟨h1, h2.mono s kt⟩
theorem mem_ads {cs : List Cell} {i : Nat} {c : Cell} {q : Addr} (hc : cs[i]? = some c) (hq : q ∈ c.ads) : q ∈ cs.flatMap Cell.ads := List.mem_flatMap.mpr ⟨c, List.mem_of_getElem? hc, hq⟩
section
variable {B : Bs} {ad : List Addr} {F H F2 H2 : Hp} {a : AS} {σ : St} {p : Addr} {o : HO} {c : Cell} {i k : Nat} {x : AVal} {v : V}
theorem Rl.there {b : Addr} (r : Rl B ad F H a σ) (n : B.H0 b ≠ none) : H b ≠ none := by
  by_cases hb : b ∈ B.S ∨ b ∈ B.T
  · exact r.al b hb
  · obtain ⟨o, ho⟩ := some_of_ne n
    exact ne_none (r.hh b o (fun z => hb (.inl z)) (fun z => hb (.inr z)) ho)
theorem Inn.gr {cs : List Cell} (q : Inn B ad F H cs) (g : Gr F H F2 H2) : Inn B ad F2 H2 cs :=
  ⟨q.nd, q.off, fun x hx => ⟨g.new x (q.fr x hx).1 (q.fr x hx).2, Same.ne g.hh (q.fr x hx).2⟩, q.own, q.old⟩
theorem Rl.gr (r : Rl B ad F H a σ) (g : Gr F H F2 H2) : Rl B ad F2 H2 a σ where
  ff := r.ff.trans g.ff
  fh := g.fh
  hh := fun b o hb ht e => g.hh _ _ (r.hh b o hb ht e)
  al := fun b hb => Same.ne g.hh (r.al b hb)
  new := fun b e n => g.new b (r.new b e n) (r.there n)
  pre := r.pre
  nd := r.nd
  len := r.len
  cel := fun i p c h1 h2 => by
    obtain ⟨n, l, ok⟩ := r.cel i p c h1 h2
    exact ⟨Same.ne g.hh n, fun q => g.new p (l q) n, ok.mono (Ext.refl _) g.ff (fun o e => g.hh _ _ e) fun q _ o e => g.hh _ _ e⟩
  sln := r.sln
  slt := fun k x h => by
    obtain ⟨v, h1, h2⟩ := r.slt k x h
    exact ⟨v, h1, h2.mono (Ext.refl _) g.ff⟩
  inn := r.inn.gr g
theorem Rl.mem (r : Rl B ad F H a σ) (h : p ∈ ad) : H p ≠ none := by
  obtain ⟨i, hi⟩ := List.mem_iff_getElem?.mp h
  have : i < a.cs.length := by rw [← r.len]; exact (List.getElem?_eq_some_iff.mp hi).1
  exact (r.cel i p _ hi (List.getElem?_eq_getElem this)).1
theorem Rl.fresh (r : Rl B ad F H a σ) (h : H p = none) : B.H0 p = none ∧ p ∉ B.S ∧ p ∉ ad := by
  have h1 : p ∉ B.S := fun z => r.al p (.inl z) h
  have h2 : p ∉ B.T := fun z => r.al p (.inr z) h
  refine ⟨?_, h1, fun z => r.mem z h⟩
  cases e : B.H0 p with
  | none => rfl
  | some o => rw [r.hh p o h1 h2 e] at h; cases h
theorem Rl.offT (r : Rl B ad F H a σ) (h : H p = none) : p ∉ B.T := fun z => r.al p (.inr z) h
theorem Rl.offI {q : Addr} (r : Rl B ad F H a σ) (h : H p = none) (hq : q ∈ a.cs.flatMap Cell.ads) : q ≠ p := fun z => (r.inn.fr q hq).2 (z ▸ h)
theorem flat_snoc {cs : List Cell} {c : Cell} (h : c.ads = []) : (cs ++ [c]).flatMap Cell.ads = cs.flatMap Cell.ads := by simp [h]
theorem Inn.push {cs : List Cell} (r : Inn B ad F H cs) (hp : H p = none) (hl : ad.length = cs.length) (hc : c.ads = []) : Inn B (ad ++ [p]) F (upd H p o) (cs ++ [c]) := by
  refine ⟨by rw [flat_snoc hc]; exact r.nd, fun q hq i hi => ?_, fun q hq => ?_, fun q hq => r.own q (by rw [flat_snoc hc] at hq; exact hq), r.old⟩
  · rw [flat_snoc hc] at hq
    have hqp : q ≠ p := fun z => (r.fr q hq).2 (z ▸ hp)
    by_cases hi2 : i < ad.length
    · rw [List.getElem?_append_left hi2] at hi
      rw [List.getElem?_append_left (by omega)]
      exact r.off q hq i hi
    · rw [List.getElem?_append_right (by omega)] at hi
      have : q = p := by
        have := List.mem_of_getElem? hi
        simpa using this
      exact absurd this hqp
  · rw [flat_snoc hc] at hq
    have hqp : q ≠ p := fun z => (r.fr q hq).2 (z ▸ hp)
    exact ⟨(r.fr q hq).1, by rw [upd_ne hqp]; exact (r.fr q hq).2⟩
theorem mem_set {α : Type} {l : List α} {i : Nat} {x y : α} (h : y ∈ l.set i x) : y = x ∨ ∃ j, j ≠ i ∧ l[j]? = some y := by
  obtain ⟨j, hj⟩ := List.mem_iff_getElem?.mp h
  by_cases e : j = i
  · subst e
    have hl : j < l.length := by
      have := (List.getElem?_eq_some_iff.mp hj).1
      simpa using this
    rw [List.getElem?_set_self hl] at hj
    exact .inl (Option.some.inj hj).symm
  · rw [List.getElem?_set_ne (fun z => e z.symm)] at hj
    exact .inr ⟨j, e, hj⟩
theorem flat_set {cs : List Cell} {i : Nat} {c : Cell} (h : c.ads = []) : ((cs.set i c).flatMap Cell.ads).Sublist (cs.flatMap Cell.ads) := by
  induction cs generalizing i with
  | nil => simp
  | cons d cs ih =>
    cases i with
    | zero => simp [h]
    | succ i => simp only [List.set_cons_succ, List.flatMap_cons]; exact List.Sublist.append (List.Sublist.refl _) ih
theorem Inn.set {cs : List Cell} {H2 : Hp} {c0 : Cell} (r : Inn B ad F H cs) (hi : ad[i]? = some p) (h0 : cs[i]? = some c0) (hl : c0.live = true) (hc : c.ads = []) (hF : ∀ q, q ≠ p → F q = none → F2 q = none) (hH : ∀ q, q ≠ p → H q ≠ none → H2 q ≠ none) : Inn B ad F2 H2 (cs.set i c) := by
  have sub : ∀ q, q ∈ (cs.set i c).flatMap Cell.ads → q ∈ cs.flatMap Cell.ads := fun q hq => (flat_set hc).subset hq
  have ne : ∀ q, q ∈ (cs.set i c).flatMap Cell.ads → q ≠ p := fun q hq z => by
    subst z
    rcases r.off q (sub q hq) i hi with e | ⟨t, e, _⟩
    · rw [h0] at e; cases e; cases hl
    · rw [h0] at e; cases e; cases hl
  refine ⟨r.nd.sublist (flat_set hc), fun q hq j hj => ?_, fun q hq => ⟨hF q (ne q hq) (r.fr q (sub q hq)).1, hH q (ne q hq) (r.fr q (sub q hq)).2⟩, fun q hq => r.own q (sub q hq), r.old⟩
  have hji : j ≠ i := fun z => by
    subst z
    rw [hi] at hj
    exact ne q hq (Option.some.inj hj).symm
  rw [List.getElem?_set_ne (fun z => hji z.symm)]
  exact r.off q (sub q hq) j hj
theorem live_ads {c : Cell} (h : c.live = true) : c.ads = [] := by
  cases c with
  | tr t => cases h
  | _ => rfl
theorem Rl.push (r : Rl B ad F H a σ) (h : H p = none) (hc : COk (ad ++ [p]) F (upd H p o) p c) (hcl : c.live = true := by first | assumption | rfl) : Rl B (ad ++ [p]) F (upd H p o) ⟨a.sl, a.cs ++ [c]⟩ σ := by
  obtain ⟨f1, f2, f3⟩ := r.fresh h
  have up : ∀ b, b ≠ p → upd H p o b = H b := fun b hb => upd_ne hb
  refine ⟨r.ff, same_mut r.fh (r.fh.free h), fun b u hb ht e => ?_, fun b hb => ?_, r.new, ?_, ?_, by simp [r.len], ?_, r.sln, fun k x hx => ?_, r.inn.push h r.len (live_ads hcl)⟩
  · rw [up b (ne_of_none e f1)]; exact r.hh b u hb ht e
  · rw [up b (fun z => r.al b hb (z ▸ h))]; exact r.al b hb
  · obtain ⟨ad', rfl, h1⟩ := r.pre
    refine ⟨ad' ++ [p], by simp, fun b hb => ?_⟩
    rcases List.mem_append.mp hb with hb | hb
    · exact h1 b hb
    · rw [List.mem_singleton] at hb; subst hb; exact f1
  · rw [List.nodup_append]
    exact ⟨r.nd, List.nodup_cons.mpr ⟨(fun z => nomatch z), List.nodup_nil⟩, fun b hb q hq e => by
      rw [List.mem_singleton] at hq; subst hq; subst e; exact f3 hb⟩
  · intro i q c' h1 h2
    by_cases hi : i < ad.length
    · rw [List.getElem?_append_left hi] at h1
      rw [List.getElem?_append_left (by have := r.len; omega)] at h2
      obtain ⟨n, l, ok⟩ := r.cel i q c' h1 h2
      have hq : q ≠ p := fun z => by subst z; exact n h
      exact ⟨by rw [up q hq]; exact n, l, ok.mono ⟨[p], rfl⟩ (Same.refl _) (fun o' e => by rw [up q hq]; exact e) fun q' hq' o' e => by rw [up q' (r.offI h (mem_ads h2 hq'))]; exact e⟩
    · have hi2 : i = ad.length := by
        have := (List.getElem?_eq_some_iff.mp h1).1
        simp at this; omega
      subst hi2
      rw [List.getElem?_append_right (Nat.le_refl _)] at h1
      rw [List.getElem?_append_right (by have := r.len; omega)] at h2
      have e1 : p = q := by simpa using h1
      have e2 : c = c' := by simpa [r.len] using h2
      subst e1; subst e2
      exact ⟨ne_none upd_same, fun _ => r.fh.free h, hc⟩
  · obtain ⟨v, h1, h2⟩ := r.slt k x hx
    exact ⟨v, h1, h2.mono ⟨[p], rfl⟩ (Same.refl _)⟩
theorem nodup_get {l : List Addr} (nd : l.Nodup) {i j : Nat} {p : Addr} (h1 : l[i]? = some p) (h2 : l[j]? = some p) : i = j := by
  exact (List.getElem?_inj (List.getElem?_eq_some_iff.mp h1).1 nd).mp (h1.trans h2.symm)
/-- a cell of our own changes -/
theorem Rl.put {c0 : Cell} (r : Rl B ad F H a σ) (hi : ad[i]? = some p) (h0 : a.cs[i]? = some c0) (hl : c0.live = true) (hc : COk ad F (upd H p o) p c) (hcl : c.ads = [] := by rfl) : Rl B ad F (upd H p o) ⟨a.sl, a.cs.set i c⟩ σ := by
  obtain ⟨n0, l0, ok0⟩ := r.cel i p c0 hi h0
  have hF := l0 hl
  have up : ∀ b, b ≠ p → upd H p o b = H b := fun b hb => upd_ne hb
  have offp : ∀ q, q ∈ a.cs.flatMap Cell.ads → q ≠ p := fun q hq z => by
    subst z
    rcases r.inn.off q hq i hi with e | ⟨t, e, _⟩
    · rw [h0] at e; cases e; cases hl
    · rw [h0] at e; cases e; cases hl
  refine ⟨r.ff, same_mut r.fh hF, fun b u hb ht e => ?_, fun b hb => ?_, r.new, r.pre, r.nd, by simp [r.len], ?_, r.sln, r.slt, r.inn.set hi h0 hl hcl (fun q _ h => h) fun q hq h => by rw [up q hq]; exact h⟩
  · have : b ≠ p := fun z => by
      subst z
      obtain ⟨ad', rfl, h1⟩ := r.pre
      rcases List.mem_append.mp (List.mem_of_getElem? hi) with h | h
      · exact hb h
      · rw [h1 b h] at e; cases e
    rw [up b this]; exact r.hh b u hb ht e
  · by_cases z : b = p
    · subst z; exact ne_none upd_same
    · rw [up b z]; exact r.al b hb
  · intro j q c' h1 h2
    by_cases hij : j = i
    · subst hij
      have e1 : p = q := by rw [hi] at h1; simpa using h1
      subst e1
      have hlt := (List.getElem?_eq_some_iff.mp h0).1
      have e2 : c = c' := by
        rw [List.getElem?_set_self hlt] at h2; simpa using h2
      subst e2
      exact ⟨ne_none upd_same, fun _ => hF, hc⟩
    · rw [List.getElem?_set_ne (fun z => hij z.symm)] at h2
      obtain ⟨n, l, ok⟩ := r.cel j q c' h1 h2
      have hq : q ≠ p := fun z => by subst z; exact hij (nodup_get r.nd h1 hi)
      exact ⟨by rw [up q hq]; exact n, l, ok.mono (Ext.refl _) (Same.refl _) (fun o' e => by rw [up q hq]; exact e) fun q' hq' o' e => by rw [up q' (offp q' (mem_ads h2 hq'))]; exact e⟩
/-- a cell of our own is told for good -/
theorem Rl.freeze {c0 : Cell} {y : PyData} (r : Rl B ad F H a σ) (hi : ad[i]? = some p) (h0 : a.cs[i]? = some c0) (hl : c0.live = true) (hn : B.S.length ≤ i) (ho : H p = some o) (hd : Da (upd F p o) y (.ref p)) : Rl B ad (upd F p o) H ⟨a.sl, a.cs.set i (.fz y)⟩ σ := by
  obtain ⟨n0, l0, ok0⟩ := r.cel i p c0 hi h0
  have hF := l0 hl
  have sF : Same F (upd F p o) := same_upd hF
  have hp0 : B.H0 p = none := by
    obtain ⟨ad', e, h1⟩ := r.pre
    rw [e, List.getElem?_append_right hn] at hi
    exact h1 p (List.mem_of_getElem? hi)
  refine ⟨r.ff.trans sF, Same.cell r.fh ho, r.hh, r.al, fun b e n => ?_, r.pre, r.nd, by simp [r.len], ?_, r.sln, fun k x hx => ?_, r.inn.set hi h0 hl rfl (fun q hq h => by rw [upd_ne hq]; exact h) fun q hq h => h⟩
  · have : b ≠ p := fun z => by subst z; exact n hp0
    rw [upd_ne this]; exact r.new b e n
  · intro j q c' h1 h2
    by_cases hij : j = i
    · subst hij
      have e1 : p = q := by rw [hi] at h1; simpa using h1
      subst e1
      have hlt := (List.getElem?_eq_some_iff.mp h0).1
      have e2 : Cell.fz y = c' := by
        rw [List.getElem?_set_self hlt] at h2; simpa using h2
      subst e2
      exact ⟨n0, (fun z => Bool.noConfusion z), hd⟩
    · rw [List.getElem?_set_ne (fun z => hij z.symm)] at h2
      obtain ⟨n, l, ok⟩ := r.cel j q c' h1 h2
      have hq : q ≠ p := fun z => by subst z; exact hij (nodup_get r.nd h1 hi)
      exact ⟨n, fun z => by rw [upd_ne hq]; exact l z, ok.mono (Ext.refl _) sF (fun o' e => e) fun _ _ o' e => e⟩
  · obtain ⟨v, h1, h2⟩ := r.slt k x hx
    exact ⟨v, h1, h2.mono (Ext.refl _) sF⟩
theorem Rl.set (r : Rl B ad F H a σ) (h : VOk ad F x v) : Rl B ad F H ⟨a.sl.set k (some x), a.cs⟩ (σ.set k (some v)) := by
  refine ⟨r.ff, r.fh, r.hh, r.al, r.new, r.pre, r.nd, r.len, r.cel, by simp [r.sln], fun j y hy => ?_, r.inn⟩
  by_cases hj : j = k
  · subst hj
    have hlt : j < a.sl.length := by
      have := (List.getElem?_eq_some_iff.mp hy).1
      simpa using this
    have e : x = y := by
      rw [List.getElem?_set_self hlt] at hy; simpa using hy
    subst e
    exact ⟨v, List.getElem?_set_self (by rw [← r.sln]; exact hlt), h⟩
  · have hy' : a.sl[j]? = some (some y) := by
      have : (a.sl.set k (some x))[j]? = a.sl[j]? := List.getElem?_set_ne (fun z => hj z.symm)
      rw [← this]; exact hy
    obtain ⟨w, h1, h2⟩ := r.slt j y hy'
    exact ⟨w, by rw [List.getElem?_set_ne (fun z => hj z.symm)]; exact h1, h2⟩
/-- fewer slots are spoken of -/
theorem Rl.slots {sl : List (Option AVal)} (r : Rl B ad F H a σ) (hl : sl.length = a.sl.length) (h : ∀ (k : Nat) x, sl[k]? = some (some x) → a.sl[k]? = some (some x)) : Rl B ad F H ⟨sl, a.cs⟩ σ :=
  ⟨r.ff, r.fh, r.hh, r.al, r.new, r.pre, r.nd, r.len, r.cel, hl.trans r.sln, fun k x hx => r.slt k x (h k x hx), r.inn⟩
end
end Kr

/-! layer A2 -/
namespace Kr
open PySem L2
/-! ## judgements over abstract states -/
abbrev VQ := AVal → AS → Prop
abbrev TEA := AS → VQ → Prop
abbrev TTA := AS → (Bool → AS → Prop) → Prop
abbrev TLA := AS → (List AVal → AS → Prop) → Prop
abbrev TNA := AS → (Cell → AS → Prop) → Prop
abbrev TGA := AVal → AS → (AS → Prop) → Prop
structure DA where
  nx : AS → Prop
  rt : AVal → AS → Prop
  bk : AS → Prop
  ct : AS → Prop
abbrev TSA := DA → AS → Prop
def Post (B : Bs) (ad : List Addr) (F : Hp) (σ : St) (Q : VQ) : VK := fun v H2 => ∃ ad2 F2 x a2, Ext ad ad2 ∧ Same F F2 ∧ Rl B ad2 F2 H2 a2 σ ∧ VOk ad2 F2 x v ∧ Q x a2
def PostT (B : Bs) (ad : List Addr) (F : Hp) (σ : St) (Q : Bool → AS → Prop) : Bool → Hp → Prop := fun b H2 => ∃ ad2 F2 a2, Ext ad ad2 ∧ Same F F2 ∧ Rl B ad2 F2 H2 a2 σ ∧ Q b a2
def PostL (B : Bs) (ad : List Addr) (F : Hp) (σ : St) (n : Nat) (Q : List AVal → AS → Prop) : List V → Hp → Prop := fun vs H2 => ∃ ad2 F2 xs a2, Ext ad ad2 ∧ Same F F2 ∧ Rl B ad2 F2 H2 a2 σ ∧ Paired (VOk ad2 F2) xs vs ∧ xs.length = n ∧ Q xs a2
/-- a new cell -/
def PostN (B : Bs) (ad : List Addr) (F : Hp) (σ : St) (Q : Cell → AS → Prop) : VK := fun v H2 => ∃ ad2 F2 c a2 p H1 o, Ext ad ad2 ∧ Same F F2 ∧ Rl B ad2 F2 H1 a2 σ ∧ v = .ref p ∧ H1 p = none ∧ H2 = upd H1 p o ∧ COk ad2 F2 H2 p c ∧ c.live = true ∧ Q c a2
structure EA (X : Cx) (B : Bs) (e : Expr) (t : TEA) : Prop where
  run : ∀ ad F H s σ Q, Rl B ad F H s σ → t s Q → WE X e σ H (Post B ad F σ Q)
structure EN (X : Cx) (B : Bs) (e : Expr) (t : TNA) : Prop where
  run : ∀ ad F H s σ Q, Rl B ad F H s σ → t s Q → WE X e σ H (PostN B ad F σ Q)
structure ET (X : Cx) (B : Bs) (e : Expr) (t : TTA) : Prop where
  run : ∀ ad F H s σ Q, Rl B ad F H s σ → t s Q → WT X e σ H (PostT B ad F σ Q)
structure EW (X : Cx) (B : Bs) (e : Expr) (t : TTA) : Prop where
  run : ∀ ad F H s σ Q, Rl B ad F H s σ → t s Q → WW X e σ H (PostT B ad F σ Q)
structure EL (X : Cx) (B : Bs) (es : List Expr) (t : TLA) : Prop where
  run : ∀ ad F H s σ Q, Rl B ad F H s σ → t s Q → WA X es σ H (PostL B ad F σ es.length Q)
def liftD (B : Bs) (D : DA) : Ends where
  nx := fun σ H => ∃ ad F s, Rl B ad F H s σ ∧ D.nx s
  rt := fun v H => ∃ ad F x s σ, Rl B ad F H s σ ∧ VOk ad F x v ∧ D.rt x s
  bk := fun σ H => ∃ ad F s, Rl B ad F H s σ ∧ D.bk s
  ct := fun σ H => ∃ ad F s, Rl B ad F H s σ ∧ D.ct s
structure SA (X : Cx) (B : Bs) (st : Stmt) (t : TSA) : Prop where
  run : ∀ D s, t D s → ∀ ad F H σ, Rl B ad F H s σ → WS X st (liftD B D) σ H
structure SS (X : Cx) (B : Bs) (st : List Stmt) (t : TSA) : Prop where
  run : ∀ D s, t D s → ∀ ad F H σ, Rl B ad F H s σ → WSs X st (liftD B D) σ H
structure GA (X : Cx) (B : Bs) (tg : Expr) (t : TGA) : Prop where
  run : ∀ ad F H s σ x v Q, Rl B ad F H s σ → VOk ad F x v → t x s Q → WG X tg v σ H fun σ2 H2 => ∃ ad2 F2 s2, Rl B ad2 F2 H2 s2 σ2 ∧ Ext ad ad2 ∧ Same F F2 ∧ Q s2
def onSome {α : Type} (o : Option α) (k : α → Prop) : Prop := ∃ v, o = some v ∧ k v
theorem onSome_some {α : Type} {v : α} {k : α → Prop} : onSome (some v) k = k v := propext ⟨fun ⟨_, e, h⟩ => by cases e; exact h, fun h => ⟨v, rfl, h⟩⟩
def AVal.int? : AVal → Option Int | .d (.int i) => some i | _ => none
def AVal.str? : AVal → Option Str | .d (.str i) => some i | _ => none
def AVal.bool? : AVal → Option Bool | .d (.bool i) => some i | _ => none
theorem AVal.int?_of {x : AVal} {i : Int} (h : x.int? = some i) : x = .d (.int i) := by
  unfold AVal.int? at h; split at h
  · cases h; rfl
  · cases h
theorem AVal.str?_of {x : AVal} {i : Str} (h : x.str? = some i) : x = .d (.str i) := by
  unfold AVal.str? at h; split at h
  · cases h; rfl
  · cases h
theorem AVal.bool?_of {x : AVal} {i : Bool} (h : x.bool? = some i) : x = .d (.bool i) := by
  unfold AVal.bool? at h; split at h
  · cases h; rfl
  · cases h
theorem AVal.int?_int {i : Int} : (AVal.d (.int i)).int? = some i := rfl
theorem AVal.str?_str {i : Str} : (AVal.d (.str i)).str? = some i := rfl
theorem AVal.bool?_bool {i : Bool} : (AVal.d (.bool i)).bool? = some i := rfl
/-! ### nodes of trees -/
def Tr.at (t : Tr) : List Nat → Option Tr
  | [] => some t
  | i :: p => match t.at p with
    | some (.nd _ _ xs) => xs[i]?
    | _ => none
def leafs : List Tr → Option (List PyData)
  | [] => some []
  | .d x :: xs => (leafs xs).map (x :: ·)
  | .nd _ _ _ :: _ => none
def nodeAt (s : AS) : AVal → Option (Nat × List Nat × Kd × Addr × List Tr)
  | .r n => match s.cs[n]? with
    | some (.tr (.nd k q xs)) => some (n, [], k, q, xs)
    | _ => none
  | .a p n pt => match s.cs[n]? with
    | some (.tr t) => match t.at pt with
      | some (.nd k q xs) => if q = p then some (n, pt, k, q, xs) else none
      | _ => none
    | _ => none
  | _ => none
def leafL : Option (Nat × List Nat × Kd × Addr × List Tr) → Option (List PyData)
  | some (_, _, .lst, _, xs) => leafs xs
  | _ => none
theorem TrAll.get {F H : Hp} : ∀ {ts : List Tr} {vs : List V} {i : Nat} {t : Tr}, TrAll F H ts vs → ts[i]? = some t → ∃ v, vs[i]? = some v ∧ TrOk F H t v
  | [], _, _, _, _, e => by simp at e
  | t0 :: ts, vs, i, t, h, e => by
    obtain ⟨v, r, rfl, h1, h2⟩ := (show ∃ v r, vs = v :: r ∧ TrOk F H t0 v ∧ TrAll F H ts r from h)
    cases i with
    | zero => simp at e; subst e; exact ⟨v, rfl, h1⟩
    | succ i => simpa using TrAll.get h2 (by simpa using e)
theorem TrAll.length {F H : Hp} : ∀ {ts : List Tr} {vs : List V}, TrAll F H ts vs → vs.length = ts.length
  | [], _, h => by obtain rfl := (show _ = [] from h); rfl
  | t :: ts, vs, h => by
    obtain ⟨v, r, rfl, _, h2⟩ := (show ∃ v r, vs = v :: r ∧ TrOk F H t v ∧ TrAll F H ts r from h)
    simp [TrAll.length h2]
theorem TrOk.node {F H : Hp} {k : Kd} {a : Addr} {xs : List Tr} {v : V} (h : TrOk F H (.nd k a xs) v) : v = .ref a ∧ ∃ vs, H a = some (k.ho vs) ∧ k.side H a xs.length ∧ TrAll F H xs vs := h
theorem TrOk.of {F H : Hp} {k : Kd} {a : Addr} {xs : List Tr} {vs : List V} (h1 : H a = some (k.ho vs)) (h2 : k.side H a xs.length) (h3 : TrAll F H xs vs) : TrOk F H (.nd k a xs) (.ref a) := (show V.ref a = .ref a ∧ ∃ vs, H a = some (k.ho vs) ∧ k.side H a xs.length ∧ TrAll F H xs vs from ⟨rfl, vs, h1, h2, h3⟩)
theorem TrOk.at {F H : Hp} {t : Tr} {v : V} (h : TrOk F H t v) : ∀ {pt : List Nat} {u : Tr}, t.at pt = some u → ∃ w, TrOk F H u w
  | [], u, e => by cases e; exact ⟨v, h⟩
  | i :: p, u, e => by
    unfold Tr.at at e
    split at e
    · rename_i k a xs hp
      obtain ⟨w, hw⟩ := TrOk.at h hp
      obtain ⟨_, vs, _, _, h3⟩ := hw.node
      obtain ⟨z, _, hz⟩ := h3.get e
      exact ⟨z, hz⟩
    · cases e
theorem leafs_ok {F H : Hp} : ∀ {ts : List Tr} {vs : List V} {ds : List PyData}, leafs ts = some ds → TrAll F H ts vs → DaAll F ds vs
  | [], _, _, e, h => by cases e; exact h
  | .d x :: ts, vs, ds, e, h => by
    obtain ⟨v, r, rfl, h1, h2⟩ := (show ∃ v r, vs = v :: r ∧ TrOk F H (.d x) v ∧ TrAll F H ts r from h)
    have e' : (leafs ts).map (x :: ·) = some ds := e
    cases hl : leafs ts with
    | none => rw [hl] at e'; cases e'
    | some l => rw [hl] at e'; cases e'; exact daAll_cons h1 (leafs_ok hl h2)
  | .nd _ _ _ :: _, _, _, e, _ => by cases e
theorem leafs_map (ds : List PyData) : leafs (ds.map .d) = some ds := by
  induction ds with
  | nil => rfl
  | cons d ds ih => show (leafs (ds.map .d)).map (d :: ·) = _; rw [ih]; rfl
structure NodeAt (ad : List Addr) (F H : Hp) (s : AS) (v : V) (n : Nat) (pt : List Nat) (k : Kd) (q : Addr) (xs : List Tr) (t : Tr) (p : Addr) (vs : List V) : Prop where
  cell : s.cs[n]? = some (.tr t)
  root : ad[n]? = some p
  here : t.at pt = some (.nd k q xs)
  val : v = .ref q
  ho : H q = some (k.ho vs)
  side : k.side H q xs.length
  kids : TrAll F H xs vs
  tree : TrOk F H t (.ref p)
theorem nodeAt_ok {B : Bs} {ad : List Addr} {F H : Hp} {s : AS} {σ : St} {x : AVal} {v : V} {n : Nat} {pt : List Nat} {k : Kd} {q : Addr} {xs : List Tr} (r : Rl B ad F H s σ) (h : VOk ad F x v) (e : nodeAt s x = some (n, pt, k, q, xs)) : ∃ t p vs, NodeAt ad F H s v n pt k q xs t p vs := by
  have key : ∀ (m : Nat) (t : Tr) (u : V), s.cs[m]? = some (.tr t) → t.at pt = some (.nd k q xs) → m = n → u = .ref q → ∃ t p vs, NodeAt ad F H s u n pt k q xs t p vs := by
    intro m t u hc ha hm hu
    subst hm
    have hl : m < ad.length := by rw [r.len]; exact (List.getElem?_eq_some_iff.mp hc).1
    have hp : ad[m]? = some ad[m] := List.getElem?_eq_getElem hl
    obtain ⟨_, _, h1, h2⟩ := r.cel m _ _ hp hc
    obtain ⟨w, hw⟩ := h2.at ha
    obtain ⟨_, vs, h4, h5, h6⟩ := hw.node
    exact ⟨t, ad[m], vs, hc, hp, ha, hu, h4, h5, h6, h2⟩
  cases x with
  | d _ => cases e
  | s _ _ => cases e
  | r m =>
    obtain ⟨a, h1, rfl⟩ := h
    simp only [nodeAt] at e
    split at e
    · rename_i k' q' xs' hc
      obtain ⟨_, _, h2, _⟩ := r.cel m _ _ h1 hc
      cases h2
      cases e
      exact key _ _ _ hc rfl rfl rfl
    · cases e
  | a p m pt' =>
    have h : v = .ref p := h
    subst h
    simp only [nodeAt] at e
    split at e
    · rename_i t hc
      split at e
      · rename_i k' q' xs' ha
        split at e
        · rename_i hq
          cases e
          exact key _ t _ hc ha rfl (by rw [hq])
        · cases e
      · cases e
    · cases e
/-- a list to be read, its items told for good -/
def listOf (s : AS) : AVal → Option (List PyData)
  | .d (.list ds) => some ds
  | .r n => match s.cs[n]? with
    | some (.lst ds) => some ds
    | some (.fz (.list ds)) => some ds
    | some (.tr (.nd .lst _ xs)) => leafs xs
    | _ => none
  | .a p n pt => leafL (nodeAt s (.a p n pt))
  | _ => none
theorem leafL_ok {B : Bs} {ad : List Addr} {F H : Hp} {s : AS} {σ : St} {x : AVal} {v : V} {ds : List PyData} (r : Rl B ad F H s σ) (h : VOk ad F x v) (e : leafL (nodeAt s x) = some ds) : ∃ l vs, v = .ref l ∧ H l = some (.lst vs) ∧ DaAll F ds vs := by
  unfold leafL at e
  split at e
  · rename_i n pt q xs hn
    obtain ⟨t, p, vs, N⟩ := nodeAt_ok r h hn
    exact ⟨q, vs, N.val, N.ho, leafs_ok e N.kids⟩
  · cases e
def dictOf (s : AS) : AVal → Option (List (Key × PyData))
  | .r n => match s.cs[n]? with
    | some (.dK ds) => some ds
    | _ => none
  | _ => none
def dictD (kvs : List (Key × PyData)) : PyData := .dict (kvs.map fun p => (keyD p.1, p.2))
def frzC : Cell → Option PyData
  | .lst ds => some (.list ds)
  | .dK kvs => some (dictD kvs)
  | .fz x => some x
  | _ => none
mutual
def Tr.data? : Tr → Option PyData
  | .d x => some x
  | .nd k _ xs => match k with
    | .lst => (Tr.datas? xs).map .list
    | .tup => (Tr.datas? xs).map .tuple
    | .dct ks => (Tr.datas? xs).map fun ds => dictD (ks.zip ds)
    | .obj _ _ _ => none
def Tr.datas? : List Tr → Option (List PyData)
  | [] => some []
  | t :: ts => match t.data?, Tr.datas? ts with
    | some y, some ys => some (y :: ys)
    | _, _ => none
end
def cellD : Cell → Option PyData
  | .tr t => t.data?
  | c => frzC c
def dataOf (s : AS) : AVal → Option PyData
  | .d x => some x
  | .r n => (s.cs[n]?).bind cellD
  | .s _ _ => none
  | .a p n pt => match nodeAt s (.a p n pt) with
    | some (_, _, k, q, xs) => Tr.data? (.nd k q xs)
    | none => none
section
variable {X : Cx} {B : Bs} {ad ad1 : List Addr} {F F1 H H1 : Hp} {σ : St} {Q : VQ} {s : AS} {x y : AVal} {v u : V} {e a b c : Expr} {es : List Expr} {pos : Pos} {ta tb tc : TEA} {tx ty : TTA} {tl : TLA} {tn : TNA}
theorem Post.up (h : Post B ad1 F1 σ Q v H) (e : Ext ad ad1) (k : Same F F1) : Post B ad F σ Q v H := by
  obtain ⟨ad2, F2, x, a2, h1, h2, h3⟩ := h
  exact ⟨ad2, F2, x, a2, e.trans h1, k.trans h2, h3⟩
theorem PostT.up {Q : Bool → AS → Prop} {b : Bool} (h : PostT B ad1 F1 σ Q b H) (e : Ext ad ad1) (k : Same F F1) : PostT B ad F σ Q b H := by
  obtain ⟨ad2, F2, a2, h1, h2, h3⟩ := h
  exact ⟨ad2, F2, a2, e.trans h1, k.trans h2, h3⟩
theorem PostL.up {n : Nat} {Q : List AVal → AS → Prop} {vs : List V} (h : PostL B ad1 F1 σ n Q vs H) (e : Ext ad ad1) (k : Same F F1) : PostL B ad F σ n Q vs H := by
  obtain ⟨ad2, F2, x, a2, h1, h2, h3⟩ := h
  exact ⟨ad2, F2, x, a2, e.trans h1, k.trans h2, h3⟩
theorem PostN.up {Q : Cell → AS → Prop} (h : PostN B ad1 F1 σ Q v H) (e : Ext ad ad1) (k : Same F F1) : PostN B ad F σ Q v H := by
  obtain ⟨ad2, F2, c, a2, p, H1, o, h1, h2, h3⟩ := h
  exact ⟨ad2, F2, c, a2, p, H1, o, e.trans h1, k.trans h2, h3⟩
theorem Post.here (r : Rl B ad F H s σ) (h : VOk ad F x v) (q : Q x s) : Post B ad F σ Q v H := ⟨ad, F, x, s, Ext.refl _, Same.refl _, r, h, q⟩
theorem PostT.here {Q : Bool → AS → Prop} {b : Bool} (r : Rl B ad F H s σ) (q : Q b s) : PostT B ad F σ Q b H := ⟨ad, F, s, Ext.refl _, Same.refl _, r, q⟩
theorem Post.data {d : PyData} (r : Rl B ad F H s σ) (g : Gr F H F1 H1) (h : Da F1 d v) (q : Q (.d d) s) : Post B ad F σ Q v H1 := ⟨ad, F1, .d d, s, Ext.refl _, g.ff, r.gr g, h, q⟩
/-- a new thing that is told for good -/
theorem Post.newD {d : PyData} {p : Addr} {o : HO} (r : Rl B ad F H s σ) (hp : H p = none) (h : Da (upd F p o) d (.ref p)) (q : Q (.d d) s) : Post B ad F σ Q (.ref p) (upd H p o) := Post.data r ((Gr.refl r.fh).shut hp) h q
theorem PostN.here {Q : Cell → AS → Prop} {p : Addr} {o : HO} {c : Cell} (r : Rl B ad F H s σ) (hp : H p = none) (h : COk ad F (upd H p o) p c) (hl : c.live = true) (q : Q c s) : PostN B ad F σ Q (.ref p) (upd H p o) :=
  ⟨ad, F, c, s, p, H, o, Ext.refl _, Same.refl _, r, rfl, hp, rfl, h, hl, q⟩
theorem VOk.list {ds : List PyData} (r : Rl B ad F H s σ) (h : VOk ad F x v) (e : listOf s x = some ds) : ∃ l vs, v = .ref l ∧ H l = some (.lst vs) ∧ DaAll F ds vs := by
  unfold listOf at e
  split at e
  · cases e
    obtain ⟨a, xs, rfl, h1, h2⟩ := h
    exact ⟨a, xs, rfl, r.fh _ _ h1, h2⟩
  · rename_i n
    obtain ⟨a, h1, rfl⟩ := h
    split at e
    · rename_i ds' hc
      cases e
      obtain ⟨_, _, vs, h2, h3⟩ := r.cel n a _ h1 hc
      exact ⟨a, vs, rfl, h2, h3⟩
    · rename_i ds' hc
      cases e
      obtain ⟨_, _, h4⟩ := r.cel n a _ h1 hc
      obtain ⟨a', xs, e', h2, h3⟩ := h4
      cases e'
      exact ⟨a, xs, rfl, r.fh _ _ h2, h3⟩
    · rename_i q xs hc
      obtain ⟨_, _, h2, h3⟩ := r.cel n a _ h1 hc
      cases h2
      obtain ⟨_, vs, h4, _, h5⟩ := h3.node
      exact ⟨_, vs, rfl, h4, leafs_ok e h5⟩
    · cases e
  · exact leafL_ok r h e
  · cases e
theorem daKV_of {F : Hp} : ∀ {kvs : List (Key × PyData)} {es : List (Key × V)}, KvOk F kvs es → DaKV F (kvs.map fun p => (keyD p.1, p.2)) es
  | _, _, .nil => rfl
  | _, _, .cons (a := p) (b := q) h t => by
    refine ⟨q.1, q.2, _, rfl, ?_, h.2, daKV_of t⟩
    rw [h.1]
    cases q.1 <;> rfl
theorem KvOk.mono {F F' : Hp} {kvs : List (Key × PyData)} {es : List (Key × V)} (h : KvOk F kvs es) (k : Same F F') : KvOk F' kvs es := Paired.imp h fun _ _ h => ⟨h.1, h.2.mono k⟩
/-- what a cell holds, told for good -/
theorem COk.frz {p : Addr} {c : Cell} {d : PyData} (h : COk ad F H p c) (hl : c.live = true) (hF : F p = none) (e : frzC c = some d) : ∃ o, H p = some o ∧ Da (upd F p o) d (.ref p) := by
  cases c with
  | lst ds => cases e; obtain ⟨vs, h1, h2⟩ := h; exact ⟨_, h1, p, vs, rfl, upd_same, h2.mono (same_upd hF)⟩
  | dK ds => cases e; obtain ⟨vs, h1, h2⟩ := h; exact ⟨_, h1, p, vs, rfl, .inl upd_same, daKV_of (h2.mono (same_upd hF))⟩
  | fz x => cases hl
  | pool n => cases e
  | gone => cases e
  | nl xs => cases e
  | nt xs => cases e
  | nd xs => cases e
  | dl _ _ _ => cases e
  | tr _ => cases e
/-! ### names and constants -/
def varA (k : Nat) : TEA := fun s Q => onSome (s.sl[k]?.bind id) fun x => Q x s
theorem ea_v (k : Nat) {x : Str} (hN : X.N[k]? = some x := by rfl) (hv : Vis X.env.scope x := by first | exact Or.inl rfl | exact Or.inr (Or.inl rfl) | exact Or.inr (Or.inr rfl)) (hd : (x == ("__debug__" : Str)) = false := by decide)
    (hcd : (x == ("__classdict__" : Str)) = false := by decide) : EA X B (.Name x pos) (varA k) := ⟨fun ad F H s σ Q r t => by
  obtain ⟨y, e, q⟩ := t
  have e' : s.sl[k]? = some (some y) := by
    cases h : s.sl[k]? with
    | none => rw [h] at e; cases e
    | some o => rw [h] at e; cases o with
      | none => cases e
      | some z => cases e; rfl
  obtain ⟨v, h1, h2⟩ := r.slt k y e'
  exact we_of (pe_var hN hv hd hcd) ⟨v, h1, .here r h2 q⟩⟩
def cstA (d : PyData) : TEA := fun s Q => Q (.d d) s
theorem ea_int {i : Int} {k : Nat} : EA X B (.Constant (.int i) k pos) (cstA (.int i)) := ⟨fun ad F H s σ Q r t => we_of pe_int (.here (x := .d (.int i)) r rfl t)⟩
theorem ea_str {i : Str} {k : Nat} : EA X B (.Constant (.str i) k pos) (cstA (.str i)) := ⟨fun ad F H s σ Q r t => we_of pe_str (.here (x := .d (.str i)) r rfl t)⟩
theorem ea_bool {i : Bool} {k : Nat} : EA X B (.Constant (.bool i) k pos) (cstA (.bool i)) := ⟨fun ad F H s σ Q r t => we_of pe_bl (.here (x := .d (.bool i)) r rfl t)⟩
theorem ea_none {k : Nat} : EA X B (.Constant .none k pos) (cstA .none) := ⟨fun ad F H s σ Q r t => we_of pe_non (.here (x := .d .none) r rfl t)⟩
theorem ea_globI {x : Str} {i : Int} (h : Mg X.mg x (.int i)) (hg : Gl X x := by rfl) (hd : (x == ("__debug__" : Str)) = false := by decide) : EA X B (.Name x pos) (cstA (.int i)) := by
  obtain ⟨u, h1, h2⟩ := h
  exact ⟨fun ad F H s σ Q r t => we_of (pe_glob hg h1 h2 hd) (.here (x := .d (.int i)) r rfl t)⟩
theorem ea_globS {x : Str} {i : Str} (h : Mg X.mg x (.str i)) (hg : Gl X x := by rfl) (hd : (x == ("__debug__" : Str)) = false := by decide) : EA X B (.Name x pos) (cstA (.str i)) := by
  obtain ⟨u, h1, h2⟩ := h
  exact ⟨fun ad F H s σ Q r t => we_of (pe_glob hg h1 h2 hd) (.here (x := .d (.str i)) r rfl t)⟩
/-! ### new things -/
def ownA (t : TNA) : TEA := fun s Q => t s fun c s1 => Q (.r s1.cs.length) ⟨s1.sl, s1.cs ++ [c]⟩
def frzA (t : TNA) : TEA := fun s Q => t s fun c s1 => onSome (frzC c) fun d => Q (.d d) s1
theorem ea_own (h : EN X B e tn) : EA X B e (ownA tn) := ⟨fun ad F H s σ Q r t => (h.run ad F H s σ _ r t).imp fun v H2 q => by
  obtain ⟨ad2, F2, c, a2, p, H1, o, h1, h2, r2, rfl, hp, rfl, ok, hl, q⟩ := q
  have r3 := r2.push (o := o) hp (ok.mono (ad2 := ad2 ++ [p]) ⟨[p], rfl⟩ (Same.refl _) (fun _ e => e) fun _ _ _ e => e) hl
  exact ⟨_, F2, .r a2.cs.length, _, h1.trans ⟨[p], rfl⟩, h2, r3, ⟨p, by rw [← r2.len]; simp, rfl⟩, q⟩⟩
theorem ea_frz (h : EN X B e tn) : EA X B e (frzA tn) := ⟨fun ad F H s σ Q r t => (h.run ad F H s σ _ r t).imp fun v H2 q => by
  obtain ⟨ad2, F2, c, a2, p, H1, o, h1, h2, r2, rfl, hp, rfl, ok, hl, d, hd, q⟩ := q
  obtain ⟨o', e1, e2⟩ := ok.frz hl (r2.fh.free hp) hd
  rw [upd_same] at e1
  cases e1
  exact (Post.newD r2 hp e2 q).up h1 h2⟩
/-! ### two operands -/
def rAny (X : Cx) (f : Value → Value → Sem Value) : R2 := fun u v H Q => ∃ r, OpR X f r ∧ r u v H Q
theorem op_any (f : Value → Value → Sem Value) : OpR X f (rAny X f) := fun pins s σ H x y v u Q I rx ry ⟨r, h, q⟩ => h pins s σ H x y v u Q I rx ry q
def OpA (X : Cx) (B : Bs) (f : Value → Value → Sem Value) (rr : AVal → AVal → TEA) : Prop := ∀ ad F H s σ x y u v Q, Rl B ad F H s σ → VOk ad F x u → VOk ad F y v → rr x y s Q → ∃ r, OpR X f r ∧ r u v H (Post B ad F σ Q)
def OpN (X : Cx) (B : Bs) (f : Value → Value → Sem Value) (rr : AVal → AVal → TNA) : Prop := ∀ ad F H s σ x y u v Q, Rl B ad F H s σ → VOk ad F x u → VOk ad F y v → rr x y s Q → ∃ r, OpR X f r ∧ r u v H (PostN B ad F σ Q)
def opA (rr : AVal → AVal → TEA) (ta tb : TEA) : TEA := fun s Q => ta s fun x s1 => tb s1 fun y s2 => rr x y s2 Q
def opN (rr : AVal → AVal → TNA) (ta tb : TEA) : TNA := fun s Q => ta s fun x s1 => tb s1 fun y s2 => rr x y s2 Q
theorem we2 {R : V → V → Hp → Prop} {K : VK} {ad : List Addr} {F H : Hp} {s : AS} {Q2 : AVal → AVal → AS → Prop} (ha : EA X B a ta) (hb : EA X B b tb) (r : Rl B ad F H s σ) (t : ta s fun x s1 => tb s1 fun y s2 => Q2 x y s2)
    (k : ∀ ad2 F2 H2 s2 x y u v, Ext ad ad2 → Same F F2 → Rl B ad2 F2 H2 s2 σ → VOk ad2 F2 x u → VOk ad2 F2 y v → Q2 x y s2 → R u v H2) : WE X a σ H fun u H1 => WE X b σ H1 fun v H2 => R u v H2 :=
  (ha.run ad F H s σ _ r t).imp fun u H1 q => by
    obtain ⟨ad1, F1, x, s1, e1, k1, r1, v1, t1⟩ := q
    refine (hb.run ad1 F1 H1 s1 σ _ r1 t1).imp fun v H2 q => ?_
    obtain ⟨ad2, F2, y, s2, e2, k2, r2, v2, t2⟩ := q
    exact k ad2 F2 H2 s2 x y u v (e1.trans e2) (k1.trans k2) r2 (v1.mono e2 k2) v2 t2
theorem ea_op {op : Operator} {rr : AVal → AVal → TEA} (ho : OpA X B (binaryOp op) rr) (ha : EA X B a ta) (hb : EA X B b tb) : EA X B (.BinOp a op b pos) (opA rr ta tb) := ⟨fun ad F H s σ Q r t =>
  we_of (pe_op (op_any _) pe_we pe_we) (we2 (R := fun u v H2 => rAny X (binaryOp op) u v H2 (Post B ad F σ Q)) (K := Post B ad F σ Q) ha hb r t fun ad2 F2 H2 s2 x y u v e k r2 hu hv t2 => by
    obtain ⟨q, h1, h2⟩ := ho ad2 F2 H2 s2 σ x y u v Q r2 hu hv t2
    exact ⟨fun u v H K => ∃ K', (∀ w H', K' w H' → K w H') ∧ q u v H K', fun pins s σ H x y v u Q I rx ry ⟨K', k1, k2⟩ => thn (h1 pins s σ H x y v u K' I rx ry k2) fun z s' ⟨w, H', I', rz, qz⟩ => ⟨w, H', I', rz, k1 w H' qz⟩, _, fun w H' p => Post.up p e k, h2⟩)⟩
theorem en_op {op : Operator} {rr : AVal → AVal → TNA} (ho : OpN X B (binaryOp op) rr) (ha : EA X B a ta) (hb : EA X B b tb) : EN X B (.BinOp a op b pos) (opN rr ta tb) := ⟨fun ad F H s σ Q r t =>
  we_of (pe_op (op_any _) pe_we pe_we) (we2 (R := fun u v H2 => rAny X (binaryOp op) u v H2 (PostN B ad F σ Q)) (K := PostN B ad F σ Q) ha hb r t fun ad2 F2 H2 s2 x y u v e k r2 hu hv t2 => by
    obtain ⟨q, h1, h2⟩ := ho ad2 F2 H2 s2 σ x y u v Q r2 hu hv t2
    exact ⟨fun u v H K => ∃ K', (∀ w H', K' w H' → K w H') ∧ q u v H K', fun pins s σ H x y v u Q I rx ry ⟨K', k1, k2⟩ => thn (h1 pins s σ H x y v u K' I rx ry k2) fun z s' ⟨w, H', I', rz, qz⟩ => ⟨w, H', I', rz, k1 w H' qz⟩, _, fun w H' p => PostN.up p e k, h2⟩)⟩
/-! ### comparisons: told is a truth -/
def opT (rr : AVal → AVal → TTA) (ta tb : TEA) : TTA := fun s Q => ta s fun x s1 => tb s1 fun y s2 => rr x y s2 Q
def OpT (X : Cx) (B : Bs) (f : Value → Value → Sem Value) (rr : AVal → AVal → TTA) : Prop := ∀ ad F H s σ x y u v (Q : Bool → AS → Prop), Rl B ad F H s σ → VOk ad F x u → VOk ad F y v → rr x y s Q → ∃ b r, Q b s ∧ OpR X f r ∧ ∀ K : VK, K (.bl b) H → r u v H K
def boolA (t : TTA) : TEA := fun s Q => t s fun b s1 => Q (.d (.bool b)) s1
theorem et_cmp {op : CmpOp} {rr : AVal → AVal → TTA} (ho : OpT X B (compareOp op) rr) (ha : EA X B a ta) (hb : EA X B b tb) (hm : behindInMarks op b = false := by first | exact nomark _ | rfl) : ET X B (.Compare a [op] [b] pos) (opT rr ta tb) := ⟨fun ad F H s σ Q r t =>
  wt_of (pt_cmpR (op_any _) pe_we pe_we hm) (we2 (R := fun u v H2 => rAny X (compareOp op) u v H2 fun x H' => ∃ k, x = .bl k ∧ PostT B ad F σ Q k H') (K := fun _ _ => True) ha hb r t fun ad2 F2 H2 s2 x y u v e k r2 hu hv t2 => by
    obtain ⟨b, q, h0, h1, h2⟩ := ho ad2 F2 H2 s2 σ x y u v Q r2 hu hv t2
    exact ⟨q, h1, h2 _ ⟨b, rfl, (PostT.here r2 h0).up e k⟩⟩)⟩
theorem ea_cmp {op : CmpOp} {rr : AVal → AVal → TTA} (ho : OpT X B (compareOp op) rr) (ha : EA X B a ta) (hb : EA X B b tb) (hm : behindInMarks op b = false := by first | exact nomark _ | rfl) : EA X B (.Compare a [op] [b] pos) (boolA (opT rr ta tb)) := ⟨fun ad F H s σ Q r t =>
  we_of (pe_cmpR (op_any _) pe_we pe_we hm) (we2 (R := fun u v H2 => rAny X (compareOp op) u v H2 (Post B ad F σ Q)) (K := fun _ _ => True) ha hb r t fun ad2 F2 H2 s2 x y u v e k r2 hu hv t2 => by
    obtain ⟨b, q, h0, h1, h2⟩ := ho ad2 F2 H2 s2 σ x y u v _ r2 hu hv t2
    exact ⟨q, h1, h2 _ ((Post.here (x := .d (.bool b)) r2 rfl h0).up e k)⟩)⟩
/-! ### truth -/
def valA (t : TEA) : TTA := fun s Q => t s fun x s1 => onSome x.bool? fun b => Q b s1
theorem et_val (h : EA X B e ta) (he : ∀ whole, isTrue e X.env whole = (do let v ← whole; standAt e.pos; holding [v] (truthy v)) := by intro _; rfl) : ET X B e (valA ta) := ⟨fun ad F H s σ Q r t =>
  wt_of (pt_val pe_we he) ((h.run ad F H s σ _ r t).imp fun v H2 q => by
    obtain ⟨ad2, F2, x, a2, h1, h2, r2, hv, b, hb, q⟩ := q
    have := AVal.bool?_of hb
    subst this
    exact ⟨b, hv, ad2, F2, a2, h1, h2, r2, q⟩)⟩
theorem ET.of_w (h : EW X B e tx) : ET X B e tx := ⟨fun ad F H s σ Q r t => wt_of (PW.pt pw_ww) (h.run ad F H s σ Q r t)⟩
def notA (t : TTA) : TTA := fun s Q => t s fun b s1 => Q (!b) s1
theorem et_not (h : ET X B a tx) : ET X B (.UnaryOp .Not a pos) (notA tx) := ⟨fun ad F H s σ Q r t => wt_of (pt_not pt_wt) (h.run ad F H s σ _ r t)⟩
def andA (t u : TTA) : TTA := fun s Q => t s fun b s1 => if b = true then u s1 Q else Q false s1
def orA (t u : TTA) : TTA := fun s Q => t s fun b s1 => if b = true then Q true s1 else u s1 Q
theorem ew_and1 (h : ET X B a tx) : EW X B (.BoolOp .And [a] pos) tx := ⟨fun ad F H s σ Q r t => ww_of (pw_and1 pt_wt) (h.run ad F H s σ Q r t)⟩
theorem ew_or1 (h : ET X B a tx) : EW X B (.BoolOp .Or [a] pos) tx := ⟨fun ad F H s σ Q r t => ww_of (pw_or1 pt_wt) (h.run ad F H s σ Q r t)⟩
theorem ew_and (h : ET X B a tx) (h2 : EW X B (.BoolOp .And (b :: es) pos) ty) : EW X B (.BoolOp .And (a :: b :: es) pos) (andA tx ty) := ⟨fun ad F H s σ Q r t => ww_of (pw_and pt_wt pw_ww) ((h.run ad F H s σ _ r t).imp fun c H1 q => by
  obtain ⟨ad1, F1, s1, e1, k1, r1, q⟩ := q
  cases c with
  | true =>
    refine iteT ?_
    rw [if_pos rfl] at q
    intro whole pins s' I
    exact thn (h2.run ad1 F1 H1 s1 σ Q r1 q whole pins s' I) fun z s2 ⟨H', I', p⟩ => ⟨H', I', p.up e1 k1⟩
  | false => exact iteF ⟨ad1, F1, s1, e1, k1, r1, q⟩)⟩
theorem ew_or (h : ET X B a tx) (h2 : EW X B (.BoolOp .Or (b :: es) pos) ty) : EW X B (.BoolOp .Or (a :: b :: es) pos) (orA tx ty) := ⟨fun ad F H s σ Q r t => ww_of (pw_or pt_wt pw_ww) ((h.run ad F H s σ _ r t).imp fun c H1 q => by
  obtain ⟨ad1, F1, s1, e1, k1, r1, q⟩ := q
  cases c with
  | true => exact iteT ⟨ad1, F1, s1, e1, k1, r1, q⟩
  | false =>
    refine iteF ?_
    intro whole pins s' I
    exact thn (h2.run ad1 F1 H1 s1 σ Q r1 q whole pins s' I) fun z s2 ⟨H', I', p⟩ => ⟨H', I', p.up e1 k1⟩)⟩
/-- and, or, not as values -/
def andV (t u : TEA) : TEA := fun s Q => t s fun x s1 => onSome x.bool? fun b => if b = true then u s1 Q else Q (.d (.bool false)) s1
def orV (t u : TEA) : TEA := fun s Q => t s fun x s1 => onSome x.bool? fun b => if b = true then Q (.d (.bool true)) s1 else u s1 Q
def notV (t : TEA) : TEA := fun s Q => t s fun x s1 => onSome x.bool? fun b => Q (.d (.bool (!b))) s1
theorem ea_one {op} (h : EA X B a ta) : EA X B (.BoolOp op [a] pos) ta := ⟨fun ad F H s σ Q r t => we_of (pe_one pe_we) (h.run ad F H s σ Q r t)⟩
theorem ea_and (h : EA X B a ta) (h2 : EA X B (.BoolOp .And (b :: es) pos) tb) : EA X B (.BoolOp .And (a :: b :: es) pos) (andV ta tb) := ⟨fun ad F H s σ Q r t => we_of (pe_and pe_we pe_we) ((h.run ad F H s σ _ r t).imp fun v H1 q => by
  obtain ⟨ad1, F1, x, s1, e1, k1, r1, hv, c, hc, q⟩ := q
  have := AVal.bool?_of hc
  subst this
  refine ⟨c, hv, ?_⟩
  cases c with
  | true =>
    rw [if_pos rfl] at q
    exact iteT ((h2.run ad1 F1 H1 s1 σ Q r1 q).imp fun v H2 p => p.up e1 k1)
  | false => exact iteF ⟨ad1, F1, .d (.bool false), s1, e1, k1, r1, rfl, q⟩)⟩
theorem ea_or (h : EA X B a ta) (h2 : EA X B (.BoolOp .Or (b :: es) pos) tb) : EA X B (.BoolOp .Or (a :: b :: es) pos) (orV ta tb) := ⟨fun ad F H s σ Q r t => we_of (pe_or pe_we pe_we) ((h.run ad F H s σ _ r t).imp fun v H1 q => by
  obtain ⟨ad1, F1, x, s1, e1, k1, r1, hv, c, hc, q⟩ := q
  have := AVal.bool?_of hc
  subst this
  refine ⟨c, hv, ?_⟩
  cases c with
  | true => exact iteT ⟨ad1, F1, .d (.bool true), s1, e1, k1, r1, rfl, q⟩
  | false => exact iteF ((h2.run ad1 F1 H1 s1 σ Q r1 q).imp fun v H2 p => p.up e1 k1))⟩
theorem ea_not (h : EA X B a ta) : EA X B (.UnaryOp .Not a pos) (notV ta) := ⟨fun ad F H s σ Q r t => we_of (pe_not pe_we) ((h.run ad F H s σ _ r t).imp fun v H1 q => by
  obtain ⟨ad1, F1, x, s1, e1, k1, r1, hv, c, hc, q⟩ := q
  have := AVal.bool?_of hc
  subst this
  exact ⟨c, hv, ad1, F1, .d (.bool (!c)), s1, e1, k1, r1, rfl, q⟩)⟩
def ifV (t : TTA) (u w : TEA) : TEA := fun s Q => t s fun b s1 => if b = true then u s1 Q else w s1 Q
theorem ea_ifExp (hc : ET X B c tx) (ha : EA X B a ta) (hb : EA X B b tb) : EA X B (.IfExp c a b pos) (ifV tx ta tb) := ⟨fun ad F H s σ Q r t => we_of (pe_ifExp pt_wt pe_we pe_we) ((hc.run ad F H s σ _ r t).imp fun c H1 q => by
  obtain ⟨ad1, F1, s1, e1, k1, r1, q⟩ := q
  cases c with
  | true =>
    rw [if_pos rfl] at q
    exact iteT ((ha.run ad1 F1 H1 s1 σ Q r1 q).imp fun v H2 p => p.up e1 k1)
  | false => exact iteF ((hb.run ad1 F1 H1 s1 σ Q r1 q).imp fun v H2 p => p.up e1 k1))⟩
/-! ### argument lists, displays -/
def nilL : TLA := fun s Q => Q [] s
def consL (t : TEA) (u : TLA) : TLA := fun s Q => t s fun x s1 => u s1 fun xs s2 => Q (x :: xs) s2
theorem el_nil : EL X B [] nilL := ⟨fun ad F H s σ Q r t => wa_of pa_nil ⟨ad, F, [], s, Ext.refl _, Same.refl _, r, .nil, rfl, t⟩⟩
theorem WA.imp {es : List Expr} {σ : St} {H : Hp} {Q Q' : List V → Hp → Prop} (h : WA X es σ H Q) (q : ∀ v H', Q v H' → Q' v H') : WA X es σ H Q' := fun pos pins s I => thn (h pos pins s I) fun u s' ⟨v, H', I', r, k⟩ => ⟨v, H', I', r, q v H' k⟩
theorem el_cons (h : EA X B e ta) (t : EL X B es tl) (hs : starEach (e :: es) X.env = (false, eval e X.env) :: starEach es X.env := by rfl) : EL X B (e :: es) (consL ta tl) := ⟨fun ad F H s σ Q r t' =>
  wa_of (pa_cons pe_we pa_wa hs) ((h.run ad F H s σ _ r t').imp fun v H1 q => by
    obtain ⟨ad1, F1, x, s1, e1, k1, r1, hv, q⟩ := q
    refine (t.run ad1 F1 H1 s1 σ _ r1 q).imp fun vs H2 q => ?_
    obtain ⟨ad2, F2, xs, s2, e2, k2, r2, hvs, hln, q⟩ := q
    exact ⟨ad2, F2, x :: xs, s2, e1.trans e2, k1.trans k2, r2, .cons (hv.mono e2 k2) hvs, by simp [hln], q⟩)⟩
/-- items that are told for good -/
def datas : List AVal → Option (List PyData)
  | [] => some []
  | .d x :: xs => (datas xs).map (x :: ·)
  | .r _ :: _ => none
  | .s _ _ :: _ => none
  | .a _ _ _ :: _ => none
theorem datas_ok : ∀ {xs : List AVal} {vs : List V} {ds : List PyData}, Paired (VOk ad F) xs vs → datas xs = some ds → DaAll F ds vs
  | [], _, _, .nil, e => by cases e; rfl
  | .d x :: xs, _, ds, .cons h t, e => by
    unfold datas at e
    cases h2 : datas xs with
    | none => rw [h2] at e; cases e
    | some r => rw [h2] at e; cases e; exact daAll_cons h (datas_ok t h2)
  | .r _ :: _, _, _, _, e => by cases e
  | .s _ _ :: _, _, _, _, e => by cases e
  | .a _ _ _ :: _, _, _, _, e => by cases e
theorem datas_map (ds : List PyData) : datas (ds.map .d) = some ds := by
  induction ds with
  | nil => rfl
  | cons d ds ih => show (datas (ds.map .d)).map _ = _; rw [ih]; rfl
def lstN (t : TLA) : TNA := fun s Q => t s fun xs s1 => xs.length ≤ sizeLine ∧ onSome (datas xs) fun ds => Q (.lst ds) s1
theorem Paired.len {α β : Type} {R : α → β → Prop} : ∀ {xs : List α} {ys : List β}, Paired R xs ys → xs.length = ys.length
  | _, _, .nil => rfl
  | _, _, .cons _ t => by simp [Paired.len t]
theorem en_lst (h : EL X B es tl) : EN X B (.List es pos) (lstN tl) := ⟨fun ad F H s σ Q r t => we_of (pe_lst pa_wa) ((h.run ad F H s σ _ r t).imp fun vs H1 q => by
  obtain ⟨ad1, F1, xs, s1, e1, k1, r1, hvs, hln, hz, ds, hds, q⟩ := q
  exact ⟨by rw [← Paired.len hvs]; exact hz, fun p hp => (PostN.here (c := .lst ds) r1 hp ⟨vs, upd_same, datas_ok hvs hds⟩ rfl q).up e1 k1⟩)⟩
/-- .. whose items are cells of our own too -/
def lstR (t : TLA) : TNA := fun s Q => t s fun xs s1 => xs.length ≤ sizeLine ∧ Q (.nl xs) s1
theorem en_lstR (h : EL X B es tl) : EN X B (.List es pos) (lstR tl) := ⟨fun ad F H s σ Q r t => we_of (pe_lst pa_wa) ((h.run ad F H s σ _ r t).imp fun vs H1 q => by
  obtain ⟨ad1, F1, xs, s1, e1, k1, r1, hvs, hln, hz, q⟩ := q
  exact ⟨by rw [← Paired.len hvs]; exact hz, fun p hp => (PostN.here (c := .nl xs) r1 hp ⟨vs, upd_same, hvs⟩ rfl q).up e1 k1⟩)⟩
def tupA (t : TLA) : TEA := fun s Q => t s fun xs s1 => xs.length ≤ sizeLine ∧ onSome (datas xs) fun ds => Q (.d (.tuple ds)) s1
theorem ea_tup {x1} (h : EL X B es tl) : EA X B (.Tuple es x1 pos) (tupA tl) := ⟨fun ad F H s σ Q r t => we_of (pe_tup pa_wa) ((h.run ad F H s σ _ r t).imp fun vs H1 q => by
  obtain ⟨ad1, F1, xs, s1, e1, k1, r1, hvs, hln, hz, ds, hds, q⟩ := q
  refine ⟨by rw [← Paired.len hvs]; exact hz, fun p hp => (Post.newD (d := .tuple ds) r1 hp ⟨p, vs, rfl, upd_same, (datas_ok hvs hds).mono (same_upd (r1.fh.free hp))⟩ q).up e1 k1⟩)⟩
def tupR (t : TLA) : TNA := fun s Q => t s fun xs s1 => xs.length ≤ sizeLine ∧ Q (.nt xs) s1
theorem en_tupR {x1} (h : EL X B es tl) : EN X B (.Tuple es x1 pos) (tupR tl) := ⟨fun ad F H s σ Q r t => we_of (pe_tup pa_wa) ((h.run ad F H s σ _ r t).imp fun vs H1 q => by
  obtain ⟨ad1, F1, xs, s1, e1, k1, r1, hvs, hln, hz, q⟩ := q
  exact ⟨by rw [← Paired.len hvs]; exact hz, fun p hp => (PostN.here (c := .nt xs) r1 hp ⟨vs, upd_same, hvs⟩ rfl q).up e1 k1⟩)⟩
end
end Kr

/-! layer A3 -/
namespace Kr
open PySem L2
section
variable {B : Bs} {ad ad2 : List Addr} {F H F2 H2 : Hp} {s s2 : AS} {σ σ2 : St}
/-! ## another beginning -/
abbrev Bs.at (ad : List Addr) (F H : Hp) (T : List Addr) : Bs := ⟨ad, F, H, T⟩
theorem Rl.base (r : Rl B ad F H s σ) : Rl (Bs.at ad F H (s.cs.flatMap Cell.ads)) ad F H s σ :=
  ⟨Same.refl _, r.fh, fun _ _ _ _ e => e, fun b hb => hb.elim (fun h => r.mem h) (fun h => (r.inn.fr b h).2), fun b e _ => e, ⟨[], by simp [Bs.at], fun b hb => nomatch hb⟩, r.nd, r.len, r.cel, r.sln, r.slt, ⟨r.inn.nd, r.inn.off, r.inn.fr, fun q hq => .inr (.inl hq), fun b hb => (r.inn.fr b hb).2⟩⟩
theorem Rl.inS (r : Rl B ad F H s σ) {b : Addr} (h : b ∈ ad) : b ∈ B.S ∨ B.H0 b = none := by
  obtain ⟨ad', e', h1⟩ := r.pre
  rw [e'] at h
  exact (List.mem_append.mp h).elim .inl fun z => .inr (h1 b z)
theorem Rl.rebase (r : Rl B ad F H s σ) (q : Rl (Bs.at ad F H (s.cs.flatMap Cell.ads)) ad2 F2 H2 s2 σ2) : Rl B ad2 F2 H2 s2 σ2 := by
  refine ⟨r.ff.trans q.ff, q.fh, fun b o hb ht e => ?_, fun b hb => ?_, fun b e n => ?_, ?_, q.nd, q.len, q.cel, q.sln, q.slt, ⟨q.inn.nd, q.inn.off, q.inn.fr, fun x hx => ?_, r.inn.old⟩⟩
  · refine q.hh b o (fun z => ?_) (fun z => ?_) (r.hh b o hb ht e)
    · rcases r.inS z with z | z
      · exact hb z
      · rw [z] at e; cases e
    · rcases r.inn.own b z with z | z | z
      · exact hb z
      · exact ht z
      · rw [z] at e; cases e
  · exact q.there (r.al b hb)
  · exact q.new b (r.new b e n) (r.there n)
  · obtain ⟨ad', e', h1⟩ := r.pre
    obtain ⟨ad3, e3, h3⟩ := q.pre
    refine ⟨ad' ++ ad3, by rw [e3]; show ad ++ ad3 = _; rw [e', List.append_assoc], fun b hb => ?_⟩
    rcases List.mem_append.mp hb with hb | hb
    · exact h1 b hb
    · exact (r.fresh (h3 b hb)).1
  · rcases q.inn.own x hx with z | z | z
    · exact (r.inS z).elim .inl fun z => .inr (.inr z)
    · exact r.inn.own x z
    · exact .inr (.inr (r.fresh z).1)
theorem Rl.ext {T : List Addr} (q : Rl (Bs.at ad F H T) ad2 F2 H2 s2 σ2) : Ext ad ad2 ∧ Same F F2 := ⟨let ⟨ad3, e3, _⟩ := q.pre; ⟨ad3, e3⟩, q.ff⟩
/-- a higher floor of what is told -/
abbrev Bs.fl (B : Bs) (F : Hp) : Bs := ⟨B.S, F, B.H0, B.T⟩
theorem Rl.floor (r : Rl B ad F H s σ) : Rl (B.fl F) ad F H s σ :=
  ⟨Same.refl _, r.fh, r.hh, r.al, fun b e _ => e, r.pre, r.nd, r.len, r.cel, r.sln, r.slt, ⟨r.inn.nd, r.inn.off, r.inn.fr, r.inn.own, r.inn.old⟩⟩
theorem Rl.unfloor (r : Rl B ad F H s σ) (q : Rl (B.fl F) ad2 F2 H2 s2 σ2) : Rl B ad2 F2 H2 s2 σ2 :=
  ⟨r.ff.trans q.ff, q.fh, q.hh, q.al, fun b e n => q.new b (r.new b e n) n, q.pre, q.nd, q.len, q.cel, q.sln, q.slt, ⟨q.inn.nd, q.inn.off, q.inn.fr, q.inn.own, q.inn.old⟩⟩
/-- other slots than those spoken of -/
theorem Rl.back {sl : List (Option AVal)} {cs : List Cell} {B2 : Bs} (r : Rl B2 ad F H ⟨sl, cs⟩ σ) (q : Rl B ad2 F2 H2 s2 σ2) (e : Ext ad ad2) (k : Same F F2) : Rl B ad2 F2 H2 ⟨sl, s2.cs⟩ σ :=
  ⟨q.ff, q.fh, q.hh, q.al, q.new, q.pre, q.nd, q.len, q.cel, r.sln, fun j x h => by
    obtain ⟨v, h1, h2⟩ := r.slt j x h
    exact ⟨v, h1, h2.mono e k⟩, q.inn⟩
/-- a cell that is none of ours stays -/
theorem Rl.aside {p : Addr} {o : HO} {T : List Addr} (q : Rl (Bs.at ad F H T) ad2 F2 H2 s2 σ2) (hp : p ∉ ad) (hT : p ∉ T) (ho : H p = some o) (hF : F p = none) : H2 p = some o ∧ F2 p = none ∧ p ∉ ad2 ∧ p ∉ s2.cs.flatMap Cell.ads := by
  refine ⟨q.hh p o hp hT ho, q.new p hF (ne_none ho), fun z => ?_, fun z => ?_⟩
  · obtain ⟨ad3, e3, h3⟩ := q.pre
    rw [e3] at z
    rcases List.mem_append.mp z with z | z
    · exact hp z
    · have : H p = none := h3 p z
      rw [ho] at this; cases this
  · rcases q.inn.own p z with z | z | z
    · exact hp z
    · exact hT z
    · have z : H p = none := z
      rw [ho] at z; cases z
end
/-! ## slots that a target sets -/
def Keeps (ks : List Nat) (σ σ2 : St) : Prop := σ2.length = σ.length ∧ ∀ j, j ∉ ks → σ2[j]? = σ[j]?
theorem Keeps.refl (σ : St) : Keeps [] σ σ := ⟨rfl, fun _ _ => rfl⟩
theorem Keeps.set (σ : St) (k : Nat) (v : Option V) : Keeps [k] σ (σ.set k v) := ⟨by simp, fun j hj => List.getElem?_set_ne (fun z => hj (by simp [z]))⟩
theorem Keeps.trans {ks ls : List Nat} {σ σ1 σ2 : St} (a : Keeps ks σ σ1) (b : Keeps ls σ1 σ2) : Keeps (ks ++ ls) σ σ2 := ⟨b.1.trans a.1, fun j hj => (b.2 j fun z => hj (List.mem_append_right _ z)).trans (a.2 j fun z => hj (List.mem_append_left _ z))⟩
theorem wipe_get (σ : St) : ∀ (vs : List Nat) (j : Nat), (wipe σ vs)[j]? = if j ∈ vs then (σ[j]?).map (fun _ => none) else σ[j]?
  | [], j => by simp [wipe]
  | v :: vs, j => by
    show ((wipe σ vs).set v none)[j]? = _
    by_cases hj : j = v
    · subst hj
      rw [if_pos (List.mem_cons_self ..)]
      by_cases hl : j < σ.length
      · rw [List.getElem?_set_self (by rw [wipe_length]; exact hl), List.getElem?_eq_getElem hl]; rfl
      · rw [List.getElem?_eq_none (by simp [wipe_length]; omega), List.getElem?_eq_none (by omega)]; rfl
    · rw [List.getElem?_set_ne (fun z => hj z.symm), wipe_get σ vs j]
      by_cases hm : j ∈ vs
      · rw [if_pos hm, if_pos (List.mem_cons_of_mem _ hm)]
      · rw [if_neg hm, if_neg (by simp [hj, hm])]
theorem wipe_keeps {ks vs : List Nat} {σ σ2 : St} (h : Keeps ks (wipe σ vs) σ2) (hs : ∀ k ∈ ks, k ∈ vs) : wipe σ2 vs = wipe σ vs := by
  apply List.ext_getElem?
  intro j
  rw [wipe_get σ2 vs j, wipe_get σ vs j]
  have hl : σ2.length = σ.length := h.1.trans (wipe_length σ vs)
  by_cases hj : j ∈ vs
  · rw [if_pos hj, if_pos hj]
    by_cases hlt : j < σ.length
    · rw [List.getElem?_eq_getElem hlt, List.getElem?_eq_getElem (by omega)]; rfl
    · rw [List.getElem?_eq_none (by omega), List.getElem?_eq_none (by omega)]
  · rw [if_neg hj, if_neg hj, h.2 j (fun z => hj (hs j z)), wipe_get σ vs j, if_neg hj]
def wipeA (sl : List (Option AVal)) : List Nat → List (Option AVal)
  | [] => sl
  | v :: vs => (wipeA sl vs).set v none
theorem wipeA_length (sl : List (Option AVal)) : ∀ vs : List Nat, (wipeA sl vs).length = sl.length
  | [] => rfl
  | v :: vs => by simp [wipeA, wipeA_length sl vs]
theorem wipeA_get {sl : List (Option AVal)} : ∀ {vs : List Nat} {j : Nat} {x : AVal}, (wipeA sl vs)[j]? = some (some x) → sl[j]? = some (some x) ∧ j ∉ vs
  | [], j, x, h => ⟨h, (fun z => nomatch z)⟩
  | v :: vs, j, x, h => by
    have h' : ((wipeA sl vs).set v none)[j]? = some (some x) := h
    by_cases hj : j = v
    · subst hj
      rw [List.getElem?_set] at h'
      simp at h'
    · rw [List.getElem?_set_ne (fun z => hj z.symm)] at h'
      obtain ⟨h1, h2⟩ := wipeA_get h'
      exact ⟨h1, fun z => by
        rcases List.mem_cons.mp z with z | z
        · exact hj z
        · exact h2 z⟩
theorem Rl.wipe {B : Bs} {ad : List Addr} {F H : Hp} {sl : List (Option AVal)} {cs : List Cell} {σ : St} (r : Rl B ad F H ⟨sl, cs⟩ σ) (vs : List Nat) : Rl B ad F H ⟨wipeA sl vs, cs⟩ (wipe σ vs) :=
  ⟨r.ff, r.fh, r.hh, r.al, r.new, r.pre, r.nd, r.len, r.cel, by show (wipeA sl vs).length = _; rw [wipeA_length, wipe_length]; exact r.sln, fun j x h => by
    obtain ⟨h1, h2⟩ := wipeA_get h
    obtain ⟨v, h3, h4⟩ := r.slt j x h1
    exact ⟨v, by rw [wipe_get, if_neg h2]; exact h3, h4⟩, r.inn⟩
/-! ## targets -/
structure GT (X : Cx) (tg : Expr) (ks : List Nat) (t : TGA) : Prop where
  run : ∀ B ad F H s σ x v Q, Rl B ad F H s σ → VOk ad F x v → t x s Q → WG X tg v σ H fun σ2 H2 => H2 = H ∧ Keeps ks σ σ2 ∧ ∃ s2, Rl B ad F H s2 σ2 ∧ Q s2
def nameG (k : Nat) : TGA := fun x s Q => Q ⟨s.sl.set k (some x), s.cs⟩
def tupOf (s : AS) : AVal → Option (List AVal)
  | .d (.tuple ds) => some (ds.map .d)
  | .d (.list ds) => some (ds.map .d)
  | .r n => match s.cs[n]? with
    | some (.nt xs) => some xs
    | some (.nl xs) => some xs
    | some (.lst ds) => some (ds.map .d)
    | some (.fz (.tuple ds)) => some (ds.map .d)
    | some (.fz (.list ds)) => some (ds.map .d)
    | _ => none
  | _ => none
section
variable {X : Cx} {tg t1 t2 t3 : Expr} {ks ks1 ks2 ks3 : List Nat} {g1 g2 g3 : TGA} {pos : Pos}
theorem WG.mono2 {v : V} {σ : St} {H : Hp} {Q Q' : St → Hp → Prop} (h : WG X tg v σ H Q) (k : ∀ σ' H', Q σ' H' → Q' σ' H') : WG X tg v σ H Q' := WG.mono k h
theorem gt_name (k : Nat) {x : Str} (hN : X.N.Nodup) (hi : X.N[k]? = some x := by rfl) (hx : Loc X.env.scope x := by first | exact .inl rfl | exact .inr rfl) (hf : X.fn x = true ∨ X.env.scope.names.lookup x = some .local := by first | exact .inl rfl | exact .inr rfl) : GT X (.Name x pos) [k] (nameG k) :=
  ⟨fun B ad F H s σ x v Q r hv t => wg_name k hN ⟨rfl, Keeps.set _ _ _, _, r.set hv, t⟩ hi hx hf⟩
theorem pairedD {ad : List Addr} {F : Hp} : ∀ {ds : List PyData} {vs : List V}, DaAll F ds vs → Paired (VOk ad F) (ds.map .d) vs
  | [], _, h => by obtain rfl := (show _ = [] from h); exact .nil
  | d :: ds, _, h => by
    obtain ⟨v, r, rfl, h1, h2⟩ := (show ∃ v r, _ = v :: r ∧ Da F d v ∧ DaAll F ds r from h)
    exact .cons h1 (pairedD h2)
theorem VOk.tup {B : Bs} {ad : List Addr} {F H : Hp} {s : AS} {σ : St} {x : AVal} {v : V} {xs : List AVal} (r : Rl B ad F H s σ) (h : VOk ad F x v) (e : tupOf s x = some xs) : ∃ l vs, v = .ref l ∧ (H l = some (.tup vs) ∨ H l = some (.lst vs)) ∧ Paired (VOk ad F) xs vs := by
  unfold tupOf at e
  split at e
  · cases e
    obtain ⟨a, xs, rfl, h1, h2⟩ := h
    exact ⟨a, xs, rfl, .inl (r.fh _ _ h1), pairedD h2⟩
  · cases e
    obtain ⟨a, xs, rfl, h1, h2⟩ := h
    exact ⟨a, xs, rfl, .inr (r.fh _ _ h1), pairedD h2⟩
  · rename_i n
    obtain ⟨a, h1, rfl⟩ := h
    split at e
    · rename_i ds' hc
      cases e
      obtain ⟨_, _, vs, h2, h3⟩ := r.cel n a _ h1 hc
      exact ⟨a, vs, rfl, .inl h2, h3⟩
    · rename_i ds' hc
      cases e
      obtain ⟨_, _, vs, h2, h3⟩ := r.cel n a _ h1 hc
      exact ⟨a, vs, rfl, .inr h2, h3⟩
    · rename_i ds' hc
      cases e
      obtain ⟨_, _, vs, h2, h3⟩ := r.cel n a _ h1 hc
      exact ⟨a, vs, rfl, .inr h2, pairedD h3⟩
    · rename_i ds' hc
      cases e
      obtain ⟨_, _, h4⟩ := r.cel n a _ h1 hc
      obtain ⟨a', xs, e', h2, h3⟩ := h4
      cases e'
      exact ⟨a, xs, rfl, .inl (r.fh _ _ h2), pairedD h3⟩
    · rename_i ds' hc
      cases e
      obtain ⟨_, _, h4⟩ := r.cel n a _ h1 hc
      obtain ⟨a', xs, e', h2, h3⟩ := h4
      cases e'
      exact ⟨a, xs, rfl, .inr (r.fh _ _ h2), pairedD h3⟩
    · cases e
  · cases e
theorem wg_unp {X : Cx} {es : List Expr} {k n : Nat} {t : TGs} {pos : Pos} {l : Addr} {vs : List V} {σ : St} {H : Hp} {Q : St → Hp → Prop} (hc : X.calm = true) (h : PGs X es t) (hn : (assignEach es X.env).length = n) (hst : (assignEach es X.env).findIdx? (·.1) = none) (hl : H l = some (.tup vs) ∨ H l = some (.lst vs)) (hv : vs.length = n) (q : t vs σ H Q) : WG X (.Tuple es k pos) (.ref l) σ H Q := by
  rcases hl with hl | hl
  · exact wg_of (pg_tup hc h hn hst) ⟨l, vs, rfl, SqT.of hl, hv, q⟩
  · exact wg_of (pg_lst hc h hn hst) ⟨l, vs, rfl, SqL.of hl, hv, q⟩
def tup2G (g1 g2 : TGA) : TGA := fun x s Q => onSome (tupOf s x) fun xs => match xs with
  | [x1, x2] => g1 x1 s fun s1 => g2 x2 s1 Q
  | _ => False
def tup3G (g1 g2 g3 : TGA) : TGA := fun x s Q => onSome (tupOf s x) fun xs => match xs with
  | [x1, x2, x3] => g1 x1 s fun s1 => g2 x2 s1 fun s2 => g3 x3 s2 Q
  | _ => False
theorem gt_tup2 {k : Nat} (hc : X.calm = true) (h1 : GT X t1 ks1 g1) (h2 : GT X t2 ks2 g2)
    (hs : (assignEach [t1, t2] X.env).map (·.2) = assign t1 X.env :: (assignEach [t2] X.env).map (·.2) := by rfl) (hs2 : (assignEach [t2] X.env).map (·.2) = assign t2 X.env :: (assignEach [] X.env).map (·.2) := by rfl)
    (hn : (assignEach [t1, t2] X.env).length = 2 := by rfl) (hst : (assignEach [t1, t2] X.env).findIdx? (·.1) = none := by rfl) : GT X (.Tuple [t1, t2] k pos) (ks1 ++ ks2) (tup2G g1 g2) := ⟨fun B ad F H s σ x v Q r hv t => by
  obtain ⟨xs, hx, t⟩ := t
  obtain ⟨l, vs, rfl, hl, hp⟩ := hv.tup r hx
  match xs, vs, hp, t with
  | [x1, x2], _, .cons (b := v1) p1 (.cons (b := v2) p2 .nil), t =>
    refine wg_unp hc (pgs_cons pg_wg (pgs_cons pg_wg pgs_nil hs2) hs) hn hst hl rfl ⟨v1, [v2], rfl, ?_⟩
    refine (h1.run B ad F H s σ x1 v1 _ r p1 t).mono2 ?_
    rintro σ1 H1 ⟨rfl, k1, s1, r1, t1⟩
    refine ⟨v2, [], rfl, (h2.run B ad F H1 s1 σ1 x2 v2 _ r1 p2 t1).mono2 ?_⟩
    rintro σ2 H2 ⟨rfl, k2, s2, r2, t2⟩
    exact ⟨rfl, rfl, k1.trans k2, s2, r2, t2⟩⟩
theorem gt_tup3 {k : Nat} (hc : X.calm = true) (h1 : GT X t1 ks1 g1) (h2 : GT X t2 ks2 g2) (h3 : GT X t3 ks3 g3)
    (hs : (assignEach [t1, t2, t3] X.env).map (·.2) = assign t1 X.env :: (assignEach [t2, t3] X.env).map (·.2) := by rfl) (hs2 : (assignEach [t2, t3] X.env).map (·.2) = assign t2 X.env :: (assignEach [t3] X.env).map (·.2) := by rfl) (hs3 : (assignEach [t3] X.env).map (·.2) = assign t3 X.env :: (assignEach [] X.env).map (·.2) := by rfl)
    (hn : (assignEach [t1, t2, t3] X.env).length = 3 := by rfl) (hst : (assignEach [t1, t2, t3] X.env).findIdx? (·.1) = none := by rfl) : GT X (.Tuple [t1, t2, t3] k pos) (ks1 ++ (ks2 ++ ks3)) (tup3G g1 g2 g3) := ⟨fun B ad F H s σ x v Q r hv t => by
  obtain ⟨xs, hx, t⟩ := t
  obtain ⟨l, vs, rfl, hl, hp⟩ := hv.tup r hx
  match xs, vs, hp, t with
  | [x1, x2, x3], _, .cons (b := v1) p1 (.cons (b := v2) p2 (.cons (b := v3) p3 .nil)), t =>
    refine wg_unp hc (pgs_cons pg_wg (pgs_cons pg_wg (pgs_cons pg_wg pgs_nil hs3) hs2) hs) hn hst hl rfl ⟨v1, [v2, v3], rfl, ?_⟩
    refine (h1.run B ad F H s σ x1 v1 _ r p1 t).mono2 ?_
    rintro σ1 H1 ⟨rfl, k1, s1, r1, t1⟩
    refine ⟨v2, [v3], rfl, (h2.run B ad F H1 s1 σ1 x2 v2 _ r1 p2 t1).mono2 ?_⟩
    rintro σ2 H2 ⟨rfl, k2, s2, r2, t2⟩
    refine ⟨v3, [], rfl, (h3.run B ad F H2 s2 σ2 x3 v3 _ r2 p3 t2).mono2 ?_⟩
    rintro σ3 H3 ⟨rfl, k3, s3, r3, t3⟩
    exact ⟨rfl, rfl, k1.trans (k2.trans k3), s3, r3, t3⟩⟩
end
/-! ## statements -/
def nextA : TSA := fun D s => D.nx s
def seqA (t u : TSA) : TSA := fun D s => t { D with nx := u D } s
def setA (k : Nat) (te : TEA) : TSA := fun D s => te s fun x s1 => D.nx ⟨s1.sl.set k (some x), s1.cs⟩
def dropA (te : TEA) : TSA := fun D s => te s fun _ s1 => D.nx s1
def retA (te : TEA) : TSA := fun D s => te s D.rt
def retN : TSA := fun D s => D.rt (.d .none) s
def ifA (c : TTA) (t u : TSA) : TSA := fun D s => c s fun b s1 => if b = true then t D s1 else u D s1
def asgA (te : TEA) (g : TGA) : TSA := fun D s => te s fun x s1 => g x s1 D.nx
/-- fewer slots and cells are spoken of -/
def AVal.lt (n : Nat) : AVal → Prop
  | .r k => k < n
  | _ => True
def Cell.lt (n : Nat) : Cell → Prop
  | .nl xs => ∀ x ∈ xs, x.lt n
  | .nt xs => ∀ x ∈ xs, x.lt n
  | .nd kvs => ∀ p ∈ kvs, p.2.lt n
  | _ => True
structure Wk0 (m : Nat) (s s2 : AS) : Prop where
  ln : s2.sl.length = s.sl.length
  sl : ∀ (k : Nat) (x : AVal), s2.sl[k]? = some (some x) → s.sl[k]? = some (some x) ∧ x.lt s2.cs.length
  cs : ∃ more, s.cs = s2.cs ++ more
  lt : ∀ c ∈ s2.cs, c.lt s2.cs.length
  m : m ≤ s2.cs.length
theorem VOk.take {ad : List Addr} {F : Hp} {x : AVal} {v : V} {n : Nat} (h : VOk ad F x v) (hx : x.lt n) : VOk (ad.take n) F x v := by
  cases x with
  | d x => exact h
  | r k => obtain ⟨a, h1, h2⟩ := h; exact ⟨a, by rw [List.getElem?_take_of_lt hx]; exact h1, h2⟩
  | s K ns => exact h
  | a p k pt => exact h
theorem Paired.impMem {α β : Type} {R S : α → β → Prop} : ∀ {xs : List α} {ys : List β}, Paired R xs ys → (∀ x y, x ∈ xs → R x y → S x y) → Paired S xs ys
  | _, _, .nil, _ => .nil
  | _, _, .cons h t, k => .cons (k _ _ (List.mem_cons_self ..) h) (Paired.impMem t fun x y hx => k x y (List.mem_cons_of_mem _ hx))
theorem COk.take {ad : List Addr} {F H : Hp} {p : Addr} {c : Cell} {n : Nat} (h : COk ad F H p c) (hc : c.lt n) : COk (ad.take n) F H p c := by
  cases c with
  | nl xs => obtain ⟨vs, h1, h2⟩ := h; exact ⟨vs, h1, Paired.impMem h2 fun x y hx h => h.take (hc x hx)⟩
  | nt xs => obtain ⟨vs, h1, h2⟩ := h; exact ⟨vs, h1, Paired.impMem h2 fun x y hx h => h.take (hc x hx)⟩
  | nd xs => obtain ⟨vs, h1, h2⟩ := h; exact ⟨vs, h1, Paired.impMem h2 fun x y hx h => ⟨h.1, h.2.take (hc x hx)⟩⟩
  | _ => exact h
theorem Inn.take {B : Bs} {ad : List Addr} {F H : Hp} {cs cs2 more : List Cell} (r : Inn B ad F H cs) (e : cs = cs2 ++ more) : Inn B (ad.take cs2.length) F H cs2 := by
  subst e
  have sub : ∀ q, q ∈ cs2.flatMap Cell.ads → q ∈ (cs2 ++ more).flatMap Cell.ads := fun q hq => by rw [List.flatMap_append]; exact List.mem_append_left _ hq
  refine ⟨r.nd.sublist (by rw [List.flatMap_append]; exact List.sublist_append_left ..), fun q hq i hi => ?_, fun q hq => r.fr q (sub q hq), fun q hq => r.own q (sub q hq), r.old⟩
  have hl : i < cs2.length := by
    have := (List.getElem?_eq_some_iff.mp hi).1
    rw [List.length_take] at this
    omega
  rw [List.getElem?_take_of_lt hl] at hi
  have := r.off q (sub q hq) i hi
  rw [List.getElem?_append_left hl] at this
  exact this
theorem Rl.weak {B : Bs} {ad : List Addr} {F H : Hp} {s s2 : AS} {σ : St} (r : Rl B ad F H s σ) (w : Wk0 B.S.length s s2) : Rl B (ad.take s2.cs.length) F H s2 σ := by
  obtain ⟨more, em⟩ := w.cs
  have hle : s2.cs.length ≤ ad.length := by rw [r.len, em]; simp
  refine ⟨r.ff, r.fh, r.hh, r.al, r.new, ?_, r.nd.sublist (List.take_sublist _ _), by rw [List.length_take]; omega, fun i p c h1 h2 => ?_, w.ln.trans r.sln, fun k x h => ?_, r.inn.take em⟩
  · obtain ⟨ad', e, h1⟩ := r.pre
    refine ⟨ad'.take (s2.cs.length - B.S.length), ?_, fun b hb => h1 b (List.mem_of_mem_take hb)⟩
    rw [e, List.take_append, List.take_of_length_le w.m]
  · have hi : i < s2.cs.length := (List.getElem?_eq_some_iff.mp h2).1
    rw [List.getElem?_take_of_lt hi] at h1
    obtain ⟨n, l, ok⟩ := r.cel i p c h1 (by rw [em, List.getElem?_append_left hi]; exact h2)
    exact ⟨n, l, ok.take (w.lt c (List.mem_of_getElem? h2))⟩
  · obtain ⟨h1, h2⟩ := w.sl k x h
    obtain ⟨v, h3, h4⟩ := r.slt k x h1
    exact ⟨v, h3, h4.take h2⟩
def Cell.flat : Cell → Bool
  | .nl _ => false
  | .nt _ => false
  | .nd _ => false
  | .dl _ _ _ => false
  | _ => true
theorem COk.flat {ad ad' : List Addr} {F H : Hp} {p : Addr} {c : Cell} (h : COk ad F H p c) (hc : c.flat = true) : COk ad' F H p c := by
  cases c with
  | nl _ => cases hc
  | nt _ => cases hc
  | nd _ => cases hc
  | _ => exact h
def subC (cs : List Cell) : List Nat → Option (List Cell)
  | [] => some []
  | n :: ns => (cs[n]?).bind fun c => (subC cs ns).map (c :: ·)
theorem subC_ok {cs : List Cell} : ∀ {ns : List Nat} {ds : List Cell}, subC cs ns = some ds → ds.length = ns.length ∧ ∀ (j : Nat) n, ns[j]? = some n → ds[j]? = cs[n]? ∧ n < cs.length
  | [], ds, h => by cases h; exact ⟨rfl, fun j n h => by simp at h⟩
  | n :: ns, ds, h => by
    have h' : (cs[n]?).bind (fun c => (subC cs ns).map (c :: ·)) = some ds := h
    cases hc : cs[n]? with
    | none => rw [hc] at h'; cases h'
    | some c =>
      rw [hc] at h'
      cases hs : subC cs ns with
      | none => rw [hs] at h'; cases h'
      | some es =>
        rw [hs] at h'
        cases h'
        obtain ⟨h1, h2⟩ := subC_ok hs
        refine ⟨by simp [h1], fun j m hj => ?_⟩
        cases j with
        | zero =>
          have : n = m := by simpa using hj
          subst this
          exact ⟨by simp [hc], (List.getElem?_eq_some_iff.mp hc).1⟩
        | succ j => simpa using h2 j m (by simpa using hj)
theorem sublist_flatMap {cs ds : List Cell} (h : cs.Sublist ds) : (cs.flatMap Cell.ads).Sublist (ds.flatMap Cell.ads) := by
  induction h with
  | slnil => exact List.Sublist.refl _
  | cons a h ih => rw [List.flatMap_cons]; exact ih.trans (List.sublist_append_right _ _)
  | cons_cons a h ih => rw [List.flatMap_cons, List.flatMap_cons]; exact List.Sublist.append (List.Sublist.refl _) ih
theorem flat_nd {cs : List Cell} : (cs.flatMap Cell.ads).Nodup ↔ (∀ (i : Nat) c, cs[i]? = some c → c.ads.Nodup) ∧ ∀ (i j : Nat) c d q, cs[i]? = some c → cs[j]? = some d → q ∈ c.ads → q ∈ d.ads → i = j := by
  rw [List.nodup_iff_pairwise_ne, List.pairwise_flatMap, List.pairwise_iff_getElem]
  constructor
  · rintro ⟨h1, h2⟩
    refine ⟨fun i c hc => List.nodup_iff_pairwise_ne.mpr (h1 c (List.mem_of_getElem? hc)), fun i j c d q hc hd hqc hqd => ?_⟩
    obtain ⟨li, ei⟩ := List.getElem?_eq_some_iff.mp hc
    obtain ⟨lj, ej⟩ := List.getElem?_eq_some_iff.mp hd
    rcases Nat.lt_trichotomy i j with h | h | h
    · exact absurd rfl (h2 i j li lj h q (by rw [ei]; exact hqc) q (by rw [ej]; exact hqd))
    · exact h
    · exact absurd rfl (h2 j i lj li h q (by rw [ej]; exact hqd) q (by rw [ei]; exact hqc))
  · rintro ⟨h1, h2⟩
    refine ⟨fun c hc => ?_, fun i j li lj hij x hx y hy e => ?_⟩
    · obtain ⟨i, hi⟩ := List.mem_iff_getElem?.mp hc
      exact List.nodup_iff_pairwise_ne.mp (h1 i c hi)
    · subst e
      have := h2 i j _ _ x (List.getElem?_eq_getElem li) (List.getElem?_eq_getElem lj) hx hy
      omega

/-- cells taken out, the first ones in their place -/
def partQ (m : Nat) (ns : List Nat) : AVal → AVal
  | .r n => if n < m then .r n else .r (m + ns.idxOf n)
  | .a p n pt => if n < m then .a p n pt else .a p (m + ns.idxOf n) pt
  | x => x
def hasR (m : Nat) (ns : List Nat) : AVal → Prop
  | .r n => n < m ∨ n ∈ ns
  | _ => True
structure Wq (m : Nat) (s s2 : AS) : Prop where
  ln : s2.sl.length = s.sl.length
  mm : m ≤ s.cs.length
  pk : ∃ ns new, ns.Nodup ∧ (∀ n ∈ ns, m ≤ n) ∧ subC s.cs ns = some new ∧ s2.cs = s.cs.take m ++ new ∧ (∀ c ∈ s2.cs, c.flat = true) ∧ ∀ (k : Nat) (x : AVal), s2.sl[k]? = some (some x) → ∃ y, s.sl[k]? = some (some y) ∧ x = partQ m ns y ∧ hasR m ns y
theorem Rl.pick {B : Bs} {ad : List Addr} {F H : Hp} {s s2 : AS} {σ : St} (r : Rl B ad F H s σ) (w : Wq B.S.length s s2) : ∃ ad', Rl B ad' F H s2 σ := by
  obtain ⟨hln, hmm, ns, new, nd, hn, hs, ecs, hf, hsl⟩ := w
  obtain ⟨sl2, cs2⟩ := s2
  simp only at ecs
  subst ecs
  obtain ⟨h1, h2⟩ := subC_ok hs
  obtain ⟨n1, n2⟩ := flat_nd.mp r.inn.nd
  obtain ⟨ad', e, hpre⟩ := r.pre
  have hl : B.S.length ≤ s.cs.length := hmm
  have ex0 : ∀ ms : List Nat, (∀ n ∈ ms, n < ad.length) → ∃ ex : List Addr, ex.length = ms.length ∧ ∀ (j : Nat) n, ms[j]? = some n → ex[j]? = ad[n]? := by
    intro ms
    induction ms with
    | nil => intro _; exact ⟨[], rfl, fun j n h => by simp at h⟩
    | cons m ms ih =>
      intro h
      obtain ⟨a', l', e'⟩ := ih fun n hn => h n (List.mem_cons_of_mem _ hn)
      have hm := h m (List.mem_cons_self ..)
      refine ⟨ad[m] :: a', by simp [l'], fun j n hj => ?_⟩
      cases j with
      | zero =>
        have : m = n := by simpa using hj
        subst this
        simp [List.getElem?_eq_getElem hm]
      | succ j => simpa using e' j n (by simpa using hj)
  have hlt : ∀ n ∈ ns, n < ad.length := fun n hn => by
    obtain ⟨j, hj⟩ := List.mem_iff_getElem?.mp hn
    rw [r.len]; exact (h2 j n hj).2
  obtain ⟨ex, lx, hx⟩ := ex0 ns hlt
  refine ⟨B.S ++ ex, ?_⟩
  have from' : ∀ i, i < B.S.length + ns.length → ∃ i', (B.S ++ ex)[i]? = ad[i']? ∧ (s.cs.take B.S.length ++ new)[i]? = s.cs[i']? ∧ ((i < B.S.length ∧ i' = i) ∨ (B.S.length ≤ i ∧ ns[i - B.S.length]? = some i')) := by
    intro i hi
    by_cases him : i < B.S.length
    · refine ⟨i, ?_, ?_, .inl ⟨him, rfl⟩⟩
      · rw [List.getElem?_append_left him, e, List.getElem?_append_left him]
      · rw [List.getElem?_append_left (by rw [List.length_take]; omega), List.getElem?_take_of_lt him]
    · have hj : ns[i - B.S.length]? = some (ns[i - B.S.length]'(by omega)) := List.getElem?_eq_getElem (by omega)
      refine ⟨_, ?_, ?_, .inr ⟨by omega, hj⟩⟩
      · rw [List.getElem?_append_right (by omega), hx _ _ hj]
      · rw [List.getElem?_append_right (by rw [List.length_take]; omega), List.length_take, Nat.min_eq_left hl, (h2 _ _ hj).1]
  have inj : ∀ i j i', ((i < B.S.length ∧ i' = i) ∨ (B.S.length ≤ i ∧ ns[i - B.S.length]? = some i')) → ((j < B.S.length ∧ i' = j) ∨ (B.S.length ≤ j ∧ ns[j - B.S.length]? = some i')) → i = j := by
    intro i j i' h h'
    rcases h with ⟨h, e1⟩ | ⟨h, e1⟩ <;> rcases h' with ⟨h', e2⟩ | ⟨h', e2⟩
    · omega
    · have := hn i' (List.mem_of_getElem? e2); omega
    · have := hn i' (List.mem_of_getElem? e1); omega
    · have := (List.getElem?_inj (List.getElem?_eq_some_iff.mp e1).1 nd).mp (e1.trans e2.symm)
      omega
  have lenC : (s.cs.take B.S.length ++ new).length = B.S.length + ns.length := by rw [List.length_append, List.length_take, h1]; omega
  have lenA : (B.S ++ ex).length = B.S.length + ns.length := by rw [List.length_append, lx]
  have look : ∀ (i : Nat) c, (s.cs.take B.S.length ++ new)[i]? = some c → ∃ i', (B.S ++ ex)[i]? = ad[i']? ∧ s.cs[i']? = some c ∧ ((i < B.S.length ∧ i' = i) ∨ (B.S.length ≤ i ∧ ns[i - B.S.length]? = some i')) := fun i c hc => by
    have hi := (List.getElem?_eq_some_iff.mp hc).1
    obtain ⟨i', e1, e2, e3⟩ := from' i (by omega)
    exact ⟨i', e1, by rw [← e2]; exact hc, e3⟩
  have up : ∀ q, q ∈ (s.cs.take B.S.length ++ new).flatMap Cell.ads → q ∈ s.cs.flatMap Cell.ads := fun q hq => by
    obtain ⟨c, hc, hq⟩ := List.mem_flatMap.mp hq
    obtain ⟨i, hi⟩ := List.mem_iff_getElem?.mp hc
    obtain ⟨i', _, e2, _⟩ := look i c hi
    exact mem_ads e2 hq
  refine ⟨r.ff, r.fh, r.hh, r.al, r.new, ⟨ex, rfl, fun b hb => ?_⟩, ?_, by rw [lenA]; exact lenC.symm, fun i p c h3 h4 => ?_, hln.trans r.sln, fun k x h => ?_, ⟨flat_nd.mpr ⟨fun i c hc => ?_, fun i j c d q hc hd hqc hqd => ?_⟩, fun q hq i hi => ?_, fun q hq => r.inn.fr q (up q hq), fun q hq => r.inn.own q (up q hq), r.inn.old⟩⟩
  · obtain ⟨j, hj⟩ := List.mem_iff_getElem?.mp hb
    have hjl := (List.getElem?_eq_some_iff.mp hj).1
    have hj2 : ns[j]? = some (ns[j]'(by omega)) := List.getElem?_eq_getElem (by omega)
    rw [hx j _ hj2, e, List.getElem?_append_right (hn _ (List.mem_of_getElem? hj2))] at hj
    exact hpre b (List.mem_of_getElem? hj)
  · rw [List.nodup_iff_pairwise_ne, List.pairwise_iff_getElem]
    intro i j hi hj hij ee
    obtain ⟨i', a1, _, a3⟩ := from' i (by omega)
    obtain ⟨j', b1, _, b3⟩ := from' j (by omega)
    have g1 : ad[i']? = some (B.S ++ ex)[i] := by rw [← a1]; exact List.getElem?_eq_getElem hi
    have g2 : ad[j']? = some (B.S ++ ex)[i] := by rw [← b1, ee]; exact List.getElem?_eq_getElem hj
    have := nodup_get r.nd g1 g2
    subst this
    have := inj i j i' a3 b3
    omega
  · have h4 : (s.cs.take B.S.length ++ new)[i]? = some c := h4
    obtain ⟨i', e1, e2, _⟩ := look i c h4
    rw [e1] at h3
    obtain ⟨g1, g2, g3⟩ := r.cel i' p c h3 e2
    exact ⟨g1, g2, g3.flat (hf c (List.mem_of_getElem? h4))⟩
  · obtain ⟨y, hy, ex', hr⟩ := hsl k x h
    obtain ⟨v, hv, ok⟩ := r.slt k y hy
    refine ⟨v, hv, ?_⟩
    subst ex'
    cases y with
    | d y => exact ok
    | s _ _ => exact ok
    | a p n pt =>
      show VOk (B.S ++ ex) F (if n < B.S.length then .a p n pt else .a p (B.S.length + ns.idxOf n) pt) v
      split <;> exact ok
    | r n =>
      obtain ⟨a, g1, g2⟩ := ok
      show VOk (B.S ++ ex) F (if n < B.S.length then .r n else .r (B.S.length + ns.idxOf n)) v
      split
      · rename_i hlt
        refine ⟨a, ?_, g2⟩
        rw [e, List.getElem?_append_left hlt] at g1
        rw [List.getElem?_append_left hlt]; exact g1
      · rename_i hlt
        have hmem : n ∈ ns := hr.resolve_left hlt
        have hil := List.idxOf_lt_length_of_mem hmem
        have e2 : ns[ns.idxOf n]? = some n := by rw [List.getElem?_eq_getElem hil, List.getElem_idxOf]
        refine ⟨a, ?_, g2⟩
        rw [List.getElem?_append_right (by omega), Nat.add_sub_cancel_left, hx _ n e2]
        exact g1
  · obtain ⟨i', _, e2, _⟩ := look i c hc
    exact n1 i' c e2
  · obtain ⟨i', _, e2, e3⟩ := look i c hc
    obtain ⟨j', _, f2, f3⟩ := look j d hd
    have := n2 i' j' c d q e2 f2 hqc hqd
    subst this
    exact inj i j i' e3 f3
  · have hil := (List.getElem?_eq_some_iff.mp hi).1
    obtain ⟨i', e1, e2, _⟩ := from' i (by omega)
    rw [e1] at hi
    have := r.inn.off q (up q hq) i' hi
    rw [← e2] at this
    exact this
def Wk (m : Nat) (s s2 : AS) : Prop := Wk0 m s s2 ∨ Wq m s s2
theorem Rl.weakX {B : Bs} {ad : List Addr} {F H : Hp} {s s2 : AS} {σ : St} (r : Rl B ad F H s σ) (w : Wk B.S.length s s2) : ∃ ad', Rl B ad' F H s2 σ := w.elim (fun w => ⟨_, r.weak w⟩) r.pick
section
variable {X : Cx} {B : Bs} {st : Stmt} {rest body orelse : List Stmt} {t u : TSA} {e c : Expr} {te : TEA} {tx : TTA} {pos p : Pos} {x : Str} {g : TGA} {ks : List Nat} {tg : Expr}
theorem ss_nilA : SS X B [] nextA := ⟨fun D s h ad F H σ r => ss_nil ⟨ad, F, s, r, h⟩⟩
theorem ss_consA (h1 : SA X B st t) (h2 : SS X B rest u) : SS X B (st :: rest) (seqA t u) := ⟨fun D s h ad F H σ r => ss_cons (WS.nx (D := liftD B D) (M := fun σ H => ∃ ad F s, Rl B ad F H s σ ∧ u D s) (h1.run { D with nx := u D } s h ad F H σ r) fun σ' H' ⟨ad', F', s', r', h'⟩ => h2.run D s' h' ad' F' H' σ' r')⟩
theorem ss_oneA (h1 : SA X B st t) : SS X B [st] t := ⟨fun D s h ad F H σ r => ss_one (h1.run D s h ad F H σ r)⟩
theorem sa_set (k : Nat) (hN : X.N.Nodup) (he : EA X B e te) (hs : swapsWith e (some (.Name x p)) pos.line X.env = pure false := by rfl) (hi : X.N[k]? = some x := by rfl) (hx : Loc X.env.scope x := by first | exact .inl rfl | exact .inr rfl)
    (hf : X.fn x = true ∨ X.env.scope.names.lookup x = some .local := by first | exact .inl rfl | exact .inr rfl) : SA X B (.Assign [.Name x p] e pos) (setA k te) := ⟨fun D s h ad F H σ r => ws_set k hN ((he.run ad F H s σ _ r h).imp fun v H1 q => by
  obtain ⟨ad1, F1, y, s1, e1, k1, r1, hv, q⟩ := q
  exact ⟨ad1, F1, _, r1.set hv, q⟩) hs hi hx hf⟩
theorem sa_expr (he : EA X B e te) (hs : swapsWith e none pos.line X.env = pure false := by rfl) : SA X B (.Expr e pos) (dropA te) := ⟨fun D s h ad F H σ r => ws_expr ((he.run ad F H s σ _ r h).imp fun v H1 q => by
  obtain ⟨ad1, F1, y, s1, e1, k1, r1, hv, q⟩ := q
  exact ⟨ad1, F1, s1, r1, q⟩) hs⟩
theorem sa_ret (he : EA X B e te) : SA X B (.Return (some e) pos) (retA te) := ⟨fun D s h ad F H σ r => ws_ret ((he.run ad F H s σ _ r h).imp fun v H1 q => by
  obtain ⟨ad1, F1, y, s1, e1, k1, r1, hv, q⟩ := q
  exact ⟨ad1, F1, y, s1, σ, r1, hv, q⟩)⟩
theorem sa_retN : SA X B (.Return none pos) retN := ⟨fun D s h ad F H σ r => ws_retN ⟨ad, F, .d .none, s, σ, r, rfl, h⟩⟩
theorem sa_if (hc : ET X B c tx) (h1 : SS X B body t) (h2 : SS X B orelse u) : SA X B (.If c body orelse pos) (ifA tx t u) := ⟨fun D s h ad F H σ r => ws_if ((hc.run ad F H s σ _ r h).imp fun b H1 q => by
  obtain ⟨ad1, F1, s1, e1, k1, r1, q⟩ := q
  cases b with
  | true => rw [if_pos rfl] at q; exact iteT (h1.run D s1 q ad1 F1 H1 σ r1)
  | false => exact iteF (h2.run D s1 q ad1 F1 H1 σ r1))⟩
theorem sa_asg (he : EA X B e te) (hg : GT X tg ks g) (hs : swapsWithSole [tg] e pos.line X.env = pure false := by rfl) (hw : swappedStores [tg] e X.env = pure none := by rfl)
    (h1 : (assignEach [tg] X.env).map (·.2) = [assign tg X.env] := by rfl) : SA X B (.Assign [tg] e pos) (asgA te g) := ⟨fun D s h ad F H σ r => ws_asg ((he.run ad F H s σ _ r h).imp fun v H1 q => by
  obtain ⟨ad1, F1, y, s1, e1, k1, r1, hv, q⟩ := q
  refine (hg.run B ad1 F1 H1 s1 σ y v _ r1 hv q).mono2 ?_
  rintro σ2 H2 ⟨rfl, k2, s2, r2, q2⟩
  exact ⟨ad1, F1, s2, r2, q2⟩) hs hw h1⟩
theorem sa_pass : SA X B (.Pass pos) nextA := ⟨fun D s h ad F H σ r => ws_of ps_pass ⟨ad, F, s, r, h⟩⟩
def brkA : TSA := fun D s => D.bk s
def contA : TSA := fun D s => D.ct s
theorem sa_break : SA X B (.Break pos) brkA := ⟨fun D s h ad F H σ r => ws_of ps_break ⟨ad, F, s, r, h⟩⟩
theorem sa_continue : SA X B (.Continue pos) contA := ⟨fun D s h ad F H σ r => ws_of ps_continue ⟨ad, F, s, r, h⟩⟩
theorem sa_doc {z : Str} {j pos'} : SA X B (.Expr (.Constant (.str z) j pos) pos') nextA := ⟨fun D s h ad F H σ r => ws_of ps_doc ⟨ad, F, s, r, h⟩⟩
/-- while -/
def whileA (m : Nat) (c : TTA) (t : TSA) : TSA := fun D s => ∃ W : Nat → AS → Prop, (∃ n, W n s) ∧ ∀ n s, W n s → c s fun b s1 => if b = true then t ⟨fun s2 => ∃ s3 n', Wk m s2 s3 ∧ n' < n ∧ W n' s3, D.rt, D.nx, fun s2 => ∃ s3 n', Wk m s2 s3 ∧ n' < n ∧ W n' s3⟩ s1 else D.nx s1
theorem sa_while (hp : PassesOwn (model X.prog X.w) X.A X.env X.xe) (hc : ET X B c tx) (hb : SS X B body t) : SA X B (.While c body [] pos) (whileA B.S.length tx t) := ⟨fun D s h ad F H σ r => by
  obtain ⟨W, ⟨n0, h0⟩, hs⟩ := h
  refine ws_while hp (fun n σ H => ∃ ad F s, Rl B ad F H s σ ∧ W n s) n0 ⟨ad, F, s, r, h0⟩ ?_
  rintro n σ' H' ⟨ad', F', s', r', w'⟩
  refine (hc.run ad' F' H' s' σ' _ r' (hs n s' w')).imp fun b H1 q => ?_
  obtain ⟨ad1, F1, s1, e1, k1, r1, q⟩ := q
  cases b with
  | true =>
    rw [if_pos rfl] at q
    refine iteT ?_
    intro pins sh I
    refine thn (hb.run _ s1 q ad1 F1 H1 σ' r1 pins sh I) fun f s2 z => ?_
    cases f with
    | next =>
      obtain ⟨σ2, H2, I2, ad2, F2, s2, r2, s3, n', wk, hn, w3⟩ := z
      obtain ⟨ad9, r9⟩ := r2.weakX wk
      exact ⟨σ2, H2, I2, n', hn, ad9, F2, s3, r9, w3⟩
    | brk => exact z
    | cont =>
      obtain ⟨σ2, H2, I2, ad2, F2, s2, r2, s3, n', wk, hn, w3⟩ := z
      obtain ⟨ad9, r9⟩ := r2.weakX wk
      exact ⟨σ2, H2, I2, n', hn, ad9, F2, s3, r9, w3⟩
    | ret u => exact z
  | false => exact iteF ⟨ad1, F1, s1, r1, q⟩⟩
end
/-! ## what is walked -/
structure IA (X : Cx) (B : Bs) (tg iter : Expr) (t : AS → (List PyData → AS → Prop) → Prop) : Prop where
  run : ∀ ad F H s σ (Q : List PyData → AS → Prop) (R : It → Hp → Prop), Rl B ad F H s σ → t s Q → (∀ J ad2 F2 H2 s2 ds, Ext ad ad2 → Same F F2 → Rl B ad2 F2 H2 s2 σ → Walks J F2 ds → ds.length ≤ sizeLine → Q ds s2 → R J H2) → WI X tg iter σ H R
def forW (m : Nat) (g : TGA) (t : TSA) (D : DA) : List PyData → AS → Prop
  | [], s => D.nx s
  | x :: xs, s => g (.d x) s fun s1 => t ⟨fun s2 => ∃ s3, Wk m s2 s3 ∧ forW m g t D xs s3, D.rt, D.nx, fun s2 => ∃ s3, Wk m s2 s3 ∧ forW m g t D xs s3⟩ s1
def forA (m : Nat) (ti : AS → (List PyData → AS → Prop) → Prop) (g : TGA) (t : TSA) : TSA := fun D s => ti s fun ds s1 => forW m g t D ds s1
section
variable {X : Cx} {B : Bs} {tg iter : Expr} {body : List Stmt} {t : TSA} {ti : AS → (List PyData → AS → Prop) → Prop} {g : TGA} {ks : List Nat} {pos : Pos}
theorem drop_get {α : Type} {l : List α} {i : Nat} {x : α} (h : l[i]? = some x) : l.drop i = x :: l.drop (i + 1) := by
  obtain ⟨hl, e⟩ := List.getElem?_eq_some_iff.mp h
  rw [List.drop_eq_getElem_cons hl, e]
theorem sa_for (hp : PassesOwn (model X.prog X.w) X.A X.env X.xe) (hc : X.calm = true) (hi : IA X B tg iter ti) (hg : GT X tg ks g) (hb : ∀ F, SS X (B.fl F) body t) (hs : ∀ x, foldedSetIterable iter X.env x = pure x := by intro _; rfl) :
    SA X B (.For tg iter body [] pos) (forA B.S.length ti g t) := ⟨fun D s h ad F H σ r => ws_of (ps_for hp hc pi_wi pg_wg pss_wss hs) (hi.run ad F H s σ _ _ r h fun J ad2 F2 H2 s2 ds e2 k2 r2 w hz q => by
  refine ⟨fun i m σ' H' => m = ds.length - i ∧ i ≤ ds.length ∧ ∃ ad' F' s', Same F2 F' ∧ Rl B ad' F' H' s' σ' ∧ forW B.S.length g t D (ds.drop i) s', ⟨ds.length, by simp, Nat.zero_le _, ad2, F2, s2, Same.refl _, r2, q⟩, ?_⟩
  rintro i m σ' H' ⟨rfl, hi', ad', F', s', s1, r', q'⟩
  obtain ⟨w1, w2⟩ := w F' H' s1 r'.fh
  by_cases hlt : i < ds.length
  · have e : ds[i]? = some ds[i] := List.getElem?_eq_getElem hlt
    obtain ⟨go, yl⟩ := w1 i _ e
    rw [drop_get e] at q'
    refine .inr ⟨go, fun σ3 H3 => ∃ ad3 F3 s3, Same F2 F3 ∧ Rl B ad3 F3 H3 s3 σ3 ∧ forW B.S.length g t D (ds.drop (i + 1)) s3, fun σ3 H3 p' => ⟨ds.length - (i + 1), by omega, rfl, hlt, p'⟩, fun x H4 y => ?_⟩
    obtain ⟨F4, g4, hd⟩ := yl x H4 y
    have r4 := r'.gr g4
    refine (hg.run B ad' F4 H4 s' σ' (.d ds[i]) x _ r4 hd q').mono2 ?_
    rintro σ5 H5 ⟨rfl, k5, s5, r5, q5⟩
    intro pins sh I
    refine thn ((hb F4).run _ s5 q5 ad' F4 H5 σ5 r5.floor pins sh I) fun f s6 z => ?_
    cases f with
    | next =>
      obtain ⟨σ2, H2, I2, ad2, F2', s2, r2', s3, wk, w3⟩ := z
      obtain ⟨ad9, r9⟩ := (r5.unfloor r2').weakX wk
      exact ⟨σ2, H2, I2, ad9, F2', s3, s1.trans (g4.ff.trans r2'.ff), r9, w3⟩
    | brk =>
      obtain ⟨σ2, H2, I2, ad2, F2', s2, r2', w3⟩ := z
      exact ⟨σ2, H2, I2, ad2, F2', s2, r5.unfloor r2', w3⟩
    | cont =>
      obtain ⟨σ2, H2, I2, ad2, F2', s2, r2', s3, wk, w3⟩ := z
      obtain ⟨ad9, r9⟩ := (r5.unfloor r2').weakX wk
      exact ⟨σ2, H2, I2, ad9, F2', s3, s1.trans (g4.ff.trans r2'.ff), r9, w3⟩
    | ret u =>
      obtain ⟨v, σ2, H2, I2, rv, ad2, F2', x2, s2, σ3, r2', hv, w3⟩ := z
      exact ⟨v, σ2, H2, I2, rv, ad2, F2', x2, s2, σ3, r5.unfloor r2', hv, w3⟩
  · have e : i = ds.length := by omega
    subst e
    rw [List.drop_length] at q'
    exact .inl ⟨w2, ad', F', s', r', q'⟩)⟩
end
end Kr

/-! layer A4 -/
namespace Kr
open PySem L2
section
variable {B : Bs} {ad : List Addr} {F H : Hp} {s : AS} {σ : St} {D : Addr} {o : HO}
/-- a thing aside changes, or goes -/
theorem Rl.aput (r : Rl B ad F H s σ) (h1 : D ∉ ad) (h2 : F D = none) (h3 : B.H0 D = none) (h4 : D ∉ s.cs.flatMap Cell.ads) (h5 : D ∉ B.T) : Rl B ad F (upd H D o) s σ := by
  have hS : D ∉ B.S := fun z => h1 (let ⟨ad', e, _⟩ := r.pre; e ▸ List.mem_append_left _ z)
  have hq : ∀ q, q ∈ s.cs.flatMap Cell.ads → q ≠ D := fun q hq z => h4 (z ▸ hq)
  refine ⟨r.ff, same_mut r.fh h2, fun b u hb ht e => ?_, fun b hb => ?_, r.new, r.pre, r.nd, r.len, fun i p c e1 e2 => ?_, r.sln, r.slt, ⟨r.inn.nd, r.inn.off, fun q h => ⟨(r.inn.fr q h).1, by rw [upd_ne (hq q h)]; exact (r.inn.fr q h).2⟩, r.inn.own, r.inn.old⟩⟩
  · rw [upd_ne (ne_of_none e h3)]; exact r.hh b u hb ht e
  · rw [upd_ne (fun z => by subst z; exact hb.elim hS h5)]; exact r.al b hb
  · have hp : p ≠ D := fun z => h1 (z ▸ List.mem_of_getElem? e1)
    obtain ⟨n, l, ok⟩ := r.cel i p c e1 e2
    exact ⟨by rw [upd_ne hp]; exact n, l, ok.mono (Ext.refl _) (Same.refl _) (fun o' e => by rw [upd_ne hp]; exact e) fun q h o' e => by rw [upd_ne (hq q (mem_ads e2 h))]; exact e⟩
def out (H : Hp) (D : Addr) : Hp := fun b => if b = D then none else H b
theorem out_ne {b : Addr} (h : b ≠ D) : out H D b = H b := if_neg h
theorem out_same : out H D D = none := if_pos rfl
theorem upd_out (h : H D = some o) : upd (out H D) D o = H := by
  funext b
  by_cases hb : b = D
  · subst hb; rw [upd_same, h]
  · rw [upd_ne hb, out_ne hb]
theorem Rl.aout (r : Rl B ad F H s σ) (h1 : D ∉ ad) (h2 : F D = none) (h3 : B.H0 D = none) (h4 : D ∉ s.cs.flatMap Cell.ads) (h5 : D ∉ B.T) : Rl B ad F (out H D) s σ := by
  have hS : D ∉ B.S := fun z => h1 (let ⟨ad', e, _⟩ := r.pre; e ▸ List.mem_append_left _ z)
  have hq : ∀ q, q ∈ s.cs.flatMap Cell.ads → q ≠ D := fun q hq z => h4 (z ▸ hq)
  refine ⟨r.ff, fun b o e => ?_, fun b u hb ht e => ?_, fun b hb => ?_, r.new, r.pre, r.nd, r.len, fun i p c e1 e2 => ?_, r.sln, r.slt, ⟨r.inn.nd, r.inn.off, fun q h => ⟨(r.inn.fr q h).1, by rw [out_ne (hq q h)]; exact (r.inn.fr q h).2⟩, r.inn.own, r.inn.old⟩⟩
  · rw [out_ne (ne_of_none e h2)]; exact r.fh b o e
  · rw [out_ne (ne_of_none e h3)]; exact r.hh b u hb ht e
  · rw [out_ne (fun z => by subst z; exact hb.elim hS h5)]; exact r.al b hb
  · have hp : p ≠ D := fun z => h1 (z ▸ List.mem_of_getElem? e1)
    obtain ⟨n, l, ok⟩ := r.cel i p c e1 e2
    exact ⟨by rw [out_ne hp]; exact n, l, ok.mono (Ext.refl _) (Same.refl _) (fun o' e => by rw [out_ne hp]; exact e) fun q h o' e => by rw [out_ne (hq q (mem_ads e2 h))]; exact e⟩
end
/-! ## comprehensions -/
def AVal.data? : AVal → Option PyData | .d x => some x | _ => none
theorem AVal.data?_of {x : AVal} {d : PyData} (h : x.data? = some d) : x = .d d := by
  cases x with
  | d y => cases h; rfl
  | r n => cases h
  | s _ _ => cases h
  | a _ _ _ => cases h
theorem AVal.data?_d {d : PyData} : (AVal.d d).data? = some d := rfl
abbrev TIO := AS → (List PyData → (List Cell → Prop) → AS → Prop) → Prop
def lcW (g : TGA) (tt : TTA) (te : TEA) (vs : List Nat) (ok : List Cell → Prop) (sl : List (Option AVal)) : List PyData → List PyData → List Cell → (List PyData → List Cell → Prop) → Prop
  | [], acc, cs, Q => ok cs ∧ Q acc cs
  | x :: xs, acc, cs, Q => ok cs ∧ g (.d x) ⟨wipeA sl vs, cs⟩ fun s1 => tt s1 fun b s2 => if b = true then te s2 fun y s3 => onSome y.data? fun d => lcW g tt te vs ok sl xs (acc ++ [d]) s3.cs Q else lcW g tt te vs ok sl xs acc s2.cs Q
def yesA : TTA := fun s Q => Q true s
def lcN (ti : TIO) (g : TGA) (tt : TTA) (te : TEA) (vs : List Nat) : TNA := fun s Q => ti s fun ds ok s1 => lcW g tt te vs ok s1.sl ds [] s1.cs fun acc cs => Q (.lst acc) ⟨s1.sl, cs⟩
/-- what is walked may be a list of our own that stands still -/
def WalksO (J : It) (ad2 : List Addr) (F2 : Hp) (ds : List PyData) (ok : List Cell → Prop) : Prop := ∀ (B3 : Bs) (ad3 : List Addr) (F3 H3 : Hp) (s3 : AS) (σ3 : St), Ext ad2 ad3 → Same F2 F3 → Rl B3 ad3 F3 H3 s3 σ3 → ok s3.cs →
  (∀ (i : Nat) d, ds[i]? = some d → J.go i H3 ∧ ∀ x H4, J.yld i H3 x H4 → ∃ F4, Gr F3 H3 F4 H4 ∧ Da F4 d x) ∧ J.stop ds.length H3
structure IO (X : Cx) (B : Bs) (tg iter : Expr) (t : TIO) : Prop where
  run : ∀ ad F H s σ Q (R : It → Hp → Prop), Rl B ad F H s σ → t s Q → (∀ J ad2 F2 H2 s2 ds ok, Ext ad ad2 → Same F F2 → Rl B ad2 F2 H2 s2 σ → WalksO J ad2 F2 ds ok → ds.length ≤ sizeLine → Q ds ok s2 → R J H2) → WI X tg iter σ H R
def ioT (t : AS → (List PyData → AS → Prop) → Prop) : TIO := fun s Q => t s fun ds s1 => Q ds (fun _ => True) s1
theorem IO.of {X : Cx} {B : Bs} {tg iter : Expr} {t : AS → (List PyData → AS → Prop) → Prop} (h : IA X B tg iter t) : IO X B tg iter (ioT t) := ⟨fun ad F H s σ Q R r ht k => h.run ad F H s σ _ R r ht fun J ad2 F2 H2 s2 ds e2 k2 r2 w hz q => k J ad2 F2 H2 s2 ds _ e2 k2 r2 (fun B3 ad3 F3 H3 s3 σ3 _ k3 r3 _ => w F3 H3 k3 r3.fh) hz q⟩
section
variable {X : Cx} {B : Bs} {σ : St} {F H : Hp} {elt tg iter c : Expr} {scope : Scope} {pos spos py : Pos} {own : List (Str × Nat)} {y : Str} {ti : TIO} {g : TGA} {tt : TTA} {te : TEA} {ks vs : List Nat}
theorem lc_coreB {T : TT} (hg : ∀ s H0 C cl fp, GT (Blk X scope s H0 C cl fp) tg ks g) (hk : ∀ k ∈ ks, k ∈ vs)
    (ht : ∀ B' ad F H s σ Q, Rl B' ad F H s σ → tt s Q → T σ H (PostT B' ad F σ Q)) (hT : ∀ σ H (Q Q' : Bool → Hp → Prop), T σ H Q → (∀ b H', Q b H' → Q' b H') → T σ H Q')
    (he : ∀ s H0 C cl fp B', EA (Blk X scope s H0 C cl fp) B' elt te) {ad : List Addr} {s : AS} {Q : Cell → AS → Prop} {K : VK}
    (hi : ∀ (Q : List PyData → (List Cell → Prop) → AS → Prop) (R : It → Hp → Prop), ti s Q → (∀ J ad2 F2 H2 s2 ds ok, Ext ad ad2 → Same F F2 → Rl B ad2 F2 H2 s2 σ → WalksO J ad2 F2 ds ok → ds.length ≤ sizeLine → Q ds ok s2 → R J H2) → WI X tg iter σ H R) (r : Rl B ad F H s σ) (t : lcN ti g tt te vs s Q) (hK : ∀ v H', PostN B ad F σ Q v H' → K v H') :
    tLc (WI X tg iter) (gB X scope tg) T (eB X scope elt) vs σ H K := by
  refine hi _ _ t fun J ad2 F2 H2 s2 ds ok e2 k2 r2 w hz q D hD => ?_
  obtain ⟨f1, f2, f3⟩ := r2.fresh hD
  have hF2 : F2 D = none := r2.fh.free hD
  refine ⟨fun i m H' => m = ds.length - i ∧ i ≤ ds.length ∧ ∃ ad' F' cs acc ys, Same F2 F' ∧ Ext ad2 ad' ∧ Rl B ad' F' H' ⟨s2.sl, cs⟩ σ ∧ H' D = some (.lst ys) ∧ F' D = none ∧ (D ∉ ad' ∧ D ∉ cs.flatMap Cell.ads) ∧ DaAll F' acc ys ∧ acc.length ≤ i ∧ lcW g tt te vs ok s2.sl (ds.drop i) acc cs (fun acc cs => Q (.lst acc) ⟨s2.sl, cs⟩),
    ⟨ds.length, by simp, Nat.zero_le _, ad2, F2, s2.cs, [], [], Same.refl _, Ext.refl _, r2.gr ((Gr.refl r2.fh).open' hD), upd_same, hF2, ⟨f3, fun z => (r2.inn.fr D z).2 hD⟩, daAll_nil, Nat.le_refl _, q⟩, ?_⟩
  rintro i m H' ⟨rfl, hi', ad', F', cs, acc, ys, sF, eF, r', hHD, hFD, ⟨hDad, hDt⟩, hda, hacc, q'⟩
  have hok : ok cs := by
    cases hdr : ds.drop i with
    | nil => rw [hdr] at q'; exact q'.1
    | cons _ _ => rw [hdr] at q'; exact q'.1
  obtain ⟨w1, w2⟩ := w B ad' F' H' ⟨s2.sl, cs⟩ σ eF sF r' hok
  by_cases hlt : i < ds.length
  · have e0 : ds[i]? = some ds[i] := List.getElem?_eq_getElem hlt
    obtain ⟨go, yl⟩ := w1 i _ e0
    rw [drop_get e0] at q'
    refine .inr ⟨go, fun H3 => i + 1 ≤ ds.length ∧ ∃ ad' F' cs acc ys, Same F2 F' ∧ Ext ad2 ad' ∧ Rl B ad' F' H3 ⟨s2.sl, cs⟩ σ ∧ H3 D = some (.lst ys) ∧ F' D = none ∧ (D ∉ ad' ∧ D ∉ cs.flatMap Cell.ads) ∧ DaAll F' acc ys ∧ acc.length ≤ i + 1 ∧ lcW g tt te vs ok s2.sl (ds.drop (i + 1)) acc cs (fun acc cs => Q (.lst acc) ⟨s2.sl, cs⟩),
      fun H3 p' => ⟨ds.length - (i + 1), by omega, rfl, p'⟩, fun x H4 y => ?_⟩
    obtain ⟨F4, g4, hd⟩ := yl x H4 y
    have r4 := r'.gr g4
    have hHD4 := g4.hh _ _ hHD
    have hFD4 : F4 D = none := g4.f0 hFD hHD
    have rw4 := r4.wipe vs
    intro s0 H0 C cl fp
    refine ((hg s0 H0 C cl fp).run _ ad' F4 H4 _ _ (.d ds[i]) x _ rw4.base hd q'.2).mono2 ?_
    rintro σ5 H5 ⟨rfl, k5, s5, r5, q5⟩
    refine ⟨wipe_keeps k5 hk, hT _ _ _ _ (ht _ ad' F4 H5 s5 σ5 _ r5 q5) fun b H6 q6 => ?_⟩
    obtain ⟨ad6, F6, s6, e6, k6, r6, q6⟩ := q6
    cases b with
    | true =>
      rw [if_pos rfl] at q6
      refine iteT ?_
      intro s0 H0 C cl fp
      refine ((he s0 H0 C cl fp _).run ad6 F6 H6 s6 σ5 _ r6 q6).imp fun v H7 q7 => ?_
      obtain ⟨ad7, F7, z, s7, e7, k7, r7, hv, d, hd7, q7⟩ := q7
      have := AVal.data?_of hd7
      subst this
      obtain ⟨h1, h2, h3, h9⟩ := r7.aside hDad hDt hHD4 hFD4
      have rb := r4.back (rw4.rebase r7) (e6.trans e7) (k6.trans k7)
      refine ⟨ys, h1, ?_, hlt, ad7, F7, s7.cs, acc ++ [d], ys ++ [v], sF.trans (g4.ff.trans (k6.trans k7)), eF.trans (e6.trans e7), rb.aput h3 h2 f1 h9 (r2.offT hD), upd_same, h2, ⟨h3, h9⟩, (hda.mono (g4.ff.trans (k6.trans k7))).snoc hv, by simp; omega, q7⟩
      have h8 := hda.length
      omega
    | false =>
      obtain ⟨h1, h2, h3, h9⟩ := r6.aside hDad hDt hHD4 hFD4
      have rb := r4.back (rw4.rebase r6) e6 k6
      exact iteF ⟨hlt, ad6, F6, s6.cs, acc, ys, sF.trans (g4.ff.trans k6), eF.trans e6, rb, h1, h2, ⟨h3, h9⟩, hda.mono (g4.ff.trans k6), by omega, q6⟩
  · have e : i = ds.length := by omega
    subst e
    rw [List.drop_length] at q'
    refine .inl ⟨w2, hK _ _ ⟨ad', F', .lst acc, ⟨s2.sl, cs⟩, D, out H' D, .lst ys, e2.trans eF, k2.trans sF, r'.aout hDad hFD f1 hDt (r2.offT hD), rfl, out_same, (upd_out hHD).symm, ⟨ys, hHD, hda⟩, rfl, q'.2⟩⟩
theorem lc_coreA {T : TT} (hi : IO X B tg iter ti) (hg : ∀ s H0 C cl fp, GT (Blk X scope s H0 C cl fp) tg ks g) (hk : ∀ k ∈ ks, k ∈ vs)
    (ht : ∀ B' ad F H s σ Q, Rl B' ad F H s σ → tt s Q → T σ H (PostT B' ad F σ Q)) (hT : ∀ σ H (Q Q' : Bool → Hp → Prop), T σ H Q → (∀ b H', Q b H' → Q' b H') → T σ H Q')
    (he : ∀ s H0 C cl fp B', EA (Blk X scope s H0 C cl fp) B' elt te) {ad : List Addr} {s : AS} {Q : Cell → AS → Prop} {K : VK} (r : Rl B ad F H s σ) (t : lcN ti g tt te vs s Q) (hK : ∀ v H', PostN B ad F σ Q v H' → K v H') :
    tLc (WI X tg iter) (gB X scope tg) T (eB X scope elt) vs σ H K := lc_coreB hg hk ht hT he (fun Q R t k => hi.run ad F H s σ Q R r t k) r t hK
theorem tYes_ok {B' : Bs} {ad : List Addr} {F H : Hp} {s : AS} {σ : St} {Q : Bool → AS → Prop} (r : Rl B' ad F H s σ) (t : yesA s Q) : tYes σ H (PostT B' ad F σ Q) := PostT.here r t
theorem en_lc (own : List (Str × Nat)) (o : LcOk X scope own iter) (hi : IO X B tg iter ti) (hg : ∀ s H0 C cl fp, GT (Blk X scope s H0 C cl fp) tg ks g) (he : ∀ s H0 C cl fp B', EA (Blk X scope s H0 C cl fp) B' elt te) (hk : ∀ k ∈ ks, k ∈ own.map (·.2) := by decide) :
    EN X B (.ListComp elt [⟨tg, iter, [], 0⟩] scope pos) (lcN ti g yesA te (own.map (·.2))) := ⟨fun ad F H s σ Q r t =>
  we_of (pe_lc (g := gB X scope tg) (tt := tYes) (te := eB X scope elt) o.calm o.nd pi_wi (blkOk_by o.ok) (fun s H0 C cl fp => ⟨fun pins s' σ H v u Q I r h => h s H0 C cl fp pins s' u I r⟩) (fun _ _ _ _ _ => pts_nil) (fun s H0 C cl fp => ⟨fun pins s' σ H Q I h => h s H0 C cl fp pins s' I⟩) o.fs)
    (lc_coreA hi hg hk (fun B' ad F H s σ Q r t => tYes_ok r t) (fun σ H Q Q' h k => k _ _ h) he r t fun _ _ h => h)⟩
theorem en_lcIf (own : List (Str × Nat)) (o : LcOk X scope own iter) (hi : IO X B tg iter ti) (hg : ∀ s H0 C cl fp, GT (Blk X scope s H0 C cl fp) tg ks g) (ht : ∀ s H0 C cl fp B', ET (Blk X scope s H0 C cl fp) B' c tt) (he : ∀ s H0 C cl fp B', EA (Blk X scope s H0 C cl fp) B' elt te) (hk : ∀ k ∈ ks, k ∈ own.map (·.2) := by decide) :
    EN X B (.ListComp elt [⟨tg, iter, [c], 0⟩] scope pos) (lcN ti g tt te (own.map (·.2))) := ⟨fun ad F H s σ Q r t =>
  we_of (pe_lc (g := gB X scope tg) (tt := tB' X scope c) (te := eB X scope elt) o.calm o.nd pi_wi (blkOk_by o.ok) (fun s H0 C cl fp => ⟨fun pins s' σ H v u Q I r h => h s H0 C cl fp pins s' u I r⟩) (fun s H0 C cl fp => pts_one ⟨fun pins s' σ H Q I h => h s H0 C cl fp pins s' I⟩) (fun s H0 C cl fp => ⟨fun pins s' σ H Q I h => h s H0 C cl fp pins s' I⟩) o.fs)
    (lc_coreA hi hg hk (fun B' ad F H s σ Q r t s0 H0 C cl fp => (ht s0 H0 C cl fp B').run ad F H s σ Q r t) (fun σ H Q Q' h k s0 H0 C cl fp => (h s0 H0 C cl fp).imp k) he r t fun _ _ h => h)⟩
theorem PostN.owned {ad : List Addr} {F : Hp} {Q : VQ} {v : V} {H2 : Hp} (q : PostN B ad F σ (fun c s1 => Q (.r s1.cs.length) ⟨s1.sl, s1.cs ++ [c]⟩) v H2) : Post B ad F σ Q v H2 := by
  obtain ⟨ad2, F2, c, a2, p, H1, o, h1, h2, r2, rfl, hp, rfl, ok, hl, q⟩ := q
  have r3 := r2.push (o := o) hp (ok.mono (ad2 := ad2 ++ [p]) ⟨[p], rfl⟩ (Same.refl _) (fun _ e => e) fun _ _ _ e => e) hl
  exact ⟨_, F2, .r a2.cs.length, _, h1.trans ⟨[p], rfl⟩, h2, r3, ⟨p, by rw [← r2.len]; simp, rfl⟩, q⟩
theorem PostN.frz {ad : List Addr} {F : Hp} {Q : VQ} {v : V} {H2 : Hp} (q : PostN B ad F σ (fun c s1 => onSome (frzC c) fun d => Q (.d d) s1) v H2) : Post B ad F σ Q v H2 := by
  obtain ⟨ad2, F2, c, a2, p, H1, o, h1, h2, r2, rfl, hp, rfl, ok, hl, d, hd, q⟩ := q
  obtain ⟨o', e1, e2⟩ := ok.frz hl (r2.fh.free hp) hd
  rw [upd_same] at e1
  cases e1
  exact (Post.newD r2 hp e2 q).up h1 h2
/-- y = [..] -/
theorem sa_setLcO (k : Nat) (own : List (Str × Nat)) (o : LcOk X scope own iter) (hi : IO X B tg iter ti) (hg : ∀ s H0 C cl fp, GT (Blk X scope s H0 C cl fp) tg ks g) (he : ∀ s H0 C cl fp B', EA (Blk X scope s H0 C cl fp) B' elt te)
    (hk : ∀ k ∈ ks, k ∈ own.map (·.2) := by decide) (hy : X.N[k]? = some y := by rfl) (hyl : X.env.scope.names.lookup y = some .local := by rfl)
    (hsw : swapsWith (.ListComp elt [⟨tg, iter, [], 0⟩] scope pos) (some (.Name y py)) spos.line X.env = pure true := by exact sw_true rfl rfl rfl (by decide +kernel)) :
    SA X B (.Assign [.Name y py] (.ListComp elt [⟨tg, iter, [], 0⟩] scope pos) spos) (setA k (ownA (lcN ti g yesA te (own.map (·.2))))) := ⟨fun D s h ad F H σ r =>
  ws_of (ps_setLc (g := gB X scope tg) (tt := tYes) (te := eB X scope elt) o.calm o.nd hy hyl hsw pi_wi (blkOk_by o.ok) (fun s H0 C cl fp => ⟨fun pins s' σ H v u Q I r h => h s H0 C cl fp pins s' u I r⟩) (fun _ _ _ _ _ => pts_nil) (fun s H0 C cl fp => ⟨fun pins s' σ H Q I h => h s H0 C cl fp pins s' I⟩) o.fs)
    (lc_coreA (Q := fun c s1 => D.nx ⟨s1.sl.set k (some (.r s1.cs.length)), s1.cs ++ [c]⟩) hi hg hk (fun B' ad F H s σ Q r t => tYes_ok r t) (fun σ H Q Q' h k => k _ _ h) he r h fun v H' p => by
      obtain ⟨ad1, F1, y, s1, e1, k1, r1, hv, q⟩ := PostN.owned (Q := fun x s1 => D.nx ⟨s1.sl.set k (some x), s1.cs⟩) p
      exact ⟨ad1, F1, _, r1.set hv, q⟩)⟩
theorem sa_setLcF (k : Nat) (own : List (Str × Nat)) (o : LcOk X scope own iter) (hi : IO X B tg iter ti) (hg : ∀ s H0 C cl fp, GT (Blk X scope s H0 C cl fp) tg ks g) (he : ∀ s H0 C cl fp B', EA (Blk X scope s H0 C cl fp) B' elt te)
    (hk : ∀ k ∈ ks, k ∈ own.map (·.2) := by decide) (hy : X.N[k]? = some y := by rfl) (hyl : X.env.scope.names.lookup y = some .local := by rfl)
    (hsw : swapsWith (.ListComp elt [⟨tg, iter, [], 0⟩] scope pos) (some (.Name y py)) spos.line X.env = pure true := by exact sw_true rfl rfl rfl (by decide +kernel)) :
    SA X B (.Assign [.Name y py] (.ListComp elt [⟨tg, iter, [], 0⟩] scope pos) spos) (setA k (frzA (lcN ti g yesA te (own.map (·.2))))) := ⟨fun D s h ad F H σ r =>
  ws_of (ps_setLc (g := gB X scope tg) (tt := tYes) (te := eB X scope elt) o.calm o.nd hy hyl hsw pi_wi (blkOk_by o.ok) (fun s H0 C cl fp => ⟨fun pins s' σ H v u Q I r h => h s H0 C cl fp pins s' u I r⟩) (fun _ _ _ _ _ => pts_nil) (fun s H0 C cl fp => ⟨fun pins s' σ H Q I h => h s H0 C cl fp pins s' I⟩) o.fs)
    (lc_coreA (Q := fun c s1 => onSome (frzC c) fun d => D.nx ⟨s1.sl.set k (some (.d d)), s1.cs⟩) hi hg hk (fun B' ad F H s σ Q r t => tYes_ok r t) (fun σ H Q Q' h k => k _ _ h) he r h fun v H' p => by
      obtain ⟨ad1, F1, y, s1, e1, k1, r1, hv, q⟩ := PostN.frz (Q := fun x s1 => D.nx ⟨s1.sl.set k (some x), s1.cs⟩) p
      exact ⟨ad1, F1, _, r1.set hv, q⟩)⟩
theorem sa_setLcIfO (k : Nat) (own : List (Str × Nat)) (o : LcOk X scope own iter) (hi : IO X B tg iter ti) (hg : ∀ s H0 C cl fp, GT (Blk X scope s H0 C cl fp) tg ks g) (ht : ∀ s H0 C cl fp B', ET (Blk X scope s H0 C cl fp) B' c tt) (he : ∀ s H0 C cl fp B', EA (Blk X scope s H0 C cl fp) B' elt te)
    (hk : ∀ k ∈ ks, k ∈ own.map (·.2) := by decide) (hy : X.N[k]? = some y := by rfl) (hyl : X.env.scope.names.lookup y = some .local := by rfl)
    (hsw : swapsWith (.ListComp elt [⟨tg, iter, [c], 0⟩] scope pos) (some (.Name y py)) spos.line X.env = pure true := by exact sw_true rfl rfl rfl (by decide +kernel)) :
    SA X B (.Assign [.Name y py] (.ListComp elt [⟨tg, iter, [c], 0⟩] scope pos) spos) (setA k (ownA (lcN ti g tt te (own.map (·.2))))) := ⟨fun D s h ad F H σ r =>
  ws_of (ps_setLc (g := gB X scope tg) (tt := tB' X scope c) (te := eB X scope elt) o.calm o.nd hy hyl hsw pi_wi (blkOk_by o.ok) (fun s H0 C cl fp => ⟨fun pins s' σ H v u Q I r h => h s H0 C cl fp pins s' u I r⟩) (fun s H0 C cl fp => pts_one ⟨fun pins s' σ H Q I h => h s H0 C cl fp pins s' I⟩) (fun s H0 C cl fp => ⟨fun pins s' σ H Q I h => h s H0 C cl fp pins s' I⟩) o.fs)
    (lc_coreA (Q := fun c s1 => D.nx ⟨s1.sl.set k (some (.r s1.cs.length)), s1.cs ++ [c]⟩) hi hg hk (fun B' ad F H s σ Q r t s0 H0 C cl fp => (ht s0 H0 C cl fp B').run ad F H s σ Q r t) (fun σ H Q Q' h k s0 H0 C cl fp => (h s0 H0 C cl fp).imp k) he r h fun v H' p => by
      obtain ⟨ad1, F1, y, s1, e1, k1, r1, hv, q⟩ := PostN.owned (Q := fun x s1 => D.nx ⟨s1.sl.set k (some x), s1.cs⟩) p
      exact ⟨ad1, F1, _, r1.set hv, q⟩)⟩
theorem sa_setLcIfF (k : Nat) (own : List (Str × Nat)) (o : LcOk X scope own iter) (hi : IO X B tg iter ti) (hg : ∀ s H0 C cl fp, GT (Blk X scope s H0 C cl fp) tg ks g) (ht : ∀ s H0 C cl fp B', ET (Blk X scope s H0 C cl fp) B' c tt) (he : ∀ s H0 C cl fp B', EA (Blk X scope s H0 C cl fp) B' elt te)
    (hk : ∀ k ∈ ks, k ∈ own.map (·.2) := by decide) (hy : X.N[k]? = some y := by rfl) (hyl : X.env.scope.names.lookup y = some .local := by rfl)
    (hsw : swapsWith (.ListComp elt [⟨tg, iter, [c], 0⟩] scope pos) (some (.Name y py)) spos.line X.env = pure true := by exact sw_true rfl rfl rfl (by decide +kernel)) :
    SA X B (.Assign [.Name y py] (.ListComp elt [⟨tg, iter, [c], 0⟩] scope pos) spos) (setA k (frzA (lcN ti g tt te (own.map (·.2))))) := ⟨fun D s h ad F H σ r =>
  ws_of (ps_setLc (g := gB X scope tg) (tt := tB' X scope c) (te := eB X scope elt) o.calm o.nd hy hyl hsw pi_wi (blkOk_by o.ok) (fun s H0 C cl fp => ⟨fun pins s' σ H v u Q I r h => h s H0 C cl fp pins s' u I r⟩) (fun s H0 C cl fp => pts_one ⟨fun pins s' σ H Q I h => h s H0 C cl fp pins s' I⟩) (fun s H0 C cl fp => ⟨fun pins s' σ H Q I h => h s H0 C cl fp pins s' I⟩) o.fs)
    (lc_coreA (Q := fun c s1 => onSome (frzC c) fun d => D.nx ⟨s1.sl.set k (some (.d d)), s1.cs⟩) hi hg hk (fun B' ad F H s σ Q r t s0 H0 C cl fp => (ht s0 H0 C cl fp B').run ad F H s σ Q r t) (fun σ H Q Q' h k s0 H0 C cl fp => (h s0 H0 C cl fp).imp k) he r h fun v H' p => by
      obtain ⟨ad1, F1, y, s1, e1, k1, r1, hv, q⟩ := PostN.frz (Q := fun x s1 => D.nx ⟨s1.sl.set k (some x), s1.cs⟩) p
      exact ⟨ad1, F1, _, r1.set hv, q⟩)⟩
end
end Kr

/-! layer A5 -/
namespace Kr
open PySem L2
/-! ## what an abstract value is seen as -/
inductive View where
  | seq (xs : List AVal)
  | dct (kvs : List (Key × AVal))
  | txt (z : Str)
  | oth
def keyOf : PyData → Option Key
  | .int i => some (.inl i)
  | .str x => some (.inr x)
  | _ => none
def unKV : List (PyData × PyData) → Option (List (Key × PyData))
  | [] => some []
  | p :: r => (keyOf p.1).bind fun k => (unKV r).map fun r => (k, p.2) :: r
def dkv (kvs : List (Key × PyData)) : List (Key × AVal) := kvs.map fun p => (p.1, .d p.2)
def viewD : PyData → View
  | .list ds => .seq (ds.map .d)
  | .tuple ds => .seq (ds.map .d)
  | .str z => .txt z
  | .dict kvs => match unKV kvs with
    | some l => .dct (dkv l)
    | none => .oth
  | _ => .oth
/-- the parts of a node -/
def valT (n : Nat) (pt : List Nat) : Tr → AVal
  | .d x => .d x
  | .nd _ a _ => .a a n pt
def kids (n : Nat) (pt : List Nat) (xs : List Tr) : List AVal := xs.mapIdx fun i t => valT n (i :: pt) t
def viewT (n : Nat) (pt : List Nat) (k : Kd) (xs : List Tr) : View := match k with
  | .lst => .seq (kids n pt xs)
  | .tup => .seq (kids n pt xs)
  | .dct ks => .dct (ks.zip (kids n pt xs))
  | .obj _ _ _ => .oth
def viewC (n : Nat) : Cell → View
  | .tr (.nd k _ xs) => viewT n [] k xs
  | .lst ds => .seq (ds.map .d)
  | .nl xs => .seq xs
  | .nt xs => .seq xs
  | .dK kvs => .dct (dkv kvs)
  | .nd kvs => .dct kvs
  | .dl _ _ kvs => .dct (dkv kvs)
  | .fz x => viewD x
  | _ => .oth
def view (s : AS) : AVal → View
  | .d x => viewD x
  | .r n => match s.cs[n]? with
    | some c => viewC n c
    | none => .oth
  | .s _ _ => .oth
  | .a p n pt => match nodeAt s (.a p n pt) with
    | some (m, pt', k, _, xs) => viewT m pt' k xs
    | none => .oth
def AVal.key? : AVal → Option Key
  | .d x => keyOf x
  | _ => none
def getA {α : Type} (kvs : List (Key × α)) (k : Key) : Option α := (kvs.find? fun kv => decide (kv.1 = k)).map (·.2)
def putA {α : Type} (kvs : List (Key × α)) (k : Key) (v : α) : List (Key × α) :=
  if (kvs.any fun kv => decide (kv.1 = k)) = true then kvs.map (fun kv => if kv.1 = k then (kv.1, v) else kv) else kvs ++ [(k, v)]
theorem keyOf_keyD (k : Key) : keyOf (keyD k) = some k := by cases k <;> rfl
theorem unKV_keyD : ∀ kvs : List (Key × PyData), unKV (kvs.map fun p => (keyD p.1, p.2)) = some kvs
  | [] => rfl
  | p :: r => by
    show (keyOf (keyD p.1)).bind _ = _
    rw [keyOf_keyD, unKV_keyD r]; rfl
theorem view_dictD {s : AS} {kvs : List (Key × PyData)} : view s (.d (dictD kvs)) = .dct (dkv kvs) := by
  show (match unKV (kvs.map fun p => (keyD p.1, p.2)) with | some l => View.dct (dkv l) | none => .oth) = _
  rw [unKV_keyD]
section
variable {B : Bs} {ad : List Addr} {F H : Hp} {s : AS} {σ : St} {x y : AVal} {v : V}
theorem keyOf_da {d : PyData} {k : Key} (h : keyOf d = some k) (hd : Da F d v) : v = kV k := by
  cases d <;> simp only [keyOf] at h <;> cases h <;> exact hd
theorem AVal.key?_ok {k : Key} (h : x.key? = some k) (hv : VOk ad F x v) : v = kV k := by
  cases x with
  | d x => exact keyOf_da h hv
  | r n => cases h
  | s _ _ => cases h
  | a _ _ _ => cases h
theorem valT_ok {n : Nat} {pt : List Nat} {t : Tr} (h : TrOk F H t v) : VOk ad F (valT n pt t) v := by
  cases t with
  | d x => exact h
  | nd k a xs => exact h.node.1
theorem kids_ok {n : Nat} {pt : List Nat} {xs : List Tr} {vs : List V} (h : TrAll F H xs vs) : Paired (VOk ad F) (kids n pt xs) vs := by
  have key : ∀ (g : Nat → List Nat) (xs : List Tr) (vs : List V), TrAll F H xs vs → Paired (VOk ad F) (xs.mapIdx fun i t => valT n (g i) t) vs := by
    intro g xs
    induction xs generalizing g with
    | nil => intro vs h; obtain rfl := (show vs = [] from h); exact .nil
    | cons t ts ih =>
      intro vs h
      obtain ⟨v, r, rfl, h1, h2⟩ := (show ∃ v r, vs = v :: r ∧ TrOk F H t v ∧ TrAll F H ts r from h)
      rw [List.mapIdx_cons]
      exact .cons (valT_ok h1) (ih (fun i => g (i + 1)) r h2)
  exact key _ xs vs h
theorem kids_len {n : Nat} {pt : List Nat} {xs : List Tr} : (kids n pt xs).length = xs.length := by unfold kids; simp
theorem zip_ok {ks : List Key} {xs : List AVal} {vs : List V} (h : Paired (VOk ad F) xs vs) : KrOk ad F (ks.zip xs) (ks.zip vs) := by
  induction h generalizing ks with
  | nil => simp; exact .nil
  | cons h t ih =>
    cases ks with
    | nil => exact .nil
    | cons k ks => exact .cons ⟨rfl, h⟩ ih
theorem viewT_seq {n : Nat} {pt : List Nat} {k : Kd} {q : Addr} {xs : List Tr} {vs : List V} {ys : List AVal} (e : viewT n pt k xs = .seq ys) (h1 : H q = some (k.ho vs)) (h2 : TrAll F H xs vs) : (H q = some (.lst vs) ∨ H q = some (.tup vs)) ∧ Paired (VOk ad F) ys vs := by
  cases k with
  | lst => cases e; exact ⟨.inl h1, kids_ok h2⟩
  | tup => cases e; exact ⟨.inr h1, kids_ok h2⟩
  | dct ks => cases e
  | obj _ _ _ => cases e
theorem viewT_dct {n : Nat} {pt : List Nat} {k : Kd} {q : Addr} {xs : List Tr} {vs : List V} {kvs : List (Key × AVal)} (e : viewT n pt k xs = .dct kvs) (h1 : H q = some (k.ho vs)) (h2 : TrAll F H xs vs) : ∃ es, Rd H q (.dK es) ∧ KrOk ad F kvs es := by
  cases k with
  | lst => cases e
  | tup => cases e
  | dct ks => cases e; exact ⟨_, .inl h1, zip_ok (kids_ok h2)⟩
  | obj _ _ _ => cases e
theorem viewT_txt {n : Nat} {pt : List Nat} {k : Kd} {xs : List Tr} {z : Str} (e : viewT n pt k xs = .txt z) : False := by
  cases k <;> cases e
theorem krOk_dkv {kvs : List (Key × PyData)} {es : List (Key × V)} (h : KvOk F kvs es) : KrOk ad F (dkv kvs) es := by
  unfold dkv KrOk
  unfold KvOk at h
  induction h with
  | nil => exact .nil
  | cons h t ih => exact .cons h ih
theorem kvOk_of : ∀ {kvs : List (PyData × PyData)} {l : List (Key × PyData)} {es : List (Key × V)}, unKV kvs = some l → DaKV F kvs es → KvOk F l es
  | [], l, es, h, hd => by cases h; obtain rfl := (show es = [] from hd); exact .nil
  | (k, d) :: r, l, es, h, hd => by
    obtain ⟨k', v, r', rfl, h0, h1, h2⟩ := (show ∃ k' v r', es = (k', v) :: r' ∧ KeyD k k' ∧ Da F d v ∧ DaKV F r r' from hd)
    have h' : (keyOf k).bind (fun k => (unKV r).map fun r => (k, d) :: r) = some l := h
    cases hk : keyOf k with
    | none => rw [hk] at h'; cases h'
    | some k2 =>
      rw [hk] at h'
      cases hr : unKV r with
      | none => rw [hr] at h'; cases h'
      | some r2 =>
        rw [hr] at h'
        cases h'
        refine .cons ⟨?_, h1⟩ (kvOk_of hr h2)
        cases k <;> simp only [keyOf] at hk <;> cases hk <;> cases k' <;> simp only [KeyD] at h0
        · rw [h0]
        · rw [h0]
theorem viewD_seq {d : PyData} {xs : List AVal} (e : viewD d = .seq xs) (h : Da F d v) : ∃ l vs, v = .ref l ∧ (F l = some (.lst vs) ∨ F l = some (.tup vs)) ∧ Paired (VOk ad F) xs vs := by
  cases d with
  | list ds => cases e; obtain ⟨a, vs, rfl, h1, h2⟩ := h; exact ⟨a, vs, rfl, .inl h1, pairedD h2⟩
  | tuple ds => cases e; obtain ⟨a, vs, rfl, h1, h2⟩ := h; exact ⟨a, vs, rfl, .inr h1, pairedD h2⟩
  | dict kvs =>
    simp only [viewD] at e
    split at e <;> cases e
  | _ => cases e
theorem viewD_dct {d : PyData} {kvs : List (Key × AVal)} (e : viewD d = .dct kvs) (h : Da F d v) : ∃ l es, v = .ref l ∧ Rd F l (.dK es) ∧ KrOk ad F kvs es := by
  cases d with
  | dict k =>
    simp only [viewD] at e
    split at e
    · rename_i l hl
      cases e
      obtain ⟨a, es, rfl, h1, h2⟩ := h
      exact ⟨a, es, rfl, h1, krOk_dkv (kvOk_of hl h2)⟩
    · cases e
  | _ => cases e
theorem viewD_txt {d : PyData} {z : Str} (e : viewD d = .txt z) (h : Da F d v) : v = .str z := by
  cases d with
  | str k => cases e; exact h
  | dict kvs =>
    simp only [viewD] at e
    split at e <;> cases e
  | _ => cases e
theorem VOk.seq {xs : List AVal} (r : Rl B ad F H s σ) (h : VOk ad F x v) (e : view s x = .seq xs) : ∃ l vs, v = .ref l ∧ (H l = some (.lst vs) ∨ H l = some (.tup vs)) ∧ Paired (VOk ad F) xs vs := by
  cases x with
  | s _ _ => cases e
  | d x =>
    obtain ⟨l, vs, h1, h2, h3⟩ := viewD_seq (ad := ad) e h
    exact ⟨l, vs, h1, h2.elim (fun z => .inl (r.fh _ _ z)) (fun z => .inr (r.fh _ _ z)), h3⟩
  | r n =>
    obtain ⟨a, h1, rfl⟩ := h
    simp only [view] at e
    split at e
    · rename_i c hc
      obtain ⟨_, _, ok⟩ := r.cel n a c h1 hc
      cases c with
      | lst ds => cases e; obtain ⟨vs, h2, h3⟩ := ok; exact ⟨a, vs, rfl, .inl h2, pairedD h3⟩
      | nl xs => cases e; obtain ⟨vs, h2, h3⟩ := ok; exact ⟨a, vs, rfl, .inl h2, h3⟩
      | nt xs => cases e; obtain ⟨vs, h2, h3⟩ := ok; exact ⟨a, vs, rfl, .inr h2, h3⟩
      | fz y =>
        obtain ⟨l, vs, h1, h2, h3⟩ := viewD_seq (ad := ad) (F := F) e ok
        exact ⟨l, vs, h1, h2.elim (fun z => .inl (r.fh _ _ z)) (fun z => .inr (r.fh _ _ z)), h3⟩
      | tr t => cases t with
        | d _ => cases e
        | nd k q ys =>
          obtain ⟨h2, h3⟩ := ok
          cases h2
          obtain ⟨_, vs, h4, _, h5⟩ := h3.node
          obtain ⟨h6, h7⟩ := viewT_seq (ad := ad) e h4 h5
          exact ⟨_, vs, rfl, h6, h7⟩
      | _ => cases e
    · cases e
  | a p n pt =>
    simp only [view] at e
    split at e
    · rename_i m pt' k q ys hn
      obtain ⟨t, p', vs, N⟩ := nodeAt_ok r h hn
      obtain ⟨h6, h7⟩ := viewT_seq (ad := ad) e N.ho N.kids
      exact ⟨q, vs, N.val, h6, h7⟩
    · cases e
theorem Rd.up {F H : Hp} {a : Addr} {u : HO} (s : Same F H) (h : Rd F a u) : Rd H a u := h.elim (fun z => .inl (s _ _ z)) fun ⟨o, z⟩ => .inr ⟨o, s _ _ z⟩
theorem VOk.dct {kvs : List (Key × AVal)} (r : Rl B ad F H s σ) (h : VOk ad F x v) (e : view s x = .dct kvs) : ∃ l es, v = .ref l ∧ Rd H l (.dK es) ∧ KrOk ad F kvs es := by
  cases x with
  | s _ _ => cases e
  | d x =>
    obtain ⟨l, vs, h1, h2, h3⟩ := viewD_dct (ad := ad) e h
    exact ⟨l, vs, h1, Rd.up r.fh h2, h3⟩
  | r n =>
    obtain ⟨a, h1, rfl⟩ := h
    simp only [view] at e
    split at e
    · rename_i c hc
      obtain ⟨_, _, ok⟩ := r.cel n a c h1 hc
      cases c with
      | dK ds => cases e; obtain ⟨vs, h2, h3⟩ := ok; exact ⟨a, vs, rfl, .inl h2, krOk_dkv h3⟩
      | dl od es ds => cases e; obtain ⟨h2, h3⟩ := ok; exact ⟨a, es, rfl, .inr ⟨od, h2⟩, krOk_dkv h3⟩
      | nd xs => cases e; obtain ⟨vs, h2, h3⟩ := ok; exact ⟨a, vs, rfl, .inl h2, h3⟩
      | fz y =>
        obtain ⟨l, vs, h1, h2, h3⟩ := viewD_dct (ad := ad) (F := F) e ok
        exact ⟨l, vs, h1, Rd.up r.fh h2, h3⟩
      | tr t => cases t with
        | d _ => cases e
        | nd k q ys =>
          obtain ⟨h2, h3⟩ := ok
          cases h2
          obtain ⟨_, vs, h4, _, h5⟩ := h3.node
          obtain ⟨es, h6, h7⟩ := viewT_dct (ad := ad) e h4 h5
          exact ⟨_, es, rfl, h6, h7⟩
      | _ => cases e
    · cases e
  | a p n pt =>
    simp only [view] at e
    split at e
    · rename_i m pt' k q ys hn
      obtain ⟨t, p', vs, N⟩ := nodeAt_ok r h hn
      obtain ⟨es, h6, h7⟩ := viewT_dct (ad := ad) e N.ho N.kids
      exact ⟨q, es, N.val, h6, h7⟩
    · cases e
theorem VOk.txt {z : Str} (r : Rl B ad F H s σ) (h : VOk ad F x v) (e : view s x = .txt z) : v = .str z := by
  cases x with
  | s _ _ => cases e
  | d x => exact viewD_txt e h
  | r n =>
    obtain ⟨a, h1, rfl⟩ := h
    simp only [view] at e
    split at e
    · rename_i c hc
      obtain ⟨_, _, ok⟩ := r.cel n a c h1 hc
      cases c with
      | fz y => exact viewD_txt (F := F) e ok
      | tr t => cases t with
        | d _ => cases e
        | nd k q ys => exact (viewT_txt e).elim
      | _ => cases e
    · cases e
  | a p n pt =>
    simp only [view] at e
    split at e
    · exact (viewT_txt e).elim
    · cases e
theorem Paired.get {α β : Type} {R : α → β → Prop} : ∀ {xs : List α} {ys : List β} {i : Nat} {x : α}, Paired R xs ys → xs[i]? = some x → ∃ y, ys[i]? = some y ∧ R x y
  | _, _, _, _, .nil, e => by simp at e
  | _, _, 0, _, .cons h _, e => by simp at e; subst e; exact ⟨_, rfl, h⟩
  | _, _, i + 1, x, .cons _ t, e => by
    obtain ⟨y, h1, h2⟩ := Paired.get (i := i) t (by simpa using e)
    exact ⟨y, by simpa using h1, h2⟩
theorem Paired.atI {α β : Type} {R : α → β → Prop} {xs : List α} {ys : List β} {i : Int} {x : α} (h : Paired R xs ys) (e : L2.atI xs i = some x) : ∃ y, L2.atI ys i = some y ∧ R x y := by
  unfold L2.atI at e ⊢
  rw [← Paired.len h]
  cases hj : ixN xs.length i with
  | none => rw [hj] at e; simp at e
  | some j =>
    rw [hj] at e
    exact Paired.get h (by simpa using e)
theorem KrOk.get {kvs : List (Key × AVal)} {es : List (Key × V)} {k : Key} (h : KrOk ad F kvs es) : match getA kvs k with | some x => ∃ v, valV es k = some v ∧ VOk ad F x v | none => valV es k = none := by
  unfold KrOk at h
  induction h with
  | nil => rfl
  | @cons p q ps qs h t ih =>
    by_cases hk : p.1 = k
    · have : getA (p :: ps) k = some p.2 := by simp [getA, List.find?_cons, hk]
      rw [this]
      exact ⟨q.2, valV_pos (h.1.symm.trans hk), h.2⟩
    · have e1 : getA (p :: ps) k = getA ps k := by simp [getA, List.find?_cons, hk]
      have e2 : valV (q :: qs) k = valV qs k := valV_neg (by rw [← h.1]; exact hk)
      rw [e1, e2]
      exact ih
theorem any_keys {α β : Type} {R : α → β → Prop} {kvs : List (Key × α)} {es : List (Key × β)} {k : Key} (h : Paired (fun p q => p.1 = q.1 ∧ R p.2 q.2) kvs es) : (kvs.any fun kv => decide (kv.1 = k)) = (es.any fun kv => decide (kv.1 = k)) := by
  induction h with
  | nil => rfl
  | cons h t ih => simp only [List.any_cons, ih, h.1]
theorem put_pair {α : Type} {R : α → V → Prop} {kvs : List (Key × α)} {es : List (Key × V)} {k : Key} {x : α} {v : V} (h : Paired (fun p q => p.1 = q.1 ∧ R p.2 q.2) kvs es) (hx : R x v) : Paired (fun p q => p.1 = q.1 ∧ R p.2 q.2) (putA kvs k x) (putK es k v) := by
  unfold putA putK
  rw [any_keys h]
  split
  · rename_i hany
    clear hany
    induction h with
    | nil => exact .nil
    | @cons p q ps qs h t ih =>
      refine .cons ?_ ih
      dsimp only
      rw [← h.1]
      by_cases hk : p.1 = k
      · rw [if_pos hk, if_pos hk]; exact ⟨rfl, hx⟩
      · rw [if_neg hk, if_neg hk]; exact h
  · exact Paired.snoc h ⟨rfl, hx⟩
end
/-! ## operators -/
section
variable {X : Cx} {B : Bs}
def intOp (C : Int → Int → Prop) (g : Int → Int → Int) : AVal → AVal → TEA := fun x y s Q => onSome x.int? fun i => onSome y.int? fun j => C i j ∧ Q (.d (.int (g i j))) s
theorem opa_I {f : Value → Value → Sem Value} {C : Int → Int → Prop} {g : Int → Int → Int} (ho : OpR X f (rI C fun i j => .int (g i j))) : OpA X B f (intOp C g) := fun ad F H s σ x y u v Q r hx hy ⟨i, ei, j, ej, hc, q⟩ => by
  have e1 := AVal.int?_of ei
  have e2 := AVal.int?_of ej
  subst e1; subst e2
  exact ⟨_, ho, i, j, hx, hy, hc, .here (x := .d (.int (g i j))) r rfl q⟩
def intOp0 (g : Int → Int → Int) : AVal → AVal → TEA := fun x y s Q => onSome x.int? fun i => onSome y.int? fun j => Q (.d (.int (g i j))) s
theorem opa_I0 {f : Value → Value → Sem Value} {g : Int → Int → Int} (ho : OpR X f (rI0 fun i j => .int (g i j))) : OpA X B f (intOp0 g) := fun ad F H s σ x y u v Q r hx hy ⟨i, ei, j, ej, q⟩ => by
  have e1 := AVal.int?_of ei
  have e2 := AVal.int?_of ej
  subst e1; subst e2
  exact ⟨_, ho, i, j, hx, hy, .here (x := .d (.int (g i j))) r rfl q⟩
def subA : AVal → AVal → TEA := intOp0 fun i j => i - j
def fdivA : AVal → AVal → TEA := intOp CDiv fun i j => i / j
def modA : AVal → AVal → TEA := intOp (fun _ j => 0 < j) fun i j => i % j
def powA : AVal → AVal → TEA := intOp CPow fun i j => i ^ j.toNat
def shlA : AVal → AVal → TEA := intOp CPow fun i j => i * 2 ^ j.toNat
def shrA : AVal → AVal → TEA := intOp (fun _ j => 0 ≤ j) fun i j => i / 2 ^ j.toNat
def bandA : AVal → AVal → TEA := intOp0 fun i j => Builtin.bitAnd i j
theorem o_sub : OpA X B (binaryOp .Sub) subA := opa_I0 op_sub
theorem o_fdiv : OpA X B (binaryOp .FloorDiv) fdivA := opa_I op_fdiv
theorem o_mod : OpA X B (binaryOp .Mod) modA := opa_I op_mod
theorem o_pow : OpA X B (binaryOp .Pow) powA := opa_I op_pow
theorem o_shl : OpA X B (binaryOp .LShift) shlA := opa_I op_shl
theorem o_shr : OpA X B (binaryOp .RShift) shrA := opa_I op_shr
theorem o_band : OpA X B (binaryOp .BitAnd) bandA := opa_I0 op_and
/-- + of ints, texts, lists (told for good) -/
def addA : AVal → AVal → TEA := fun x y s Q => match x with
  | .d (.int i) => onSome y.int? fun j => Q (.d (.int (i + j))) s
  | .d (.str p) => onSome y.str? fun q => p.length + q.length ≤ sizeLine ∧ Q (.d (.str (p ++ q))) s
  | x => onSome (listOf s x) fun ds => onSome (listOf s y) fun es => ds.length + es.length ≤ sizeLine ∧ Q (.d (.list (ds ++ es))) s
theorem o_add : OpA X B (binaryOp .Add) addA := fun ad F H s σ x y u v Q r hx hy t => by
  have lists : ∀ {x : AVal} {u : V}, VOk ad F x u → (onSome (listOf s x) fun ds => onSome (listOf s y) fun es => ds.length + es.length ≤ sizeLine ∧ Q (.d (.list (ds ++ es))) s) → ∃ r, OpR X (binaryOp .Add) r ∧ r u v H (Post B ad F σ Q) := by
    rintro x u hx ⟨ds, e1, es, e2, hz, q⟩
    obtain ⟨l, vs, rfl, h1, h2⟩ := hx.list r e1
    obtain ⟨m, us, rfl, h3, h4⟩ := hy.list r e2
    exact ⟨_, op_cat, l, m, vs, us, rfl, rfl, h1, h3, by rw [h2.length, h4.length]; exact hz, fun p hp => .newD (d := .list (ds ++ es)) r hp ⟨p, _, rfl, upd_same, (h2.append h4).mono (same_upd (r.fh.free hp))⟩ q⟩
  unfold addA at t
  split at t
  · rename_i i
    obtain ⟨j, e, q⟩ := t
    have := AVal.int?_of e
    subst this
    exact ⟨_, op_add, i, j, hx, hy, .here (x := .d (.int (i + j))) r rfl q⟩
  · rename_i p
    obtain ⟨j, e, hz, q⟩ := t
    have := AVal.str?_of e
    subst this
    exact ⟨_, op_add_str, p, j, hx, hy, hz, .here (x := .d (.str (p ++ j))) r rfl q⟩
  · exact lists hx t
/-- + of lists, a new cell -/
def catN : AVal → AVal → TNA := fun x y s Q => onSome (listOf s x) fun ds => onSome (listOf s y) fun es => ds.length + es.length ≤ sizeLine ∧ Q (.lst (ds ++ es)) s
theorem o_cat : OpN X B (binaryOp .Add) catN := fun ad F H s σ x y u v Q r hx hy ⟨ds, e1, es, e2, hz, q⟩ => by
  obtain ⟨l, vs, rfl, h1, h2⟩ := hx.list r e1
  obtain ⟨m, us, rfl, h3, h4⟩ := hy.list r e2
  exact ⟨_, op_cat, l, m, vs, us, rfl, rfl, h1, h3, by rw [h2.length, h4.length]; exact hz, fun p hp => .here (c := .lst (ds ++ es)) r hp ⟨_, upd_same, h2.append h4⟩ rfl q⟩
/-- * of ints, of a list and an int -/
def repL (n : Int) (ds : List PyData) : List PyData := (List.replicate n.toNat ds).flatten
def mulA : AVal → AVal → TEA := fun x y s Q => match x with
  | .d (.int i) => onSome y.int? fun j => CMul i j ∧ Q (.d (.int (i * j))) s
  | x => onSome (listOf s x) fun ds => onSome y.int? fun n => (-(2 ^ 63) ≤ n ∧ n < 2 ^ 63 ∧ ds.length * n.toNat ≤ sizeLine) ∧ Q (.d (.list (repL n ds))) s
theorem o_mul : OpA X B (binaryOp .Mult) mulA := fun ad F H s σ x y u v Q r hx hy t => by
  have lists : ∀ {x : AVal} {u : V}, VOk ad F x u → (onSome (listOf s x) fun ds => onSome y.int? fun n => (-(2 ^ 63) ≤ n ∧ n < 2 ^ 63 ∧ ds.length * n.toNat ≤ sizeLine) ∧ Q (.d (.list (repL n ds))) s) → ∃ r, OpR X (binaryOp .Mult) r ∧ r u v H (Post B ad F σ Q) := by
    rintro x u hx ⟨ds, e1, n, e2, ⟨h1, h2, hz⟩, q⟩
    have := AVal.int?_of e2
    subst this
    obtain ⟨l, vs, rfl, h3, h4⟩ := hx.list r e1
    exact ⟨_, op_rep, l, n, vs, rfl, hy, h3, h1, h2, by rw [h4.length]; exact hz, fun p hp => .newD (d := .list (repL n ds)) r hp ⟨p, _, rfl, upd_same, (daAll_rep h4 _).mono (same_upd (r.fh.free hp))⟩ q⟩
  unfold mulA at t
  split at t
  · rename_i i
    obtain ⟨j, e, hc, q⟩ := t
    have := AVal.int?_of e
    subst this
    exact ⟨_, op_mul, i, j, hx, hy, hc, .here (x := .d (.int (i * j))) r rfl q⟩
  · exact lists hx t
def repN : AVal → AVal → TNA := fun x y s Q => onSome (listOf s x) fun ds => onSome y.int? fun n => (-(2 ^ 63) ≤ n ∧ n < 2 ^ 63 ∧ ds.length * n.toNat ≤ sizeLine) ∧ Q (.lst (repL n ds)) s
theorem o_rep : OpN X B (binaryOp .Mult) repN := fun ad F H s σ x y u v Q r hx hy ⟨ds, e1, n, e2, ⟨h1, h2, hz⟩, q⟩ => by
  have := AVal.int?_of e2
  subst this
  obtain ⟨l, vs, rfl, h3, h4⟩ := hx.list r e1
  exact ⟨_, op_rep, l, n, vs, rfl, hy, h3, h1, h2, by rw [h4.length]; exact hz, fun p hp => .here (c := .lst (repL n ds)) r hp ⟨_, upd_same, daAll_rep h4 _⟩ rfl q⟩
/-! ### comparisons -/
def intT (g : Int → Int → Bool) : AVal → AVal → TTA := fun x y s Q => onSome x.int? fun i => onSome y.int? fun j => Q (g i j) s
theorem opt_I {f : Value → Value → Sem Value} {g : Int → Int → Bool} (ho : OpR X f (rI0 fun i j => .bl (g i j))) : OpT X B f (intT g) := fun ad F H s σ x y u v Q r hx hy ⟨i, ei, j, ej, q⟩ => by
  have e1 := AVal.int?_of ei
  have e2 := AVal.int?_of ej
  subst e1; subst e2
  exact ⟨_, _, q, ho, fun K k => ⟨i, j, hx, hy, k⟩⟩
def leT : AVal → AVal → TTA := intT fun i j => decide (i ≤ j)
def gtT : AVal → AVal → TTA := intT fun i j => decide (j < i)
def geT : AVal → AVal → TTA := intT fun i j => decide (j ≤ i)
theorem o_le : OpT X B (compareOp .LtE) leT := opt_I op_le
theorem o_gt : OpT X B (compareOp .Gt) gtT := opt_I op_gt
theorem o_ge : OpT X B (compareOp .GtE) geT := opt_I op_ge
def ltT : AVal → AVal → TTA := fun x y s Q => match x with
  | .d (.str p) => onSome y.str? fun q => Q (decide (p.cps.toList < q.cps.toList)) s
  | x => onSome x.int? fun i => onSome y.int? fun j => Q (decide (i < j)) s
theorem o_lt : OpT X B (compareOp .Lt) ltT := fun ad F H s σ x y u v Q r hx hy t => by
  unfold ltT at t
  split at t
  · obtain ⟨j, e, q⟩ := t
    have := AVal.str?_of e
    subst this
    exact ⟨_, _, q, op_lt_str, fun K k => ⟨_, j, hx, hy, k⟩⟩
  · obtain ⟨i, ei, j, ej, q⟩ := t
    have e1 := AVal.int?_of ei
    have e2 := AVal.int?_of ej
    subst e1; subst e2
    exact ⟨_, _, q, op_lt, fun K k => ⟨i, j, hx, hy, k⟩⟩
def eqOk : PyData → PyData → Prop
  | .int _, .int _ => True
  | .str _, .str _ => True
  | .bool _, .bool _ => True
  | d, e => SeqAt.shaped d = true ∧ SeqAt.shaped e = true
theorem lay_list0 {ds : List PyData} (h : (PyData.list ds).canLay0 = true) : PyData.canLayAll0 ds = true := by simpa [PyData.canLay0] using h
theorem lay_tup0 {ds : List PyData} (h : (PyData.tuple ds).canLay0 = true) : PyData.canLayAll0 ds = true := by simpa [PyData.canLay0] using h
mutual
theorem TrOk.dp {K : PySem.W.Frag} {F H : Hp} (s : Same F H) : ∀ {t : Tr} {v : V} {d : PyData}, TrOk F H t v → t.data? = some d → d.canLay0 = true → Dp K H v d
  | .d x, v, d, h, e, c => by cases e; exact (Da.mono s h).dp c
  | .nd k a xs, v, d, h, e, c => by
    obtain ⟨h0, vs, h1, _, h3⟩ := h.node
    subst h0
    cases k with
    | lst =>
      have e' : (Tr.datas? xs).map PyData.list = some d := e
      cases hd : Tr.datas? xs with
      | none => rw [hd] at e'; cases e'
      | some ds => rw [hd] at e'; cases e'; exact .lst (SqL.of h1) (TrAll.dp s h3 hd (lay_list0 c))
    | tup =>
      have e' : (Tr.datas? xs).map PyData.tuple = some d := e
      cases hd : Tr.datas? xs with
      | none => rw [hd] at e'; cases e'
      | some ds => rw [hd] at e'; cases e'; exact .tup (SqT.of h1) (TrAll.dp s h3 hd (lay_tup0 c))
    | dct ks =>
      have e' : (Tr.datas? xs).map (fun ds => dictD (ks.zip ds)) = some d := e
      cases hd : Tr.datas? xs with
      | none => rw [hd] at e'; cases e'
      | some ds => rw [hd] at e'; cases e'; simp [dictD, PyData.canLay0] at c
    | obj _ _ _ => cases e
theorem TrAll.dp {K : PySem.W.Frag} {F H : Hp} (s : Same F H) : ∀ {ts : List Tr} {vs : List V} {ds : List PyData}, TrAll F H ts vs → Tr.datas? ts = some ds → PyData.canLayAll0 ds = true → DpAll K H vs ds
  | [], vs, ds, h, e, _ => by cases e; obtain rfl := (show vs = [] from h); exact .nil
  | t :: ts, vs, ds, h, e, c => by
    obtain ⟨v, r, rfl, h1, h2⟩ := (show ∃ v r, vs = v :: r ∧ TrOk F H t v ∧ TrAll F H ts r from h)
    unfold Tr.datas? at e
    split at e
    · rename_i y ys h3 h4
      cases e
      have c' : y.canLay0 = true ∧ PyData.canLayAll0 ys = true := by simpa [PyData.canLayAll0] using c
      exact .cons (TrOk.dp s h1 h3 c'.1) (TrAll.dp s h2 h4 c'.2)
    · cases e
end
theorem data_node {k : Kd} {q : Addr} {xs : List Tr} {d : PyData} (e : Tr.data? (.nd k q xs) = some d) : (∃ ds, d = .list ds) ∨ (∃ ds, d = .tuple ds) ∨ ∃ kvs, d = .dict kvs := by
  cases k with
  | lst =>
    have e' : (Tr.datas? xs).map PyData.list = some d := e
    cases hd : Tr.datas? xs with
    | none => rw [hd] at e'; cases e'
    | some ds => rw [hd] at e'; cases e'; exact .inl ⟨_, rfl⟩
  | tup =>
    have e' : (Tr.datas? xs).map PyData.tuple = some d := e
    cases hd : Tr.datas? xs with
    | none => rw [hd] at e'; cases e'
    | some ds => rw [hd] at e'; cases e'; exact .inr (.inl ⟨_, rfl⟩)
  | dct ks =>
    have e' : (Tr.datas? xs).map (fun ds => dictD (ks.zip ds)) = some d := e
    cases hd : Tr.datas? xs with
    | none => rw [hd] at e'; cases e'
    | some ds => rw [hd] at e'; cases e'; exact .inr (.inr ⟨_, rfl⟩)
  | obj _ _ _ => cases e
theorem VOk.dp {ad : List Addr} {F H : Hp} {s : AS} {σ : St} {x : AVal} {v : V} {d : PyData} (r : Rl B ad F H s σ) (h : VOk ad F x v) (e : dataOf s x = some d) (hc : d.canLay0 = true) : Dp X.K H v d := by
  cases x with
  | s _ _ => cases e
  | d x => cases e; exact (Da.mono r.fh h).dp hc
  | r n =>
    obtain ⟨a, h1, rfl⟩ := h
    cases hq : s.cs[n]? with
    | none => simp [dataOf, hq] at e
    | some c =>
      have e' : cellD c = some d := by simpa [dataOf, hq] using e
      obtain ⟨n0, l, ok⟩ := r.cel n a c h1 hq
      cases c with
      | tr t => exact ok.2.dp r.fh e' hc
      | lst ds =>
        cases e'
        obtain ⟨vs, h2, h3⟩ := ok
        exact Da.dp (H := H) (d := .list ds) ⟨a, vs, rfl, h2, h3.mono r.fh⟩ hc
      | dK kvs => cases e'; simp [dictD, PyData.canLay0] at hc
      | fz y => cases e'; exact (Da.mono r.fh ok).dp hc
      | _ => cases e'
  | a p n pt =>
    simp only [dataOf] at e
    split at e
    · rename_i m pt' k q ys hn
      obtain ⟨t, p', vs, N⟩ := nodeAt_ok r h hn
      have := N.val
      subst this
      exact TrOk.dp r.fh (TrOk.of N.ho N.side N.kids) e hc
    · cases e
theorem eqv_sc {ad : List Addr} {F : Hp} {d e : PyData} {u v : V} (h1 : Da F d u) (h2 : Da F e v) (hs : (∃ i j, d = .int i ∧ e = .int j) ∨ (∃ i j, d = .str i ∧ e = .str j) ∨ ∃ i j, d = .bool i ∧ e = .bool j) : scal u v = true ∧ decide (u = v) = PyData.eqv d e := by
  rcases hs with ⟨i, j, rfl, rfl⟩ | ⟨i, j, rfl, rfl⟩ | ⟨i, j, rfl, rfl⟩
  · obtain rfl : u = .int i := h1
    obtain rfl : v = .int j := h2
    exact ⟨rfl, by simp [PyData.eqv, Bool.beq_eq_decide_eq, eq_comm]⟩
  · obtain rfl : u = .str i := h1
    obtain rfl : v = .str j := h2
    exact ⟨rfl, by simp [PyData.eqv, Bool.beq_eq_decide_eq, eq_comm]⟩
  · obtain rfl : u = .bl i := h1
    obtain rfl : v = .bl j := h2
    exact ⟨rfl, by simp [PyData.eqv, Bool.beq_eq_decide_eq, eq_comm]⟩
def eqT (neg : Bool) : AVal → AVal → TTA := fun x y s Q => onSome (dataOf s x) fun d => onSome (dataOf s y) fun e => eqOk d e ∧ Q (PyData.eqv d e != neg) s
theorem data_sc {ad : List Addr} {F H : Hp} {s : AS} {σ : St} {x : AVal} {v : V} {d : PyData} (r : Rl B ad F H s σ) (h : VOk ad F x v) (e : dataOf s x = some d) (hs : (∃ i, d = .int i) ∨ (∃ i, d = .str i) ∨ ∃ i, d = .bool i) : Da F d v := by
  cases x with
  | s _ _ => cases e
  | d x => cases e; exact h
  | r n =>
    obtain ⟨a, h1, rfl⟩ := h
    cases hq : s.cs[n]? with
    | none => simp [dataOf, hq] at e
    | some c =>
      have e' : cellD c = some d := by simpa [dataOf, hq] using e
      obtain ⟨n0, l, ok⟩ := r.cel n a c h1 hq
      cases c with
      | tr t => cases t with
        | d x => cases e'; exact ok.2
        | nd k q ys => rcases data_node (q := q) e' with ⟨_, rfl⟩ | ⟨_, rfl⟩ | ⟨_, rfl⟩ <;> simp at hs
      | fz y => cases e'; exact ok
      | lst ds => cases e'; rcases hs with ⟨i, z⟩ | ⟨i, z⟩ | ⟨i, z⟩ <;> cases z
      | dK ds => cases e'; rcases hs with ⟨i, z⟩ | ⟨i, z⟩ | ⟨i, z⟩ <;> cases z
      | _ => cases e'
  | a p n pt =>
    simp only [dataOf] at e
    split at e
    · rename_i m pt' k q ys hn
      rcases data_node e with ⟨_, rfl⟩ | ⟨_, rfl⟩ | ⟨_, rfl⟩ <;> simp at hs
    · cases e
theorem o_eq (hu : X.A.units + 64 < cLine) : OpT X B (compareOp .Eq) (eqT false) := fun ad F H s σ x y u v Q r hx hy ⟨d, e1, e, e2, ho, q⟩ => by
  rw [show (PyData.eqv d e != false) = PyData.eqv d e by simp] at q
  have sc : ((∃ i j, d = .int i ∧ e = .int j) ∨ (∃ i j, d = .str i ∧ e = .str j) ∨ ∃ i j, d = .bool i ∧ e = .bool j) → ∃ b r, Q b s ∧ OpR X (compareOp .Eq) r ∧ ∀ K : VK, K (.bl b) H → r u v H K := fun hs => by
    have h1 : Da F d u := data_sc r hx e1 (by rcases hs with ⟨i, j, rfl, rfl⟩ | ⟨i, j, rfl, rfl⟩ | ⟨i, j, rfl, rfl⟩ <;> simp)
    have h2 : Da F e v := data_sc r hy e2 (by rcases hs with ⟨i, j, rfl, rfl⟩ | ⟨i, j, rfl, rfl⟩ | ⟨i, j, rfl, rfl⟩ <;> simp)
    obtain ⟨h3, h4⟩ := eqv_sc (ad := ad) h1 h2 hs
    exact ⟨_, _, q, op_eq, fun K k => ⟨h3, by rw [h4]; exact k⟩⟩
  have dp : SeqAt.shaped d = true ∧ SeqAt.shaped e = true → ∃ b r, Q b s ∧ OpR X (compareOp .Eq) r ∧ ∀ K : VK, K (.bl b) H → r u v H K := fun ⟨s1, s2⟩ =>
    ⟨_, _, q, op_eqD hu, fun K k => ⟨d, e, hx.dp r e1 (SeqAt.canLay_of_shaped s1), hy.dp r e2 (SeqAt.canLay_of_shaped s2), s1, s2, k⟩⟩
  unfold eqOk at ho
  split at ho
  · exact sc (.inl ⟨_, _, rfl, rfl⟩)
  · exact sc (.inr (.inl ⟨_, _, rfl, rfl⟩))
  · exact sc (.inr (.inr ⟨_, _, rfl, rfl⟩))
  · exact dp ho
theorem o_ne (hu : X.A.units + 64 < cLine) : OpT X B (compareOp .NotEq) (eqT true) := fun ad F H s σ x y u v Q r hx hy ⟨d, e1, e, e2, ho, q⟩ => by
  rw [show (PyData.eqv d e != true) = !PyData.eqv d e by simp] at q
  have sc : ((∃ i j, d = .int i ∧ e = .int j) ∨ (∃ i j, d = .str i ∧ e = .str j) ∨ ∃ i j, d = .bool i ∧ e = .bool j) → ∃ b r, Q b s ∧ OpR X (compareOp .NotEq) r ∧ ∀ K : VK, K (.bl b) H → r u v H K := fun hs => by
    have h1 : Da F d u := data_sc r hx e1 (by rcases hs with ⟨i, j, rfl, rfl⟩ | ⟨i, j, rfl, rfl⟩ | ⟨i, j, rfl, rfl⟩ <;> simp)
    have h2 : Da F e v := data_sc r hy e2 (by rcases hs with ⟨i, j, rfl, rfl⟩ | ⟨i, j, rfl, rfl⟩ | ⟨i, j, rfl, rfl⟩ <;> simp)
    obtain ⟨h3, h4⟩ := eqv_sc (ad := ad) h1 h2 hs
    exact ⟨_, _, q, op_ne, fun K k => ⟨h3, by rw [h4]; exact k⟩⟩
  have dp : SeqAt.shaped d = true ∧ SeqAt.shaped e = true → ∃ b r, Q b s ∧ OpR X (compareOp .NotEq) r ∧ ∀ K : VK, K (.bl b) H → r u v H K := fun ⟨s1, s2⟩ =>
    ⟨_, _, q, op_neD hu, fun K k => ⟨d, e, hx.dp r e1 (SeqAt.canLay_of_shaped s1), hy.dp r e2 (SeqAt.canLay_of_shaped s2), s1, s2, k⟩⟩
  unfold eqOk at ho
  split at ho
  · exact sc (.inl ⟨_, _, rfl, rfl⟩)
  · exact sc (.inr (.inl ⟨_, _, rfl, rfl⟩))
  · exact sc (.inr (.inr ⟨_, _, rfl, rfl⟩))
  · exact dp ho
end
end Kr

/-! layer A6 -/
namespace Kr
open PySem L2
/-! ## defs -/
inductive RV where
  | f (x : PyData)
  | n (c : Cell)
  /-- a new tree; a cell that was handed in -/
  | t (t : Tr)
  | p (k : Nat)
  /-- a tuple that is taken apart: its parts, among them new cells -/
  | u (xs : List AVal) (new : List Cell)
abbrev SpT := List AVal → List Cell → (RV → List Cell → Prop) → Prop
def refsOf : List AVal → List Nat
  | [] => []
  | .r n :: xs => n :: refsOf xs
  | .d _ :: xs => refsOf xs
  | .s _ _ :: xs => refsOf xs
  | .a _ n _ :: xs => n :: refsOf xs
def ren (ns : List Nat) : AVal → AVal
  | .r n => .r (ns.idxOf n)
  | .a p n pt => .a p (ns.idxOf n) pt
  | x => x
def putC (cs : List Cell) : List Nat → List Cell → List Cell
  | n :: ns, c :: ds => putC (cs.set n c) ns ds
  | _, _ => cs
/-- the new cells of a tuple's parts, and the parts by them -/
def newsOf (m : Nat) (xs : List AVal) : List Nat := (refsOf xs).filter fun n => decide (m ≤ n)
def partN (m : Nat) (ns : List Nat) : AVal → AVal
  | .r n => if n < m then .r n else .r (m + ns.idxOf n)
  | x => x
def parts (m : Nat) (cs : List Cell) (P : RV → List Cell → Prop) (xs : List AVal) : Prop := (newsOf m xs).Nodup ∧ onSome (subC cs (newsOf m xs)) fun new => new.all Cell.flat = true ∧ P (.u (xs.map (partN m (newsOf m xs))) new) (cs.take m)
def Cell.pass : Cell → Bool
  | .gone => false
  | c => c.flat
theorem pass_flat {c : Cell} (h : c.pass = true) : c.flat = true := by
  cases c with
  | gone => cases h
  | _ => exact h
theorem pass_gone {c : Cell} (h : c.pass = true) : c ≠ .gone := fun e => by subst e; cases h
def RPost (ad : List Addr) (F H : Hp) (T : List Addr) (P : RV → List Cell → Prop) : VK := fun v H2 =>
  (∃ F2 x cs2, Rl (Bs.at ad F H T) ad F2 H2 ⟨[], cs2⟩ [] ∧ (∀ c ∈ cs2, c.flat = true) ∧ Da F2 x v ∧ P (.f x) cs2) ∨
  (∃ F2 c cs2 p H1 o, Rl (Bs.at ad F H T) ad F2 H1 ⟨[], cs2⟩ [] ∧ (∀ c ∈ cs2, c.flat = true) ∧ v = .ref p ∧ H1 p = none ∧ H2 = upd H1 p o ∧ COk ad F2 H2 p c ∧ c.live = true ∧ c.flat = true ∧ P (.n c) cs2) ∨
  (∃ F2 t cs2 p, Rl (Bs.at ad F H T) (ad ++ [p]) F2 H2 ⟨[], cs2 ++ [.tr t]⟩ [] ∧ (∀ c ∈ cs2, c.flat = true) ∧ v = .ref p ∧ P (.t t) cs2) ∨
  (∃ F2 cs2 k p, Rl (Bs.at ad F H T) ad F2 H2 ⟨[], cs2⟩ [] ∧ (∀ c ∈ cs2, c.flat = true) ∧ ad[k]? = some p ∧ v = .ref p ∧ P (.p k) cs2) ∨
  (∃ F2 cs2 new ex xs vs p, Rl (Bs.at ad F H T) (ad ++ ex) F2 H2 ⟨[], cs2 ++ new⟩ [] ∧ cs2.length = ad.length ∧ (∀ c ∈ cs2 ++ new, c.flat = true) ∧ v = .ref p ∧ H2 p = some (.tup vs) ∧ Paired (VOk (ad ++ ex) F2) xs vs ∧ P (.u xs new) cs2)
def spA (n : Nat) (t : SpT) : Sp := fun vs H Q _ => ∃ F ad cs xs P, vs.length = n ∧ Rl (Bs.at ad F H (cs.flatMap Cell.ads)) ad F H ⟨[], cs⟩ [] ∧ Paired (VOk ad F) xs vs ∧ t xs cs P ∧ ∀ v H2, RPost ad F H (cs.flatMap Cell.ads) P v H2 → Q v H2
def retP (m : Nat) (P : RV → List Cell → Prop) (x : AVal) (s : AS) : Prop := (s.cs.take m).all Cell.flat = true ∧ match x with
  | .d y => P (.f y) (s.cs.take m)
  | .r n => if n < m then P (.p n) (s.cs.take m) else onSome s.cs[n]? fun c => match c with
    | .fz y => P (.f y) (s.cs.take m)
    | .tr t => P (.t t) (s.cs.take m)
    | .nt xs => parts m s.cs P xs
    | c => c.live = true ∧ c.flat = true ∧ P (.n c) (s.cs.take m)
  | .s _ _ => False
  | .a _ _ _ => False
def retD (m : Nat) (P : RV → List Cell → Prop) : DA := ⟨retP m P (.d .none), retP m P, fun _ => False, fun _ => False⟩
def bodyT (k : Nat) (t : Nat → TSA) : SpT := fun xs cs P => t cs.length (retD cs.length P) ⟨xs.map some ++ List.replicate k none, cs⟩
theorem Rl.cells {B : Bs} {ad : List Addr} {F H : Hp} {s : AS} {σ : St} (r : Rl B ad F H s σ) (hf : ∀ c ∈ s.cs.take B.S.length, c.flat = true) : Rl B B.S F H ⟨[], s.cs.take B.S.length⟩ [] := by
  obtain ⟨ad', e, h1⟩ := r.pre
  have hl : B.S.length ≤ s.cs.length := by rw [← r.len, e]; simp
  have inn := r.inn.take (List.take_append_drop B.S.length s.cs).symm
  rw [List.length_take, Nat.min_eq_left hl, e, List.take_left'] at inn
  · refine ⟨r.ff, r.fh, r.hh, r.al, r.new, ⟨[], by simp, (fun _ h => nomatch h)⟩, ?_, by rw [List.length_take]; omega, fun i p c h2 h3 => ?_, rfl, fun k x h => by simp at h, inn⟩
    · have := r.nd
      rw [e] at this
      exact (List.nodup_append.mp this).1
    · have hi : i < B.S.length := (List.getElem?_eq_some_iff.mp h2).1
      obtain ⟨n, l, ok⟩ := r.cel i p c (by rw [e, List.getElem?_append_left hi]; exact h2) (by rw [List.getElem?_take_of_lt hi] at h3; exact h3)
      exact ⟨n, l, ok.flat (hf c (List.mem_of_getElem? h3))⟩
  · rfl
theorem flat_two {cs : List Cell} {n m : Nat} {c : Cell} (hc : cs[n]? = some c) (hn : m ≤ n) : ((cs.take m ++ [c]).flatMap Cell.ads).Sublist (cs.flatMap Cell.ads) := by
  have e : cs = cs.take m ++ cs.drop m := (List.take_append_drop m cs).symm
  have hd : (cs.drop m)[n - m]? = some c := by rw [List.getElem?_drop, show m + (n - m) = n by omega]; exact hc
  have hs : [c].Sublist (cs.drop m) := List.singleton_sublist.mpr (List.mem_of_getElem? hd)
  have : (cs.take m ++ [c]).Sublist cs := by
    conv => rhs; rw [e]
    exact List.Sublist.append (List.Sublist.refl _) hs
  exact sublist_flatMap this
/-- the cells handed in, and one of our own -/
theorem Rl.cells2 {B : Bs} {ad : List Addr} {F H : Hp} {s : AS} {σ : St} {n : Nat} {p : Addr} {c : Cell} (r : Rl B ad F H s σ) (hf : ∀ c ∈ s.cs.take B.S.length, c.flat = true) (hn : B.S.length ≤ n) (hp : ad[n]? = some p) (hc : s.cs[n]? = some c) (hcf : c.flat = true) : Rl B (B.S ++ [p]) F H ⟨[], s.cs.take B.S.length ++ [c]⟩ [] := by
  obtain ⟨ad', e, h1⟩ := r.pre
  have hl : B.S.length ≤ s.cs.length := by rw [← r.len, e]; simp
  have hpa : p ∈ ad' := by
    rw [e, List.getElem?_append_right hn] at hp
    exact List.mem_of_getElem? hp
  have hp0 := h1 p hpa
  have sub := flat_two hc hn
  refine ⟨r.ff, r.fh, r.hh, r.al, r.new, ⟨[p], rfl, fun b hb => by rw [List.mem_singleton] at hb; exact hb ▸ hp0⟩, ?_, by simp [List.length_take]; omega, fun i q d h2 h3 => ?_, rfl, fun k x h => by simp at h, ⟨r.inn.nd.sublist sub, fun q hq i hi => ?_, fun q hq => r.inn.fr q (sub.subset hq), fun q hq => r.inn.own q (sub.subset hq), r.inn.old⟩⟩
  · have nd := r.nd
    rw [e] at nd
    rw [List.nodup_append] at nd ⊢
    exact ⟨nd.1, List.nodup_cons.mpr ⟨(fun h => nomatch h), List.nodup_nil⟩, fun a ha b hb => by
      rw [List.mem_singleton] at hb; subst hb
      exact nd.2.2 a ha b hpa⟩
  · by_cases hi : i < B.S.length
    · rw [List.getElem?_append_left hi] at h2
      rw [List.getElem?_append_left (by rw [List.length_take]; omega)] at h3
      obtain ⟨n, l, ok⟩ := r.cel i q d (by rw [e, List.getElem?_append_left hi]; exact h2) (by rw [List.getElem?_take_of_lt hi] at h3; exact h3)
      exact ⟨n, l, ok.flat (hf d (List.mem_of_getElem? h3))⟩
    · rw [List.getElem?_append_right (by omega)] at h2
      rw [List.getElem?_append_right (by rw [List.length_take]; omega)] at h3
      have e1 : q = p := by have := List.mem_of_getElem? h2; simpa using this
      have e2 : d = c := by have := List.mem_of_getElem? h3; simpa using this
      subst e1; subst e2
      obtain ⟨n, l, ok⟩ := r.cel n q d hp hc
      exact ⟨n, l, ok.flat hcf⟩
  · by_cases hi2 : i < B.S.length
    · rw [List.getElem?_append_left hi2] at hi
      have := r.inn.off q (sub.subset hq) i (by rw [e, List.getElem?_append_left hi2]; exact hi)
      rw [List.getElem?_append_left (by rw [List.length_take]; omega), List.getElem?_take_of_lt hi2]
      exact this
    · have hi3 : i = B.S.length := by
        have := (List.getElem?_eq_some_iff.mp hi).1
        rw [List.length_append, List.length_singleton] at this
        omega
      subst hi3
      rw [List.getElem?_append_right (Nat.le_refl _)] at hi
      have e1 : q = p := by have := List.mem_of_getElem? hi; simpa using this
      subst e1
      have := r.inn.off q (sub.subset hq) n hp
      rw [hc] at this
      rw [List.getElem?_append_right (by rw [List.length_take]; omega), List.length_take, Nat.min_eq_left hl, Nat.sub_self]
      simpa using this
theorem Rl.cellsN {B : Bs} {ad : List Addr} {F H : Hp} {s : AS} {σ : St} {ns : List Nat} {new : List Cell} (r : Rl B ad F H s σ) (hf : ∀ c ∈ s.cs.take B.S.length, c.flat = true) (nd : ns.Nodup) (hn : ∀ n ∈ ns, B.S.length ≤ n) (hs : subC s.cs ns = some new) (hnf : ∀ c ∈ new, c.flat = true) :
    ∃ ex, (∀ (j : Nat) n, ns[j]? = some n → ex[j]? = ad[n]?) ∧ ex.length = ns.length ∧ Rl B (B.S ++ ex) F H ⟨[], s.cs.take B.S.length ++ new⟩ [] := by
  obtain ⟨h1, h2⟩ := subC_ok hs
  obtain ⟨n1, n2⟩ := flat_nd.mp r.inn.nd
  obtain ⟨ad', e, hpre⟩ := r.pre
  have hl : B.S.length ≤ s.cs.length := by rw [← r.len, e]; simp
  have ex0 : ∀ ms : List Nat, (∀ n ∈ ms, n < ad.length) → ∃ ex : List Addr, ex.length = ms.length ∧ ∀ (j : Nat) n, ms[j]? = some n → ex[j]? = ad[n]? := by
    intro ms
    induction ms with
    | nil => intro _; exact ⟨[], rfl, fun j n h => by simp at h⟩
    | cons m ms ih =>
      intro h
      obtain ⟨a', l', e'⟩ := ih fun n hn => h n (List.mem_cons_of_mem _ hn)
      have hm := h m (List.mem_cons_self ..)
      refine ⟨ad[m] :: a', by simp [l'], fun j n hj => ?_⟩
      cases j with
      | zero =>
        have : m = n := by simpa using hj
        subst this
        simp [List.getElem?_eq_getElem hm]
      | succ j => simpa using e' j n (by simpa using hj)
  have hlt : ∀ n ∈ ns, n < ad.length := fun n hn => by
    obtain ⟨j, hj⟩ := List.mem_iff_getElem?.mp hn
    rw [r.len]; exact (h2 j n hj).2
  obtain ⟨ex, lx, hx⟩ := ex0 ns hlt
  refine ⟨ex, hx, lx, ?_⟩
  -- where an index comes from
  have from' : ∀ i, i < B.S.length + ns.length → ∃ i', (B.S ++ ex)[i]? = ad[i']? ∧ (s.cs.take B.S.length ++ new)[i]? = s.cs[i']? ∧ ((i < B.S.length ∧ i' = i) ∨ (B.S.length ≤ i ∧ ns[i - B.S.length]? = some i')) := by
    intro i hi
    by_cases him : i < B.S.length
    · refine ⟨i, ?_, ?_, .inl ⟨him, rfl⟩⟩
      · rw [List.getElem?_append_left him, e, List.getElem?_append_left him]
      · rw [List.getElem?_append_left (by rw [List.length_take]; omega), List.getElem?_take_of_lt him]
    · have hj : ns[i - B.S.length]? = some (ns[i - B.S.length]'(by omega)) := List.getElem?_eq_getElem (by omega)
      refine ⟨_, ?_, ?_, .inr ⟨by omega, hj⟩⟩
      · rw [List.getElem?_append_right (by omega), hx _ _ hj]
      · rw [List.getElem?_append_right (by rw [List.length_take]; omega), List.length_take, Nat.min_eq_left hl, (h2 _ _ hj).1]
  have inj : ∀ i j i', ((i < B.S.length ∧ i' = i) ∨ (B.S.length ≤ i ∧ ns[i - B.S.length]? = some i')) → ((j < B.S.length ∧ i' = j) ∨ (B.S.length ≤ j ∧ ns[j - B.S.length]? = some i')) → i = j := by
    intro i j i' h h'
    rcases h with ⟨h, e1⟩ | ⟨h, e1⟩ <;> rcases h' with ⟨h', e2⟩ | ⟨h', e2⟩
    · omega
    · have := hn i' (List.mem_of_getElem? e2); omega
    · have := hn i' (List.mem_of_getElem? e1); omega
    · have := (List.getElem?_inj (List.getElem?_eq_some_iff.mp e1).1 nd).mp (e1.trans e2.symm)
      omega
  have lenC : (s.cs.take B.S.length ++ new).length = B.S.length + ns.length := by rw [List.length_append, List.length_take, h1]; omega
  have lenA : (B.S ++ ex).length = B.S.length + ns.length := by rw [List.length_append, lx]
  have look : ∀ (i : Nat) c, (s.cs.take B.S.length ++ new)[i]? = some c → ∃ i', (B.S ++ ex)[i]? = ad[i']? ∧ s.cs[i']? = some c ∧ ((i < B.S.length ∧ i' = i) ∨ (B.S.length ≤ i ∧ ns[i - B.S.length]? = some i')) := fun i c hc => by
    have hi := (List.getElem?_eq_some_iff.mp hc).1
    obtain ⟨i', e1, e2, e3⟩ := from' i (by omega)
    exact ⟨i', e1, by rw [← e2]; exact hc, e3⟩
  have up : ∀ q, q ∈ (s.cs.take B.S.length ++ new).flatMap Cell.ads → q ∈ s.cs.flatMap Cell.ads := fun q hq => by
    obtain ⟨c, hc, hq⟩ := List.mem_flatMap.mp hq
    obtain ⟨i, hi⟩ := List.mem_iff_getElem?.mp hc
    obtain ⟨i', _, e2, _⟩ := look i c hi
    exact mem_ads e2 hq
  refine ⟨r.ff, r.fh, r.hh, r.al, r.new, ⟨ex, rfl, fun b hb => ?_⟩, ?_, by rw [lenA]; exact lenC.symm, fun i p c h3 h4 => ?_, rfl, fun k x h => by simp at h, ⟨flat_nd.mpr ⟨fun i c hc => ?_, fun i j c d q hc hd hqc hqd => ?_⟩, fun q hq i hi => ?_, fun q hq => r.inn.fr q (up q hq), fun q hq => r.inn.own q (up q hq), r.inn.old⟩⟩
  · obtain ⟨j, hj⟩ := List.mem_iff_getElem?.mp hb
    have hjl := (List.getElem?_eq_some_iff.mp hj).1
    have hj2 : ns[j]? = some (ns[j]'(by omega)) := List.getElem?_eq_getElem (by omega)
    rw [hx j _ hj2, e, List.getElem?_append_right (hn _ (List.mem_of_getElem? hj2))] at hj
    exact hpre b (List.mem_of_getElem? hj)
  · rw [List.nodup_iff_pairwise_ne, List.pairwise_iff_getElem]
    intro i j hi hj hij ee
    obtain ⟨i', a1, _, a3⟩ := from' i (by omega)
    obtain ⟨j', b1, _, b3⟩ := from' j (by omega)
    have g1 : ad[i']? = some (B.S ++ ex)[i] := by rw [← a1]; exact List.getElem?_eq_getElem hi
    have g2 : ad[j']? = some (B.S ++ ex)[i] := by rw [← b1, ee]; exact List.getElem?_eq_getElem hj
    have := nodup_get r.nd g1 g2
    subst this
    have := inj i j i' a3 b3
    omega
  · have h4 : (s.cs.take B.S.length ++ new)[i]? = some c := h4
    obtain ⟨i', e1, e2, _⟩ := look i c h4
    rw [e1] at h3
    obtain ⟨g1, g2, g3⟩ := r.cel i' p c h3 e2
    refine ⟨g1, g2, g3.flat ?_⟩
    rcases List.mem_append.mp (List.mem_of_getElem? h4) with h | h
    · exact hf c h
    · exact hnf c h
  · obtain ⟨i', _, e2, _⟩ := look i c hc
    exact n1 i' c e2
  · obtain ⟨i', _, e2, e3⟩ := look i c hc
    obtain ⟨j', _, f2, f3⟩ := look j d hd
    have := n2 i' j' c d q e2 f2 hqc hqd
    subst this
    exact inj i j i' e3 f3
  · have hil := (List.getElem?_eq_some_iff.mp hi).1
    obtain ⟨i', e1, e2, _⟩ := from' i (by omega)
    rw [e1] at hi
    have := r.inn.off q (up q hq) i' hi
    rw [← e2] at this
    exact this
theorem mem_refs {n : Nat} : ∀ {xs : List AVal}, AVal.r n ∈ xs → n ∈ refsOf xs
  | .r m :: xs, h => by
    rcases List.mem_cons.mp h with e | h
    · cases e; exact List.mem_cons_self ..
    · exact List.mem_cons_of_mem _ (mem_refs h)
  | .d _ :: xs, h => by
    rcases List.mem_cons.mp h with e | h
    · cases e
    · exact mem_refs (xs := xs) h
  | .s _ _ :: xs, h => by
    rcases List.mem_cons.mp h with e | h
    · cases e
    · exact mem_refs (xs := xs) h
  | .a _ _ _ :: xs, h => by
    rcases List.mem_cons.mp h with e | h
    · cases e
    · exact List.mem_cons_of_mem _ (mem_refs (xs := xs) h)
theorem paired_part {ad ad2 ex : List Addr} {F : Hp} {m : Nat} {ns : List Nat} (hm : m = ad.length) (e : ∃ ad', ad2 = ad ++ ad') (hx : ∀ (j : Nat) n, ns[j]? = some n → ex[j]? = ad2[n]?) : ∀ {xs : List AVal} {vs : List V}, (∀ n, AVal.r n ∈ xs → m ≤ n → n ∈ ns) → Paired (VOk ad2 F) xs vs → Paired (VOk (ad ++ ex) F) (xs.map (partN m ns)) vs
  | [], _, _, .nil => .nil
  | x :: xs, _, hn, .cons h t => by
    refine .cons ?_ (paired_part hm e hx (fun n hx => hn n (List.mem_cons_of_mem _ hx)) t)
    cases x with
    | d y => exact h
    | s _ _ => exact h
    | a _ _ _ => exact h
    | r n =>
      obtain ⟨a, h1, h2⟩ := h
      show VOk (ad ++ ex) F (if n < m then .r n else .r (m + ns.idxOf n)) _
      split
      · rename_i hlt
        obtain ⟨ad', rfl⟩ := e
        refine ⟨a, ?_, h2⟩
        rw [List.getElem?_append_left (by omega)] at h1 ⊢
        exact h1
      · rename_i hlt
        have hmem := hn n (List.mem_cons_self ..) (by omega)
        have hil := List.idxOf_lt_length_of_mem hmem
        have e2 : ns[ns.idxOf n]? = some n := by rw [List.getElem?_eq_getElem hil, List.getElem_idxOf]
        refine ⟨a, ?_, h2⟩
        rw [hm, List.getElem?_append_right (by omega), Nat.add_sub_cancel_left, hx _ n e2]
        exact h1
theorem ret_post {ad ad2 : List Addr} {F H F2 H2 : Hp} {s : AS} {σ : St} {x : AVal} {v : V} {P : RV → List Cell → Prop} {m : Nat} {T : List Addr} (hm : m = ad.length) (r : Rl (Bs.at ad F H T) ad2 F2 H2 s σ) (hv : VOk ad2 F2 x v) (h : retP m P x s) : RPost ad F H T P v H2 := by
  subst hm
  obtain ⟨hf, h⟩ := h
  have hf := List.all_eq_true.mp hf
  have rc := r.cells hf
  cases x with
  | s _ _ => exact h.elim
  | a _ _ _ => exact h.elim
  | d y => exact .inl ⟨F2, y, _, rc, hf, hv, h⟩
  | r n =>
    obtain ⟨p, hp, rfl⟩ := hv
    simp only at h
    split at h
    · rename_i hn
      obtain ⟨ad', e, h4⟩ := r.pre
      refine .inr (.inr (.inr (.inl ⟨F2, _, n, p, rc, hf, ?_, rfl, h⟩)))
      rw [e] at hp
      have hp : (ad ++ ad')[n]? = some p := hp
      rw [List.getElem?_append_left hn] at hp
      exact hp
    · rename_i hn
      have hn : ad.length ≤ n := by omega
      obtain ⟨c, hc, h⟩ := h
      obtain ⟨n0, l, ok⟩ := r.cel n p c hp hc
      have fz : ∀ y, c = .fz y → P (.f y) (s.cs.take ad.length) → RPost ad F H T P (.ref p) H2 := fun y e h => by
        subst e
        exact .inl ⟨F2, y, _, rc, hf, ok, h⟩
      have nw : c.live = true ∧ c.flat = true ∧ P (.n c) (s.cs.take ad.length) → RPost ad F H T P (.ref p) H2 := fun ⟨h1, h2, h3⟩ => by
        obtain ⟨ad', e, h4⟩ := r.pre
        have hpS : p ∉ ad := fun z => by
          have nd := r.nd
          rw [e] at nd hp
          have hp2 : (ad ++ ad')[n]? = some p := hp
          rw [List.getElem?_append_right hn] at hp2
          exact (List.nodup_append.mp nd).2.2 p z p (List.mem_of_getElem? hp2) rfl
        have hp0 : H p = none := by
          have hp2 : (ad ++ ad')[n]? = some p := by rw [e] at hp; exact hp
          rw [List.getElem?_append_right hn] at hp2
          exact h4 p (List.mem_of_getElem? hp2)
        have hpI : p ∉ (s.cs.take ad.length).flatMap Cell.ads := fun z => by
          have z2 : p ∈ s.cs.flatMap Cell.ads := by
            rw [← List.take_append_drop ad.length s.cs, List.flatMap_append]
            exact List.mem_append_left _ z
          rcases r.inn.off p z2 n hp with q | ⟨t, q, _⟩
          · rw [hc] at q; cases q; cases h1
          · rw [hc] at q; cases q; cases h1
        have hpT : p ∉ T := fun z => r.inn.old p z hp0
        · obtain ⟨o, ho⟩ := some_of_ne n0
          exact .inr (.inl ⟨F2, c, _, p, out H2 p, o, rc.aout hpS (l h1) hp0 hpI hpT, hf, rfl, out_same, (upd_out ho).symm, ok.flat h2, h1, h2, h3⟩)
      cases c with
      | fz y => exact fz y rfl h
      | lst _ => exact nw h
      | dK _ => exact nw h
      | pool _ => exact nw h
      | gone => exact nw h
      | nl _ => exact nw h
      | nt xs =>
        obtain ⟨ndn, new, hs, hnf, h⟩ := h
        obtain ⟨vs, hvs, hpv⟩ := ok
        have hge : ∀ k ∈ newsOf ad.length xs, ad.length ≤ k := fun k hk => of_decide_eq_true (List.mem_filter.mp hk).2
        obtain ⟨ex, hx, lx, rx⟩ := r.cellsN hf ndn hge hs (List.all_eq_true.mp hnf)
        obtain ⟨ad', e, _⟩ := r.pre
        refine .inr (.inr (.inr (.inr ⟨F2, _, new, ex, _, vs, p, rx, ?_, ?_, rfl, hvs, paired_part rfl ⟨ad', e⟩ hx (fun k hk hm => List.mem_filter.mpr ⟨mem_refs hk, decide_eq_true hm⟩) hpv, h⟩)))
        · rw [List.length_take, ← r.len, e]; simp
        · intro c hc
          rcases List.mem_append.mp hc with hc | hc
          · exact hf c hc
          · exact List.all_eq_true.mp hnf c hc
      | nd _ => exact nw h
      | dl _ _ _ => exact nw h
      | tr t => exact .inr (.inr (.inl ⟨F2, t, _, p, r.cells2 hf hn hp hc rfl, hf, rfl, h⟩))
section
variable {P : Program} {w : World} {K : PySem.W.Frag} {mg : Str → Option Value} {base : Heap}
theorem paired_slots {ad : List Addr} {F : Hp} {xs : List AVal} {vs : List V} {k : Nat} (h : Paired (VOk ad F) xs vs) : ∀ (j : Nat) (x : AVal), (xs.map some ++ List.replicate k none)[j]? = some (some x) → ∃ v, (vs.map some ++ List.replicate k none)[j]? = some (some v) ∧ VOk ad F x v := by
  intro j x hj
  have hl := Paired.len h
  by_cases hlt : j < xs.length
  · rw [List.getElem?_append_left (by simpa using hlt), List.getElem?_map] at hj
    rw [List.getElem?_append_left (by simp; omega), List.getElem?_map]
    cases hx : xs[j]? with
    | none => rw [hx] at hj; cases hj
    | some y =>
      rw [hx] at hj
      have : y = x := by simpa using hj
      subst this
      obtain ⟨v, h1, h2⟩ := Paired.get h hx
      exact ⟨v, by rw [h1]; rfl, h2⟩
  · rw [List.getElem?_append_right (by simp; omega)] at hj
    rw [List.getElem?_replicate] at hj
    split at hj <;> cases hj
theorem okA {x qual : Str} {st : Stmt} {f : Addr} {fd : FuncData} {N ps : List Str} {k : Nat} {t : Nat → TSA} (Fn : Fun K x qual st f fd) (S : FnScope N ps (defScope st))
    (hbody : ∀ (cdv : Value) (A : Around) (outer : List Env) (s : Shared) (H : Hp) (E : XK) (B : Bs), Room k (A.deeper (PyProof.Rows.envOfC qual (defScope st) s.heap.objs.size f cdv)) → SS (cxOf CX0 P w K mg base N qual (defScope st) f cdv A outer s H E).nox B (defBody st) (t B.S.length)) :
    FnOk P w K mg base CX0 (k + 1) f fd ps (spA ps.length (bodyT (N.length - ps.length) t)) :=
  okW Fn S (fun vs H Q E ⟨F, ad, cs, xs, P, hl, _⟩ => hl) fun cdv A outer s H vs Q E hr ⟨F, ad, cs, xs, P, hl, r, hp, ht, q⟩ => by
    have hsl : Rl (Bs.at ad F H (cs.flatMap Cell.ads)) ad F H ⟨xs.map some ++ List.replicate (N.length - ps.length) none, cs⟩ (start N vs) := by
      refine ⟨r.ff, r.fh, r.hh, r.al, r.new, r.pre, r.nd, r.len, r.cel, ?_, ?_, r.inn⟩
      · unfold L2.start
        simp [Paired.len hp, hl]
      · unfold L2.start
        rw [hl]
        exact paired_slots hp
    have hm : cs.length = ad.length := r.len.symm
    intro pins sh I
    have ht' : t ad.length (retD cs.length P) ⟨xs.map some ++ List.replicate (N.length - ps.length) none, cs⟩ := by rw [← hm]; exact ht
    refine thn ((hbody cdv A outer s H E (Bs.at ad F H (cs.flatMap Cell.ads)) hr).run _ _ ht' ad F H _ hsl pins sh I) fun fl s' z => ?_
    cases fl with
    | next =>
      obtain ⟨σ2, H2, I2, ad2, F2, s2, r2, h2⟩ := z
      exact ⟨σ2, H2, I2, q .non H2 (ret_post hm r2 (x := .d .none) rfl h2)⟩
    | brk => obtain ⟨σ2, H2, I2, ad2, F2, s2, r2, h2⟩ := z; exact h2.elim
    | cont => obtain ⟨σ2, H2, I2, ad2, F2, s2, r2, h2⟩ := z; exact h2.elim
    | ret u =>
      obtain ⟨v, σ2, H2, I2, rv, ad2, F2, x2, s2, σ3, r2, hv, h2⟩ := z
      exact ⟨v, σ2, H2, I2, rv, q v H2 (ret_post hm r2 hv h2)⟩
end
/-! ## calls -/
theorem putC_len : ∀ (ns : List Nat) (ds cs : List Cell), (putC cs ns ds).length = cs.length
  | [], ds, cs => by simp [putC]
  | n :: ns, [], cs => by simp [putC]
  | n :: ns, c :: ds, cs => by simp [putC, putC_len ns ds]
theorem putC_ne : ∀ {ns : List Nat} {ds cs : List Cell} {i : Nat}, i ∉ ns → (putC cs ns ds)[i]? = cs[i]?
  | [], ds, cs, i, h => by simp [putC]
  | n :: ns, [], cs, i, h => by simp [putC]
  | n :: ns, c :: ds, cs, i, h => by
    have h1 : i ≠ n := fun z => h (by simp [z])
    show (putC (cs.set n c) ns ds)[i]? = _
    rw [putC_ne (fun z => h (List.mem_cons_of_mem _ z)), List.getElem?_set_ne (fun z => h1 z.symm)]
theorem putC_at : ∀ {ns : List Nat} {ds cs : List Cell} {j n : Nat}, ns.Nodup → ds.length = ns.length → n < cs.length → ns[j]? = some n → (putC cs ns ds)[n]? = ds[j]?
  | [], ds, cs, j, n, _, _, _, h => by simp at h
  | m :: ns, [], cs, j, n, _, hl, _, h => by simp at hl
  | m :: ns, c :: ds, cs, j, n, nd, hl, hlt, h => by
    have nd' := List.nodup_cons.mp nd
    show (putC (cs.set m c) ns ds)[n]? = _
    cases j with
    | zero =>
      have : m = n := by simpa using h
      subst this
      rw [putC_ne nd'.1, List.getElem?_set_self hlt]; rfl
    | succ j =>
      simpa using putC_at (j := j) nd'.2 (by simpa using hl) (by simpa using hlt) (by simpa using h)
def callW (t : SpT) (xs : List AVal) (s : AS) (P : RV → AS → Prop) : Prop :=
  (refsOf xs).Nodup ∧ onSome (subC s.cs (refsOf xs)) fun cs => cs.all Cell.pass = true ∧ t (xs.map (ren (refsOf xs))) cs fun rv cs2 => cs2.length = cs.length → P rv ⟨s.sl, putC s.cs (refsOf xs) cs2⟩
theorem refs_mem {n : Nat} : ∀ {xs : List AVal}, AVal.r n ∈ xs → n ∈ refsOf xs
  | .r m :: xs, h => by
    rcases List.mem_cons.mp h with e | h
    · cases e; exact List.mem_cons_self ..
    · exact List.mem_cons_of_mem _ (refs_mem h)
  | .d _ :: xs, h => by
    rcases List.mem_cons.mp h with e | h
    · cases e
    · exact refs_mem (xs := xs) h
  | .s _ _ :: xs, h => by
    rcases List.mem_cons.mp h with e | h
    · cases e
    · exact refs_mem (xs := xs) h
  | .a _ _ _ :: xs, h => by
    rcases List.mem_cons.mp h with e | h
    · cases e
    · exact List.mem_cons_of_mem _ (refs_mem (xs := xs) h)
theorem Rl.sub {B : Bs} {ad : List Addr} {F H : Hp} {s : AS} {σ : St} (r : Rl B ad F H s σ) {ns : List Nat} {cs : List Cell} (nd : ns.Nodup) (hs : subC s.cs ns = some cs) (hf : ∀ c ∈ cs, c.flat = true) :
    ∃ ad', ad'.length = ns.length ∧ (∀ (j : Nat) n, ns[j]? = some n → ad'[j]? = ad[n]?) ∧ (∀ b ∈ ad', b ∈ ad) ∧ Rl (Bs.at ad' F H (cs.flatMap Cell.ads)) ad' F H ⟨[], cs⟩ [] := by
  obtain ⟨h1, h2⟩ := subC_ok hs
  have ex : ∀ ms : List Nat, (∀ n ∈ ms, n < ad.length) → ∃ ad' : List Addr, ad'.length = ms.length ∧ ∀ (j : Nat) n, ms[j]? = some n → ad'[j]? = ad[n]? := by
    intro ms
    induction ms with
    | nil => intro _; exact ⟨[], rfl, fun j n h => by simp at h⟩
    | cons m ms ih =>
      intro h
      obtain ⟨a', l', e'⟩ := ih fun n hn => h n (List.mem_cons_of_mem _ hn)
      have hm := h m (List.mem_cons_self ..)
      refine ⟨ad[m] :: a', by simp [l'], fun j n hj => ?_⟩
      cases j with
      | zero =>
        have : m = n := by simpa using hj
        subst this
        simp [List.getElem?_eq_getElem hm]
      | succ j => simpa using e' j n (by simpa using hj)
  have hlt : ∀ n ∈ ns, n < ad.length := fun n hn => by
    obtain ⟨j, hj⟩ := List.mem_iff_getElem?.mp hn
    have := (h2 j n hj).2
    rw [r.len]; exact this
  obtain ⟨ad', l', e'⟩ := ex ns hlt
  have back : ∀ (j : Nat) b, ad'[j]? = some b → ∃ n, ns[j]? = some n ∧ ad[n]? = some b := fun j b hj => by
    have hl := (List.getElem?_eq_some_iff.mp hj).1
    have hj2 : ns[j]? = some ns[j] := List.getElem?_eq_getElem (by omega)
    exact ⟨_, hj2, by rw [← e' j _ hj2]; exact hj⟩
  have sub : ∀ b ∈ ad', b ∈ ad := fun b hb => by
    obtain ⟨j, hj⟩ := List.mem_iff_getElem?.mp hb
    obtain ⟨n, _, hn⟩ := back j b hj
    exact List.mem_of_getElem? hn
  have upI : ∀ q, q ∈ cs.flatMap Cell.ads → q ∈ s.cs.flatMap Cell.ads := fun q hq => by
    obtain ⟨c, hc, hq⟩ := List.mem_flatMap.mp hq
    obtain ⟨j, hj⟩ := List.mem_iff_getElem?.mp hc
    have hl := (List.getElem?_eq_some_iff.mp hj).1
    have hj2 : ns[j]? = some ns[j] := List.getElem?_eq_getElem (by omega)
    exact mem_ads (by rw [← (h2 j _ hj2).1]; exact hj) hq
  have nsOf : ∀ (j : Nat) c, cs[j]? = some c → ∃ n, ns[j]? = some n ∧ s.cs[n]? = some c := fun j c hj => by
    have hl := (List.getElem?_eq_some_iff.mp hj).1
    have hj2 : ns[j]? = some ns[j] := List.getElem?_eq_getElem (by omega)
    exact ⟨_, hj2, by rw [← (h2 j _ hj2).1]; exact hj⟩
  obtain ⟨n1, n2⟩ := flat_nd.mp r.inn.nd
  have inn : Inn (Bs.at ad' F H (cs.flatMap Cell.ads)) ad' F H cs := by
    refine ⟨flat_nd.mpr ⟨fun j c hj => ?_, fun i j c d q hc hd hqc hqd => ?_⟩, fun q hq j hj => ?_, fun q hq => r.inn.fr q (upI q hq), fun q hq => .inr (.inl hq), fun b hb => (r.inn.fr b (upI b hb)).2⟩
    · obtain ⟨n, _, hn⟩ := nsOf j c hj
      exact n1 n c hn
    · obtain ⟨a, ha, hca⟩ := nsOf i c hc
      obtain ⟨b, hb, hdb⟩ := nsOf j d hd
      have := n2 a b c d q hca hdb hqc hqd
      subst this
      exact (List.getElem?_inj (List.getElem?_eq_some_iff.mp ha).1 nd).mp (ha.trans hb.symm)
    · obtain ⟨n, hn, hna⟩ := back j q hj
      have := r.inn.off q (upI q hq) n hna
      rw [← (h2 j n hn).1] at this
      exact this
  refine ⟨ad', l', e', sub, Same.refl _, r.fh, fun _ _ _ _ e => e, fun b hb => hb.elim (fun h => r.mem (sub b h)) (fun h => (r.inn.fr b (upI b h)).2), fun b e _ => e, ⟨[], by simp [Bs.at], (fun _ h => nomatch h)⟩, ?_, by simp [l', h1], fun j p c hj hc => ?_, rfl, fun k x h => by simp at h, inn⟩
  · rw [List.nodup_iff_pairwise_ne, List.pairwise_iff_getElem]
    intro i j hi hj hij e
    have a1 : ad'[i]? = some ad'[i] := List.getElem?_eq_getElem hi
    have a2 : ad'[j]? = some ad'[i] := by rw [List.getElem?_eq_getElem hj, e]
    obtain ⟨n, n1, n2⟩ := back i _ a1
    obtain ⟨m, m1, m2⟩ := back j _ a2
    have := nodup_get r.nd n2 m2
    subst this
    have := (List.getElem?_inj (by omega) nd).mp (n1.trans m1.symm)
    omega
  · obtain ⟨n, n1, n2⟩ := back j p hj
    have hc' : s.cs[n]? = some c := by rw [← (h2 j n n1).1]; exact hc
    obtain ⟨n0, l, ok⟩ := r.cel n p c n2 hc'
    exact ⟨n0, l, ok.flat (hf c (List.mem_of_getElem? hc))⟩
theorem Rl.unsubX {B : Bs} {ad ad' ex : List Addr} {F H F2 H2 : Hp} {s : AS} {σ : St} {ns : List Nat} {cs cs2 cx : List Cell} (r : Rl B ad F H s σ) (nd : ns.Nodup) (hs : subC s.cs ns = some cs) (hg : ∀ c ∈ cs, c ≠ .gone) (hl : ad'.length = ns.length) (he : ∀ (j : Nat) n, ns[j]? = some n → ad'[j]? = ad[n]?) (sub : ∀ b ∈ ad', b ∈ ad)
    (q : Rl (Bs.at ad' F H (cs.flatMap Cell.ads)) (ad' ++ ex) F2 H2 ⟨[], cs2 ++ cx⟩ []) (hl2 : cs2.length = ns.length) (hf : ∀ c ∈ cs2 ++ cx, c.flat = true) : Rl B (ad ++ ex) F2 H2 ⟨s.sl, putC s.cs ns cs2 ++ cx⟩ σ := by
  obtain ⟨h1, h2⟩ := subC_ok hs
  obtain ⟨n1, n2⟩ := flat_nd.mp r.inn.nd
  obtain ⟨m1, m2⟩ := flat_nd.mp q.inn.nd
  have hlx : ex.length = cx.length := by
    have := q.len
    simp only [List.length_append] at this
    omega
  have hex : ∀ b ∈ ex, H b = none := fun b hb => by
    obtain ⟨a3, e3, h3⟩ := q.pre
    have e4 : ex = a3 := List.append_cancel_left e3
    exact h3 b (e4 ▸ hb)
  have nsOf : ∀ (j : Nat) n, ns[j]? = some n → ∃ c, s.cs[n]? = some c ∧ c ∈ cs := fun j n hj => by
    have hjl := (List.getElem?_eq_some_iff.mp hj).1
    have e1 : cs[j]? = some cs[j] := List.getElem?_eq_getElem (by omega)
    exact ⟨_, by rw [← (h2 j n hj).1]; exact e1, List.mem_of_getElem? e1⟩
  have csOf : ∀ x, x ∈ cs.flatMap Cell.ads → ∃ n c, n ∈ ns ∧ s.cs[n]? = some c ∧ x ∈ c.ads := fun x hx => by
    obtain ⟨c, hc, hx⟩ := List.mem_flatMap.mp hx
    obtain ⟨j, hj⟩ := List.mem_iff_getElem?.mp hc
    have hjl := (List.getElem?_eq_some_iff.mp hj).1
    have hj2 : ns[j]? = some ns[j] := List.getElem?_eq_getElem (by omega)
    exact ⟨_, c, List.mem_of_getElem? hj2, by rw [← (h2 j _ hj2).1]; exact hj, hx⟩
  have adOf : ∀ x, x ∈ ad' → ∃ n c, n ∈ ns ∧ ad[n]? = some x ∧ s.cs[n]? = some c ∧ c ∈ cs := fun x hx => by
    obtain ⟨j, hj⟩ := List.mem_iff_getElem?.mp hx
    have hjl := (List.getElem?_eq_some_iff.mp hj).1
    have hj2 : ns[j]? = some ns[j] := List.getElem?_eq_getElem (by omega)
    obtain ⟨c, hc, hm⟩ := nsOf j _ hj2
    exact ⟨_, c, List.mem_of_getElem? hj2, by rw [← he j _ hj2]; exact hj, hc, hm⟩
  -- a tree's address that is not among those handed in
  have offS : ∀ (i : Nat) c x, i ∉ ns → s.cs[i]? = some c → x ∈ c.ads → x ∉ ad' ∧ x ∉ cs.flatMap Cell.ads := fun i c x hi hc hx => by
    refine ⟨fun z => ?_, fun z => ?_⟩
    · obtain ⟨n, d, hn, hna, hnd, hm⟩ := adOf x z
      rcases r.inn.off x (mem_ads hc hx) n hna with e | ⟨t, e, et⟩
      · rw [hnd] at e; cases e; exact hg _ hm rfl
      · have hxt : x ∈ (Cell.tr t).ads := by
          cases t with
          | d _ => cases et
          | nd k a xs => cases et; exact List.mem_cons_self ..
        exact hi (n2 i n c _ x hc e hx hxt ▸ hn)
    · obtain ⟨n, d, hn, hnd, hxd⟩ := csOf x z
      exact hi (n2 i n c d x hc hnd hx hxd ▸ hn)
  have look : ∀ (i : Nat) c, (putC s.cs ns cs2 ++ cx)[i]? = some c → (i ∉ ns ∧ s.cs[i]? = some c) ∨ ∃ j, (cs2 ++ cx)[j]? = some c ∧ (ns[j]? = some i ∨ (ns.length ≤ j ∧ i = s.cs.length + (j - ns.length))) := by
    intro i c hc
    by_cases hil : i < s.cs.length
    · rw [List.getElem?_append_left (by rw [putC_len]; exact hil)] at hc
      by_cases hi : i ∈ ns
      · obtain ⟨j, hj⟩ := List.mem_iff_getElem?.mp hi
        have hjl := (List.getElem?_eq_some_iff.mp hj).1
        rw [putC_at nd hl2 hil hj] at hc
        exact .inr ⟨j, by rw [List.getElem?_append_left (by omega)]; exact hc, .inl hj⟩
      · rw [putC_ne hi] at hc
        exact .inl ⟨hi, hc⟩
    · rw [List.getElem?_append_right (by rw [putC_len]; omega), putC_len] at hc
      refine .inr ⟨ns.length + (i - s.cs.length), ?_, .inr ⟨by omega, by omega⟩⟩
      rw [List.getElem?_append_right (by omega), hl2, Nat.add_sub_cancel_left]
      exact hc
  -- where an address of all stands
  have lookA : ∀ (i : Nat) x, (ad ++ ex)[i]? = some x → (i ∉ ns ∧ ad[i]? = some x ∧ (putC s.cs ns cs2 ++ cx)[i]? = s.cs[i]?) ∨ ∃ j, (ad' ++ ex)[j]? = some x ∧ (putC s.cs ns cs2 ++ cx)[i]? = (cs2 ++ cx)[j]? ∧ (ns[j]? = some i ∨ (ns.length ≤ j ∧ i = s.cs.length + (j - ns.length))) := by
    intro i x hx
    have hal := r.len
    by_cases hil : i < s.cs.length
    · rw [List.getElem?_append_left (by omega)] at hx
      by_cases hi : i ∈ ns
      · obtain ⟨j, hj⟩ := List.mem_iff_getElem?.mp hi
        have hjl := (List.getElem?_eq_some_iff.mp hj).1
        refine .inr ⟨j, by rw [List.getElem?_append_left (by omega), he j i hj]; exact hx, ?_, .inl hj⟩
        rw [List.getElem?_append_left (by rw [putC_len]; exact hil), putC_at nd hl2 hil hj, List.getElem?_append_left (by omega)]
      · exact .inl ⟨hi, hx, by rw [List.getElem?_append_left (by rw [putC_len]; exact hil), putC_ne hi]⟩
    · rw [List.getElem?_append_right (by omega)] at hx
      refine .inr ⟨ns.length + (i - s.cs.length), ?_, ?_, .inr ⟨by omega, by omega⟩⟩
      · rw [List.getElem?_append_right (by omega), hl, Nat.add_sub_cancel_left, ← hal]; exact hx
      · rw [List.getElem?_append_right (by rw [putC_len]; omega), putC_len, List.getElem?_append_right (by omega), hl2, Nat.add_sub_cancel_left]
  have inj : ∀ (j i i' : Nat), (ns[j]? = some i ∨ (ns.length ≤ j ∧ i = s.cs.length + (j - ns.length))) → (ns[j]? = some i' ∨ (ns.length ≤ j ∧ i' = s.cs.length + (j - ns.length))) → i = i' := by
    intro j i i' h h'
    rcases h with h | ⟨h, e⟩ <;> rcases h' with h' | ⟨h', e'⟩
    · rw [h] at h'; exact Option.some.inj h'
    · have := (List.getElem?_eq_some_iff.mp h).1; omega
    · have := (List.getElem?_eq_some_iff.mp h').1; omega
    · omega
  have ownJ : ∀ x, x ∈ (cs2 ++ cx).flatMap Cell.ads → x ∈ ad' ∨ x ∈ cs.flatMap Cell.ads ∨ H x = none := q.inn.own
  have inn : Inn B (ad ++ ex) F2 H2 (putC s.cs ns cs2 ++ cx) := by
    refine ⟨flat_nd.mpr ⟨fun i c hc => ?_, fun i i' c d x hc hd hxc hxd => ?_⟩, fun x hx i hi => ?_, fun x hx => ?_, fun x hx => ?_, r.inn.old⟩
    · rcases look i c hc with ⟨_, h⟩ | ⟨j, h, _⟩
      · exact n1 i c h
      · exact m1 j c h
    · have mix : ∀ (a : Nat) (j : Nat) c d, a ∉ ns → s.cs[a]? = some c → (cs2 ++ cx)[j]? = some d → x ∈ c.ads → x ∈ d.ads → False := fun a j c d ha hc hd hxc hxd => by
        obtain ⟨o1, o2⟩ := offS a c x ha hc hxc
        rcases ownJ x (mem_ads hd hxd) with z | z | z
        · exact o1 z
        · exact o2 z
        · exact (r.inn.fr x (mem_ads hc hxc)).2 z
      rcases look i c hc with ⟨hi, h⟩ | ⟨j, h, hj⟩ <;> rcases look i' d hd with ⟨hi', h'⟩ | ⟨j', h', hj'⟩
      · exact n2 i i' c d x h h' hxc hxd
      · exact (mix i j' c d hi h h' hxc hxd).elim
      · exact (mix i' j d c hi' h' h hxd hxc).elim
      · have := m2 j j' c d x h h' hxc hxd
        subst this
        exact inj j i i' hj hj'
    · obtain ⟨c, hc, hxc⟩ := List.mem_flatMap.mp hx
      obtain ⟨i0, hi0⟩ := List.mem_iff_getElem?.mp hc
      rcases lookA i x hi with ⟨hin, hia, e⟩ | ⟨j, hj, e, hji⟩
      · rw [e]
        rcases look i0 c hi0 with ⟨h0, h0c⟩ | ⟨j0, h0c, _⟩
        · exact r.inn.off x (mem_ads h0c hxc) i hia
        · rcases ownJ x (mem_ads h0c hxc) with z | z | z
          · obtain ⟨n, d, hn, hna, _⟩ := adOf x z
            exact absurd (nodup_get r.nd hia hna ▸ hn) hin
          · obtain ⟨n, d, hn, hnd, hxd⟩ := csOf x z
            exact r.inn.off x (mem_ads hnd hxd) i hia
          · exact absurd z (r.mem (List.mem_of_getElem? hia))
      · rw [e]
        rcases look i0 c hi0 with ⟨h0, h0c⟩ | ⟨j0, h0c, _⟩
        · obtain ⟨o1, o2⟩ := offS i0 c x h0 h0c hxc
          rcases List.mem_append.mp (List.mem_of_getElem? hj) with z | z
          · exact absurd z o1
          · exact absurd (hex x z) (r.inn.fr x (mem_ads h0c hxc)).2
        · exact q.inn.off x (mem_ads h0c hxc) j hj
    · obtain ⟨c, hc, hxc⟩ := List.mem_flatMap.mp hx
      obtain ⟨i0, hi0⟩ := List.mem_iff_getElem?.mp hc
      rcases look i0 c hi0 with ⟨h0, h0c⟩ | ⟨j0, h0c, _⟩
      · obtain ⟨f1, f2⟩ := r.inn.fr x (mem_ads h0c hxc)
        exact ⟨q.new x f1 f2, q.there f2⟩
      · exact q.inn.fr x (mem_ads h0c hxc)
    · obtain ⟨c, hc, hxc⟩ := List.mem_flatMap.mp hx
      obtain ⟨i0, hi0⟩ := List.mem_iff_getElem?.mp hc
      rcases look i0 c hi0 with ⟨h0, h0c⟩ | ⟨j0, h0c, _⟩
      · exact r.inn.own x (mem_ads h0c hxc)
      · rcases ownJ x (mem_ads h0c hxc) with z | z | z
        · exact (r.inS (sub x z)).elim .inl fun z => .inr (.inr z)
        · obtain ⟨n, d, hn, hnd, hxd⟩ := csOf x z
          exact r.inn.own x (mem_ads hnd hxd)
        · exact .inr (.inr (r.fresh z).1)
  refine ⟨r.ff.trans q.ff, q.fh, fun b o hb ht e => ?_, fun b hb => q.there (r.al b hb), fun b e n => q.new b (r.new b e n) (r.there n), ?_, ?_, ?_, fun i p c h3 h4 => ?_, r.sln, fun k x h => ?_, inn⟩
  · refine q.hh b o (fun z => ?_) (fun z => ?_) (r.hh b o hb ht e)
    · rcases r.inS (sub b z) with z | z
      · exact hb z
      · rw [z] at e; cases e
    · obtain ⟨n, d, hn, hnd, hxd⟩ := csOf b z
      rcases r.inn.own b (mem_ads hnd hxd) with z | z | z
      · exact hb z
      · exact ht z
      · rw [z] at e; cases e
  · obtain ⟨a3, e3, h5⟩ := r.pre
    refine ⟨a3 ++ ex, by rw [e3, List.append_assoc], fun b hb => ?_⟩
    rcases List.mem_append.mp hb with hb | hb
    · exact h5 b hb
    · exact (r.fresh (hex b hb)).1
  · rw [List.nodup_append]
    refine ⟨r.nd, (List.nodup_append.mp q.nd).2.1, fun a ha b hb e => ?_⟩
    subst e
    exact r.mem ha (hex a hb)
  · show (ad ++ ex).length = (putC s.cs ns cs2 ++ cx).length
    rw [List.length_append, List.length_append, putC_len, r.len, hlx]
  · rcases lookA i p h3 with ⟨hi, hia, e⟩ | ⟨j, hj, e, _⟩
    · have h4 : (putC s.cs ns cs2 ++ cx)[i]? = some c := h4
      rw [e] at h4
      obtain ⟨n0, l, ok⟩ := r.cel i p c hia h4
      by_cases hgn : c = .gone
      · subst hgn
        exact ⟨q.there n0, (fun z => by cases z), trivial⟩
      · have hp : p ∉ ad' := fun z => by
          obtain ⟨n, d, hn, hna, _⟩ := adOf p z
          exact hi (nodup_get r.nd hia hna ▸ hn)
        have hpT : p ∉ cs.flatMap Cell.ads := fun z => by
          obtain ⟨n, d, hn, hnd, hxd⟩ := csOf p z
          rcases r.inn.off p (mem_ads hnd hxd) i hia with e | ⟨t, e, et⟩
          · rw [h4] at e; exact hgn (Option.some.inj e)
          · have hxt : p ∈ (Cell.tr t).ads := by
              cases t with
              | d _ => cases et
              | nd k a xs => cases et; exact List.mem_cons_self ..
            exact hi (n2 i n _ d p e hnd hxt hxd ▸ hn)
        have keep : ∀ o, H p = some o → H2 p = some o := fun o e => q.hh p o hp hpT e
        exact ⟨q.there n0, fun z => q.new p (l z) n0, ok.mono ⟨ex, rfl⟩ q.ff keep fun x hx o ho => q.hh x o (offS i c x hi h4 hx).1 (offS i c x hi h4 hx).2 ho⟩
    · have h4 : (putC s.cs ns cs2 ++ cx)[i]? = some c := h4
      rw [e] at h4
      obtain ⟨n0, l, ok⟩ := q.cel j p c hj h4
      exact ⟨n0, l, ok.flat (hf c (List.mem_of_getElem? h4))⟩
  · obtain ⟨v, h5, h6⟩ := r.slt k x h
    exact ⟨v, h5, h6.mono ⟨ex, rfl⟩ q.ff⟩
theorem Rl.unsub {B : Bs} {ad ad' : List Addr} {F H F2 H2 : Hp} {s : AS} {σ : St} {ns : List Nat} {cs cs2 : List Cell} (r : Rl B ad F H s σ) (nd : ns.Nodup) (hs : subC s.cs ns = some cs) (hg : ∀ c ∈ cs, c ≠ .gone) (hl : ad'.length = ns.length) (he : ∀ (j : Nat) n, ns[j]? = some n → ad'[j]? = ad[n]?) (sub : ∀ b ∈ ad', b ∈ ad)
    (q : Rl (Bs.at ad' F H (cs.flatMap Cell.ads)) ad' F2 H2 ⟨[], cs2⟩ []) (hf : ∀ c ∈ cs2, c.flat = true) : Rl B ad F2 H2 ⟨s.sl, putC s.cs ns cs2⟩ σ := by
  have := r.unsubX (ex := []) (cx := []) nd hs hg hl he sub (by simpa using q) (by rw [← hl]; exact q.len.symm) (by simpa using hf)
  simpa using this
theorem paired_ren {ad ad' : List Addr} {F : Hp} {ns : List Nat} (he : ∀ (j : Nat) n, ns[j]? = some n → ad'[j]? = ad[n]?) : ∀ {xs : List AVal} {vs : List V}, (∀ n, AVal.r n ∈ xs → n ∈ ns) → Paired (VOk ad F) xs vs → Paired (VOk ad' F) (xs.map (ren ns)) vs
  | [], _, _, .nil => .nil
  | x :: xs, _, hn, .cons h t => by
    refine .cons ?_ (paired_ren he (fun n hx => hn n (List.mem_cons_of_mem _ hx)) t)
    cases x with
    | d y => exact h
    | s _ _ => exact h
    | a _ _ _ => exact h
    | r n =>
      obtain ⟨a, h1, h2⟩ := h
      have hm := hn n (List.mem_cons_self ..)
      refine ⟨a, ?_, h2⟩
      have hlt := List.idxOf_lt_length_of_mem hm
      have e : ns[ns.idxOf n]? = some n := by rw [List.getElem?_eq_getElem hlt, List.getElem_idxOf]
      rw [he _ n e]
      exact h1
/-- what a call leaves -/
def resF (Q : VQ) : RV → AS → Prop := fun rv s => match rv with
  | .f x => Q (.d x) s
  | .n c => onSome (frzC c) fun d => Q (.d d) s
  | .t _ => False
  | .p _ => False
  | .u _ _ => False
def resO (ns : List Nat) (Q : VQ) : RV → AS → Prop := fun rv s => match rv with
  | .f x => Q (.d x) s
  | .n c => Q (.r s.cs.length) ⟨s.sl, s.cs ++ [c]⟩
  | .t t => Q (.r s.cs.length) ⟨s.sl, s.cs ++ [.tr t]⟩
  | .p k => onSome ns[k]? fun n => Q (.r n) s
  | .u _ _ => False
/-- a tuple taken apart behind a call -/
def backN (m : Nat) (ns : List Nat) (w : Nat) : AVal → Option AVal
  | .r n => if n < m then (ns[n]?).map .r else some (.r (w + (n - m)))
  | .d x => some (.d x)
  | _ => none
def backs (m : Nat) (ns : List Nat) (w : Nat) : List AVal → Option (List AVal)
  | [] => some []
  | x :: xs => (backN m ns w x).bind fun y => (backs m ns w xs).map (y :: ·)
def resU (ns : List Nat) (Q : List AVal → AS → Prop) : RV → AS → Prop := fun rv s => match rv with
  | .u xs new => onSome (backs ns.length ns s.cs.length xs) fun ys => Q ys ⟨s.sl, s.cs ++ new⟩
  | .f (.tuple ds) => Q (ds.map .d) s
  | _ => False
def callF (t : SpT) (tl : TLA) : TEA := fun s Q => tl s fun xs s1 => callW t xs s1 (resF Q)
def callO (t : SpT) (tl : TLA) : TEA := fun s Q => tl s fun xs s1 => callW t xs s1 (resO (refsOf xs) Q)
section
variable {X : Cx} {B : Bs} {e : Expr} {es : List Expr} {k n : Nat} {f : Addr} {fd : FuncData} {ps : List Str} {t : SpT} {x : Str} {p pos : Pos} {tl : TLA} {σ : St}
theorem call_post {ad : List Addr} {F H : Hp} {s : AS} {xs : List AVal} {vs : List V} {P : RV → AS → Prop} {Q : VK} (hn : vs.length = n) (r : Rl B ad F H s σ) (hv : Paired (VOk ad F) xs vs) (h : callW t xs s P)
    (hF : ∀ F2 H2 y v s2, Rl B ad F2 H2 s2 σ → Same F F2 → Da F2 y v → P (.f y) s2 → Q v H2)
    (hN : ∀ F2 H1 H2 c p o s2, Rl B ad F2 H1 s2 σ → Same F F2 → H1 p = none → H2 = upd H1 p o → COk ad F2 H2 p c → c.live = true → P (.n c) s2 → Q (.ref p) H2)
    (hT : ∀ F2 H2 t p s2, Rl B (ad ++ [p]) F2 H2 ⟨s2.sl, s2.cs ++ [.tr t]⟩ σ → s2.cs.length = ad.length → Same F F2 → P (.t t) s2 → Q (.ref p) H2)
    (hP : ∀ F2 H2 k n p s2, Rl B ad F2 H2 s2 σ → Same F F2 → (refsOf xs)[k]? = some n → ad[n]? = some p → P (.p k) s2 → Q (.ref p) H2)
    (hU : ∀ F2 H2 ex new ad' ys ws p s2, Rl B (ad ++ ex) F2 H2 ⟨s2.sl, s2.cs ++ new⟩ σ → s2.cs.length = ad.length → Same F F2 → ad'.length = (refsOf xs).length → (∀ (j : Nat) n, (refsOf xs)[j]? = some n → ad'[j]? = ad[n]?) → H2 p = some (.tup ws) → Paired (VOk (ad' ++ ex) F2) ys ws → P (.u ys new) s2 → Q (.ref p) H2) : spA n t vs H Q E0 := by
  obtain ⟨nd, cs, hs, hf, ht⟩ := h
  have hf := List.all_eq_true.mp hf
  have hg : ∀ c ∈ cs, c ≠ .gone := fun c hc => pass_gone (hf c hc)
  obtain ⟨ad', hl, he, sub, rs⟩ := r.sub nd hs fun c hc => pass_flat (hf c hc)
  have hcl : cs.length = ad'.length := rs.len.symm
  refine ⟨F, ad', cs, xs.map (ren (refsOf xs)), _, hn, rs, paired_ren he (fun n hx => refs_mem hx) hv, ht, fun v H2 hp => ?_⟩
  rcases hp with ⟨F2, y, cs2, r2, hf2, hd, hp⟩ | ⟨F2, c, cs2, p, H1, o, r2, hf2, rfl, hp1, e2, ok, hlv, hfl, hp⟩ | ⟨F2, t, cs2, p, r2, hf2, rfl, hp⟩ | ⟨F2, cs2, k, p, r2, hf2, hk, rfl, hp⟩ | ⟨F2, cs2, new, ex, ys, ws, p, r2, hl3, hf2, rfl, hpt, hys, hp⟩
  · exact hF F2 H2 y v _ (r.unsub nd hs hg hl he sub r2 hf2) r2.ff hd (hp (by rw [hcl]; exact r2.len.symm))
  · exact hN F2 H1 H2 c p o _ (r.unsub nd hs hg hl he sub r2 hf2) r2.ff hp1 e2 (ok.flat hfl) hlv (hp (by rw [hcl]; exact r2.len.symm))
  · have hl3 : cs2.length = ad'.length := by
      have := r2.len
      simp only [List.length_append, List.length_singleton] at this
      omega
    refine hT F2 H2 t p _ (r.unsubX nd hs hg hl he sub r2 (by omega) (fun c hc => ?_)) ?_ r2.ff (hp (by rw [hcl]; exact hl3))
    · rcases List.mem_append.mp hc with hc | hc
      · exact hf2 c hc
      · rw [List.mem_singleton] at hc; subst hc; rfl
    · show (putC s.cs (refsOf xs) cs2).length = _
      rw [putC_len]; exact r.len.symm
  · have hkl := (List.getElem?_eq_some_iff.mp hk).1
    have hj : (refsOf xs)[k]? = some (refsOf xs)[k] := List.getElem?_eq_getElem (by omega)
    refine hP F2 H2 k _ p _ (r.unsub nd hs hg hl he sub r2 hf2) r2.ff hj ?_ (hp (by rw [hcl]; exact r2.len.symm))
    rw [← he k _ hj]; exact hk
  · refine hU F2 H2 ex new ad' ys ws p _ (r.unsubX nd hs hg hl he sub r2 (by omega) hf2) ?_ r2.ff hl he hpt hys (hp (by rw [hcl]; exact hl3))
    show (putC s.cs (refsOf xs) cs2).length = _
    rw [putC_len]; exact r.len.symm
theorem ea_callF (G : FnOk X.prog X.w X.K X.mg X.base CX0 k f fd ps (spA n t)) (hr : Room k X.A) (hm : X.mg x = some (.ref f)) (hk : PySem.W.keepIn X.K (.ref f) = true) (hb : Binds X.K fd ps []) (ha : EL X B (e :: es) tl)
    (hn : (e :: es).length = n := by rfl) (hg : Gl X x := by rfl) (hdb : (x == ("__debug__" : Str)) = false := by decide) (l : Pl X e es pos := by exact ⟨rfl, rfl⟩) : EA X B (.Call (.Name x p) (e :: es) [] pos) (callF t tl) := ⟨fun ad F H s σ Q r h =>
  we_of (pe_call G hr hg hm hk hb .nil pass0 pa_wa hdb l.he l.hpl) ((ha.run ad F H s σ _ r h).imp fun vs H1 q => by
    obtain ⟨ad1, F1, xs, s1, e1, k1, r1, hv, hxl, q⟩ := q
    show spA n t (vs ++ []) H1 _ E0
    rw [List.append_nil]
    exact call_post (by rw [← Paired.len hv, hxl]; exact hn) r1 hv q (fun F2 H2 y v s2 r2 k2 hd hp => ⟨ad1, F2, .d y, s2, e1, k1.trans k2, r2, hd, hp⟩)
      (fun F2 H2 H3 c p o s2 r2 k2 hp e3 ok hl hP => PostN.frz (Q := Q) ⟨ad1, F2, c, s2, p, H2, o, e1, k1.trans k2, r2, rfl, hp, e3, ok, hl, hP⟩) (fun F2 H2 t p s2 _ _ _ h => h.elim) (fun F2 H2 k n p s2 _ _ _ _ h => h.elim) (fun F2 H2 ex new ad' ys ws p s2 _ _ _ _ _ _ _ h => h.elim))⟩
theorem ea_callO (G : FnOk X.prog X.w X.K X.mg X.base CX0 k f fd ps (spA n t)) (hr : Room k X.A) (hm : X.mg x = some (.ref f)) (hk : PySem.W.keepIn X.K (.ref f) = true) (hb : Binds X.K fd ps []) (ha : EL X B (e :: es) tl)
    (hn : (e :: es).length = n := by rfl) (hg : Gl X x := by rfl) (hdb : (x == ("__debug__" : Str)) = false := by decide) (l : Pl X e es pos := by exact ⟨rfl, rfl⟩) : EA X B (.Call (.Name x p) (e :: es) [] pos) (callO t tl) := ⟨fun ad F H s σ Q r h =>
  we_of (pe_call G hr hg hm hk hb .nil pass0 pa_wa hdb l.he l.hpl) ((ha.run ad F H s σ _ r h).imp fun vs H1 q => by
    obtain ⟨ad1, F1, xs, s1, e1, k1, r1, hv, hxl, q⟩ := q
    show spA n t (vs ++ []) H1 _ E0
    rw [List.append_nil]
    exact call_post (by rw [← Paired.len hv, hxl]; exact hn) r1 hv q (fun F2 H2 y v s2 r2 k2 hd hp => ⟨ad1, F2, .d y, s2, e1, k1.trans k2, r2, hd, hp⟩)
      (fun F2 H2 H3 c p o s2 r2 k2 hp e3 ok hl hP => PostN.owned (Q := Q) ⟨ad1, F2, c, s2, p, H2, o, e1, k1.trans k2, r2, rfl, hp, e3, ok, hl, hP⟩)
      (fun F2 H2 t p s2 r2 hl2 k2 hP => ⟨ad1 ++ [p], F2, .r s2.cs.length, _, e1.trans ⟨[p], rfl⟩, k1.trans k2, r2, ⟨p, by rw [hl2]; simp, rfl⟩, hP⟩)
      (fun F2 H2 k n p s2 r2 k2 hk hp ⟨n', hn', hP⟩ => ⟨ad1, F2, .r n, s2, e1, k1.trans k2, r2, ⟨p, hp, rfl⟩, by rw [hk] at hn'; cases hn'; exact hP⟩) (fun F2 H2 ex new ad' ys ws p s2 _ _ _ _ _ _ _ h => h.elim))⟩
/-- what is told is a tuple that is taken apart at once -/
theorem backs_ok {ad ad' ex : List Addr} {F : Hp} {ns : List Nat} {w : Nat} (hl : ad'.length = ns.length) (he : ∀ (j : Nat) n, ns[j]? = some n → ad'[j]? = ad[n]?) (hw : w = ad.length) : ∀ {xs : List AVal} {vs : List V} {ys : List AVal}, Paired (VOk (ad' ++ ex) F) xs vs → backs ns.length ns w xs = some ys → Paired (VOk (ad ++ ex) F) ys vs
  | [], _, ys, .nil, e => by cases e; exact .nil
  | x :: xs, _, ys, .cons h t, e => by
    have e' : (backN ns.length ns w x).bind (fun y => (backs ns.length ns w xs).map (y :: ·)) = some ys := e
    cases hy : backN ns.length ns w x with
    | none => rw [hy] at e'; cases e'
    | some y =>
      rw [hy] at e'
      cases hys : backs ns.length ns w xs with
      | none => rw [hys] at e'; cases e'
      | some zs =>
        rw [hys] at e'
        cases e'
        refine .cons ?_ (backs_ok hl he hw t hys)
        cases x with
        | d z => cases hy; exact h
        | s _ _ => cases hy
        | a _ _ _ => cases hy
        | r n =>
          obtain ⟨a, h1, h2⟩ := h
          have hy : (if n < ns.length then (ns[n]?).map AVal.r else some (AVal.r (w + (n - ns.length)))) = some y := hy
          split at hy
          · rename_i hn
            have hj : ns[n]? = some ns[n] := List.getElem?_eq_getElem hn
            rw [hj] at hy
            cases hy
            rw [List.getElem?_append_left (by omega), he n _ hj] at h1
            refine ⟨a, ?_, h2⟩
            rw [List.getElem?_append_left (List.getElem?_eq_some_iff.mp h1).1]
            exact h1
          · rename_i hn
            cases hy
            rw [List.getElem?_append_right (by omega), hl] at h1
            refine ⟨a, ?_, h2⟩
            rw [hw, List.getElem?_append_right (by omega), Nat.add_sub_cancel_left]
            exact h1
def callU (t : SpT) (tl : TLA) (g : List AVal → AS → (AS → Prop) → Prop) : TSA := fun D s => tl s fun xs s1 => callW t xs s1 (resU (refsOf xs) fun ys s2 => g ys s2 D.nx)
end
end Kr

/-! layer A7 -/
namespace Kr
open PySem L2
section
variable {X : Cx} {B : Bs} {ad : List Addr} {F H : Hp} {s : AS} {σ : St} {x y : AVal} {u v : V} {a b c e f o : Expr} {es : List Expr} {pos p p2 q q2 apos cpos tpos : Pos} {ta tb tc to : TEA} {tl : TLA}
/-! ## items -/
def rAnyI (X : Cx) : R2 := fun u v H Q => ∃ r, IxR X r ∧ r u v H Q
theorem ix_any : IxR X (rAnyI X) := fun value slice pins s σ H x y v u Q I rx ry ⟨r, h, q⟩ hs => h value slice pins s σ H x y v u Q I rx ry q hs
open PySem.Spec PyProof.Rows in
theorem ix_dict (hu : X.A.units + 1 < cLine) : IxR X (fun x y H Q => ∃ a v, x = .ref a ∧ DGet H a y (some v) ∧ Q v H) := by
  intro value slice pins s σ H x y v u Q I rx ry h hs
  obtain ⟨a, w, rfl, g, q⟩ := h
  cases rx
  have hT := dict_typeIs I g
  unfold subscriptTail
  refine wpAny_bind ?_
  rw [getitemInPython_of_ne hT.not_modules]
  refine wpAny_bind (wpAny_specialOf hT PySem.F.slot_dict_getitem.lookup ?_)
  have fin : wpAny (model X.prog X.w) X.A (subscripted slice false (.ref a) u) (fun r s₃ => wpAny (model X.prog X.w) X.A (letTemporaryGo value (.ref a) r >>= fun _ => pure r) (EP X pins σ Q) X.xe s₃) X.xe s := by
    rw [hs]
    exact wpAny_operating (d_getItem hu I g ry fun w' s3 I3 rw' => wpAny_bind (wpAny_letTemporaryGo (wpAny_pure ⟨w, H, I3, rw', q⟩)))
  first
    | exact wpAny_pure (wpAny_bind fin)
    | exact wpAny_bind (wpAny_pure (wpAny_bind fin))
    | exact wpAny_bind fin
def ixA : AVal → AVal → TEA := fun x y s Q => match view s x with
  | .seq xs => onSome y.int? fun i => onSome (L2.atI xs i) fun z => Q z s
  | .dct kvs => onSome y.key? fun k => onSome (getA kvs k) fun z => Q z s
  | .txt z => onSome y.int? fun i => z.length ≤ sizeLine ∧ onSome (L2.atI z.cps.toList i) fun c => Q (.d (.str ⟨#[c]⟩)) s
  | .oth => False
theorem ea_ix (hu : X.A.units + 1 < cLine) (ha : EA X B a ta) (hb : EA X B b tb) (hs : PlainIx b := by exact fun _ _ => rfl) : EA X B (.Subscript a b pos) (opA ixA ta tb) := ⟨fun ad F H s σ Q r t =>
  we_of (pe_ix ix_any pe_we pe_we hs) (we2 (R := fun u v H2 => rAnyI X u v H2 (Post B ad F σ Q)) (K := Post B ad F σ Q) ha hb r t fun ad2 F2 H2 s2 x y u v e k r2 hu2 hv t2 => by
    unfold ixA at t2
    split at t2
    · rename_i xs hx
      obtain ⟨i, ei, z, ez, q⟩ := t2
      have := AVal.int?_of ei
      subst this
      obtain ⟨l, vs, rfl, hl, hp⟩ := hu2.seq r2 hx
      obtain ⟨w, hw, hz⟩ := Paired.atI hp ez
      rcases hl with hl | hl
      · exact ⟨_, ix_list, l, vs, i, w, rfl, hv, SqL.of hl, hw, (Post.here r2 hz q).up e k⟩
      · exact ⟨_, ix_tup, l, vs, i, w, rfl, hv, SqT.of hl, hw, (Post.here r2 hz q).up e k⟩
    · rename_i kvs hx
      obtain ⟨k2, ek, z, ez, q⟩ := t2
      obtain ⟨l, es, rfl, hl, hp⟩ := hu2.dct r2 hx
      have hk := AVal.key?_ok ek hv
      subst hk
      have hg := hp.get (k := k2)
      rw [ez] at hg
      obtain ⟨w, hw, hz⟩ := hg
      exact ⟨_, ix_dict hu, l, w, rfl, hw ▸ .inl ⟨es, _, hl, rfl, rfl⟩, (Post.here r2 hz q).up e k⟩
    · rename_i z hx
      obtain ⟨i, ei, hz, c, ec, q⟩ := t2
      have := AVal.int?_of ei
      subst this
      have := hu2.txt r2 hx
      subst this
      exact ⟨_, ix_str, z, i, c, rfl, hv, hz, ec, (Post.here (x := .d (.str ⟨#[c]⟩)) r2 rfl q).up e k⟩
    · exact t2.elim)⟩
/-! ## slices -/
def rAnySl (X : Cx) : V → Option Int → Option Int → Hp → VK → Prop := fun x lo hi H Q => ∃ r, SlR X r ∧ r x lo hi H Q
theorem sl_any : SlR X (rAnySl X) := by
  intro pins s σ H x v vl vu lo hi sl Q I rx hs pl pu h
  obtain ⟨r, h1, h2⟩ := h
  exact h1 pins s σ H x v vl vu lo hi sl Q I rx hs pl pu h2
def cutD (ds : List PyData) (lo hi : Option Int) : List PyData := (ds.drop (HT.sIx ds.length 0 lo)).take (HT.sIx ds.length ds.length hi - HT.sIx ds.length 0 lo)
theorem DaAll.cut {ds : List PyData} {vs : List V} (h : DaAll F ds vs) (lo hi : Option Int) : DaAll F (cutD ds lo hi) (cutV vs lo hi) := by
  unfold cutD cutV
  rw [h.length]
  exact (h.drop _).take _
def slA (lo hi : Option Int) (x : AVal) : TEA := fun s Q => match view s x with
  | .txt z => z.length ≤ sizeLine ∧ Q (.d (.str (cutS z lo hi))) s
  | _ => onSome (listOf s x) fun ds => Q (.d (.list (cutD ds lo hi))) s
def slN (lo hi : Option Int) (x : AVal) : TNA := fun s Q => onSome (listOf s x) fun ds => Q (.lst (cutD ds lo hi)) s
theorem slA_ok {lo hi : Option Int} {Q : VQ} (r : Rl B ad F H s σ) (hx : VOk ad F x u) (t : slA lo hi x s Q) : rAnySl X u lo hi H (Post B ad F σ Q) := by
  have ls : (onSome (listOf s x) fun ds => Q (.d (.list (cutD ds lo hi))) s) → rAnySl X u lo hi H (Post B ad F σ Q) := by
    rintro ⟨ds, e, q⟩
    obtain ⟨l, vs, rfl, h1, h2⟩ := hx.list r e
    exact ⟨_, sl_list, l, vs, rfl, SqL.of h1, fun p hp => .newD (d := .list (cutD ds lo hi)) r hp ⟨p, _, rfl, upd_same, (h2.cut lo hi).mono (same_upd (r.fh.free hp))⟩ q⟩
  unfold slA at t
  split at t
  · rename_i z hz
    have := hx.txt r hz
    subst this
    exact ⟨_, sl_str, z, rfl, t.1, .here (x := .d (.str _)) r rfl t.2⟩
  · exact ls t
theorem slN_ok {lo hi : Option Int} {Q : Cell → AS → Prop} (r : Rl B ad F H s σ) (hx : VOk ad F x u) (t : slN lo hi x s Q) : rAnySl X u lo hi H (PostN B ad F σ Q) := by
  obtain ⟨ds, e, q⟩ := t
  obtain ⟨l, vs, rfl, h1, h2⟩ := hx.list r e
  exact ⟨_, sl_list, l, vs, rfl, SqL.of h1, fun p hp => .here (c := .lst (cutD ds lo hi)) r hp ⟨_, upd_same, h2.cut lo hi⟩ rfl q⟩
theorem slUp {Q Q' : VK} {lo hi : Option Int} (h : rAnySl X u lo hi H Q) (k : ∀ v H', Q v H' → Q' v H') : rAnySl X u lo hi H Q' := by
  obtain ⟨r, h1, h2⟩ := h
  refine ⟨fun x lo hi H K => ∃ K', (∀ w H', K' w H' → K w H') ∧ r x lo hi H K', ?_, _, k, h2⟩
  intro pins s σ H x v vl vu lo hi sl Q I rx hs pl pu ⟨K', k1, k2⟩
  obtain ⟨T, id, e1, e2, e3⟩ := h1 pins s σ H x v vl vu lo hi sl K' I rx hs pl pu k2
  exact ⟨T, id, e1, e2, thn e3 fun z s' ⟨w, H', I', rz, qz⟩ => ⟨w, H', I', rz, k1 w H' qz⟩⟩
def slHi (ta tb : TEA) : TEA := fun s Q => ta s fun x s1 => tb s1 fun y s2 => onSome y.int? fun i => slA none (some i) x s2 Q
def slLo (ta tb : TEA) : TEA := fun s Q => ta s fun x s1 => tb s1 fun y s2 => onSome y.int? fun i => slA (some i) none x s2 Q
def slHiN (ta tb : TEA) : TNA := fun s Q => ta s fun x s1 => tb s1 fun y s2 => onSome y.int? fun i => slN none (some i) x s2 Q
def slLoN (ta tb : TEA) : TNA := fun s Q => ta s fun x s1 => tb s1 fun y s2 => onSome y.int? fun i => slN (some i) none x s2 Q
theorem ea_slHi (ha : EA X B a ta) (hb : EA X B b tb) : EA X B (.Subscript a (.Slice none (some b) none p2) pos) (slHi ta tb) := ⟨fun ad F H s σ Q r t =>
  we_of (pe_slice sl_any pe_we po_none (po_some pe_we)) (we2 (R := fun u v H2 => ∃ i, v = .int i ∧ rAnySl X u none (some i) H2 (Post B ad F σ Q)) (K := fun _ _ => True) ha hb r t fun ad2 F2 H2 s2 x y u v e k r2 hu hv ⟨i, ei, t2⟩ => by
    have := AVal.int?_of ei
    subst this
    exact ⟨i, hv, slUp (slA_ok r2 hu t2) fun _ _ h => h.up e k⟩)⟩
theorem ea_slLo (ha : EA X B a ta) (hb : EA X B b tb) : EA X B (.Subscript a (.Slice (some b) none none p2) pos) (slLo ta tb) := ⟨fun ad F H s σ Q r t =>
  we_of (pe_slice sl_any pe_we (po_some pe_we) po_none) (we2 (R := fun u v H2 => ∃ i, v = .int i ∧ rAnySl X u (some i) none H2 (Post B ad F σ Q)) (K := fun _ _ => True) ha hb r t fun ad2 F2 H2 s2 x y u v e k r2 hu hv ⟨i, ei, t2⟩ => by
    have := AVal.int?_of ei
    subst this
    exact ⟨i, hv, slUp (slA_ok r2 hu t2) fun _ _ h => h.up e k⟩)⟩
theorem en_slHi (ha : EA X B a ta) (hb : EA X B b tb) : EN X B (.Subscript a (.Slice none (some b) none p2) pos) (slHiN ta tb) := ⟨fun ad F H s σ Q r t =>
  we_of (pe_slice sl_any pe_we po_none (po_some pe_we)) (we2 (R := fun u v H2 => ∃ i, v = .int i ∧ rAnySl X u none (some i) H2 (PostN B ad F σ Q)) (K := fun _ _ => True) ha hb r t fun ad2 F2 H2 s2 x y u v e k r2 hu hv ⟨i, ei, t2⟩ => by
    have := AVal.int?_of ei
    subst this
    exact ⟨i, hv, slUp (slN_ok r2 hu t2) fun _ _ h => h.up e k⟩)⟩
theorem en_slLo (ha : EA X B a ta) (hb : EA X B b tb) : EN X B (.Subscript a (.Slice (some b) none none p2) pos) (slLoN ta tb) := ⟨fun ad F H s σ Q r t =>
  we_of (pe_slice sl_any pe_we (po_some pe_we) po_none) (we2 (R := fun u v H2 => ∃ i, v = .int i ∧ rAnySl X u (some i) none H2 (PostN B ad F σ Q)) (K := fun _ _ => True) ha hb r t fun ad2 F2 H2 s2 x y u v e k r2 hu hv ⟨i, ei, t2⟩ => by
    have := AVal.int?_of ei
    subst this
    exact ⟨i, hv, slUp (slN_ok r2 hu t2) fun _ _ h => h.up e k⟩)⟩
/-! ## in, not in -/
def flatD : PyData → Bool
  | .none => true
  | .bool _ => true
  | .int _ => true
  | .str _ => true
  | _ => false
def eqF : PyData → PyData → Bool
  | .none, .none => true
  | .bool a, .bool b => a == b
  | .bool a, .int b => (if a then 1 else 0) == b
  | .int a, .bool b => a == (if b then 1 else 0)
  | .int a, .int b => a == b
  | .str a, .str b => a == b
  | _, _ => false
def inD (x : PyData) (ds : List PyData) : Bool := ds.any fun y => eqF y x
theorem flat_ok {d : PyData} (h : flatD d = true) (hd : Da F d v) : flatV v = true := by
  cases d with
  | none => obtain rfl : v = .non := hd; rfl
  | bool _ => obtain rfl : v = .bl _ := hd; rfl
  | int _ => obtain rfl : v = .int _ := hd; rfl
  | str _ => obtain rfl : v = .str _ := hd; rfl
  | _ => cases h
theorem eqF_ok {d e : PyData} (h1 : flatD d = true) (h2 : flatD e = true) (hd : Da F d u) (he : Da F e v) : eqV u v = eqF d e := by
  cases d <;> cases e <;> simp only [flatD] at h1 h2 <;> (try exact absurd h1 (by decide)) <;> (try exact absurd h2 (by decide)) <;> (simp only [Da] at hd he; subst hd; subst he; rfl)
theorem flats_ok : ∀ {ds : List PyData} {vs : List V}, (ds.all flatD) = true → DaAll F ds vs → vs.all flatV = true
  | [], _, _, h => by obtain rfl := (show _ = [] from h); rfl
  | d :: ds, _, hf, h => by
    obtain ⟨v, r, rfl, h1, h2⟩ := (show ∃ v r, _ = v :: r ∧ Da F d v ∧ DaAll F ds r from h)
    have hf' : flatD d = true ∧ ds.all flatD = true := by simpa using hf
    simp only [List.all_cons, Bool.and_eq_true]
    exact ⟨flat_ok hf'.1 h1, flats_ok hf'.2 h2⟩
theorem inD_ok {d : PyData} (hd : flatD d = true) (hu : Da F d u) : ∀ {ds : List PyData} {vs : List V}, (ds.all flatD) = true → DaAll F ds vs → inV u vs = inD d ds
  | [], _, _, h => by obtain rfl := (show _ = [] from h); rfl
  | e :: ds, _, hf, h => by
    obtain ⟨v, r, rfl, h1, h2⟩ := (show ∃ v r, _ = v :: r ∧ Da F e v ∧ DaAll F ds r from h)
    have hf' : flatD e = true ∧ ds.all flatD = true := by simpa using hf
    have ih := inD_ok hd hu hf'.2 h2
    unfold inV inD at ih ⊢
    rw [List.any_cons, List.any_cons, ih, eqF_ok hf'.1 hd h1 hu]
def inT (neg : Bool) : AVal → AVal → TTA := fun x y s Q => match view s y with
  | .dct kvs => onSome x.key? fun k => Q ((getA kvs k).isSome != neg) s
  | .txt z => onSome x.str? fun w => onSome (w.cps.toList.head?) fun c => w = ⟨#[c]⟩ ∧ Q (decide (c ∈ z.cps.toList) != neg) s
  | _ => onSome (listOf s y) fun ds => onSome x.data? fun d => (flatD d = true ∧ ds.all flatD = true) ∧ Q (inD d ds != neg) s
theorem op_din (hu : X.A.units + 1 < cLine) : OpR X (compareOp .In) (fun x y H Q => ∃ a o, y = .ref a ∧ DGet H a x o ∧ Q (.bl o.isSome) H) := by
  intro pins s σ H x y v u Q I rx ry h
  obtain ⟨a, o, rfl, g, q⟩ := h
  cases ry
  exact d_in hu I g rx fun s3 I3 => ⟨.bl o.isSome, H, I3, rfl, q⟩
theorem op_dnotin (hu : X.A.units + 1 < cLine) : OpR X (compareOp .NotIn) (fun x y H Q => ∃ a o, y = .ref a ∧ DGet H a x o ∧ Q (.bl (!o.isSome)) H) := by
  intro pins s σ H x y v u Q I rx ry h
  obtain ⟨a, o, rfl, g, q⟩ := h
  cases ry
  exact d_notIn hu I g rx fun s3 I3 => ⟨.bl (!o.isSome), H, I3, rfl, q⟩
theorem getA_isSome {kvs : List (Key × AVal)} {es : List (Key × V)} {k : Key} (h : KrOk ad F kvs es) : (valV es k).isSome = (getA kvs k).isSome := by
  have := h.get (k := k)
  cases hg : getA kvs k with
  | none => rw [hg] at this; rw [this]; rfl
  | some x => rw [hg] at this; obtain ⟨v, hv, _⟩ := this; rw [hv]; rfl
theorem o_in (hu : X.A.units + 1 < cLine) : OpT X B (compareOp .In) (inT false) := fun ad F H s σ x y u v Q r hx hy t => by
  unfold inT at t
  split at t
  · rename_i kvs hk
    obtain ⟨k, ek, q⟩ := t
    obtain ⟨l, es, rfl, hl, hp⟩ := hy.dct r hk
    have := AVal.key?_ok ek hx
    subst this
    refine ⟨_, _, q, op_din hu, fun K kk => ⟨l, valV es k, rfl, .inl ⟨es, _, hl, rfl, rfl⟩, ?_⟩⟩
    rw [getA_isSome hp]
    simpa using kk
  · rename_i z hz
    obtain ⟨w, ew, c, ec, e2, q⟩ := t
    have := AVal.str?_of ew
    subst this
    have := hy.txt r hz
    subst this
    subst e2
    exact ⟨_, _, q, op_in_sign, fun K kk => ⟨c, z, hx, rfl, by simpa using kk⟩⟩
  · obtain ⟨ds, e, d, ed, ⟨f1, f2⟩, q⟩ := t
    have := AVal.data?_of ed
    subst this
    obtain ⟨l, vs, rfl, h1, h2⟩ := hy.list r e
    exact ⟨_, _, q, op_in_seq, fun K kk => ⟨l, vs, rfl, .inl (SqL.of h1), flat_ok f1 hx, flats_ok f2 h2, by rw [inD_ok f1 hx f2 h2]; simpa using kk⟩⟩
theorem o_notIn (hu : X.A.units + 1 < cLine) : OpT X B (compareOp .NotIn) (inT true) := fun ad F H s σ x y u v Q r hx hy t => by
  unfold inT at t
  split at t
  · rename_i kvs hk
    obtain ⟨k, ek, q⟩ := t
    obtain ⟨l, es, rfl, hl, hp⟩ := hy.dct r hk
    have := AVal.key?_ok ek hx
    subst this
    refine ⟨_, _, q, op_dnotin hu, fun K kk => ⟨l, valV es k, rfl, .inl ⟨es, _, hl, rfl, rfl⟩, ?_⟩⟩
    rw [getA_isSome hp]
    simpa using kk
  · rename_i z hz
    obtain ⟨w, ew, c, ec, e2, q⟩ := t
    have := AVal.str?_of ew
    subst this
    have := hy.txt r hz
    subst this
    subst e2
    exact ⟨_, _, q, op_notIn_sign, fun K kk => ⟨c, z, hx, rfl, by simpa using kk⟩⟩
  · obtain ⟨ds, e, d, ed, ⟨f1, f2⟩, q⟩ := t
    have := AVal.data?_of ed
    subst this
    obtain ⟨l, vs, rfl, h1, h2⟩ := hy.list r e
    exact ⟨_, _, q, op_notIn_seq, fun K kk => ⟨l, vs, rfl, .inl (SqL.of h1), flat_ok f1 hx, flats_ok f2 h2, by rw [inD_ok f1 hx f2 h2]; simpa using kk⟩⟩
/-! ## == [], != [] -/
def nilT (neg : Bool) (ta : TEA) : TTA := fun s Q => ta s fun x s1 => onSome (listOf s1 x) fun ds => Q (ds.isEmpty != neg) s1
theorem op_neLen (hu : X.A.units + 64 < cLine) : OpR X (compareOp .NotEq) (rNeLen X.K) := by
  intro pins s σ H x y v u Q I rx ry h
  obtain ⟨a, b, xs, ys, rfl, rfl, h1, h2, hne, q⟩ := h
  cases rx; cases ry
  obtain ⟨its, rv, hl, hz⟩ := I.list h1
  obtain ⟨its2, rv2, hl2, hz2⟩ := I.list h2
  refine SeqAt.RcNeAt.lists_lengths hl.isList hl2.isList ?_ (by omega) _ _ _ _ ⟨.bl true, H, I, rfl, q⟩
  have e1 := rv.length
  have e2 := rv2.length
  simp only [List.size_toArray, bne_iff_ne, ne_eq]
  omega
theorem nilOp (neg : Bool) (hu : X.A.units + 64 < cLine) {ds : List PyData} {l m : Addr} {vs : List V} (h1 : H l = some (.lst vs)) (h2 : DaAll F ds vs) (h3 : H m = some (.lst [])) : ∃ r, OpR X (compareOp (if neg then .NotEq else .Eq)) r ∧ ∀ K : VK, K (.bl (ds.isEmpty != neg)) H → r (.ref l) (.ref m) H K := by
  cases ds with
  | nil =>
    obtain rfl : vs = [] := h2
    have d1 : Dp X.K H (.ref l) (.list []) := .lst (SqL.of h1) .nil
    have d2 : Dp X.K H (.ref m) (.list []) := .lst (SqL.of h3) .nil
    cases neg with
    | false => exact ⟨_, op_eqD hu, fun K k => ⟨_, _, d1, d2, rfl, rfl, k⟩⟩
    | true => exact ⟨_, op_neD hu, fun K k => ⟨_, _, d1, d2, rfl, rfl, k⟩⟩
  | cons d ds =>
    have hl := h2.length
    cases neg with
    | false => exact ⟨_, op_eqLen hu, fun K k => ⟨l, m, vs, [], rfl, rfl, SqL.of h1, SqL.of h3, by rw [hl]; simp, k⟩⟩
    | true => exact ⟨_, op_neLen hu, fun K k => ⟨l, m, vs, [], rfl, rfl, SqL.of h1, SqL.of h3, by rw [hl]; simp, k⟩⟩
theorem we_nil {Q : VK} (q : ∀ p, H p = none → Q (.ref p) (upd H p (.lst []))) {lp : Pos} : WE X (.List [] lp) σ H Q := we_of (pe_lst pa_nil) ⟨by decide, fun p hp => q p hp⟩
theorem nil_run (neg : Bool) (hu : X.A.units + 64 < cLine) (ha : EA X B a ta) {lp : Pos} {Q : Bool → AS → Prop} {K : Bool → VK} (r : Rl B ad F H s σ) (t : nilT neg ta s Q) (hK : ∀ b H', PostT B ad F σ Q b H' → K b (.bl b) H') :
    WE X a σ H fun u H1 => WE X (.List [] lp) σ H1 fun v H2 => rAny X (compareOp (if neg then .NotEq else .Eq)) u v H2 fun w H3 => ∃ b, w = .bl b ∧ K b w H3 :=
  (ha.run ad F H s σ _ r t).imp fun u H1 q => by
    obtain ⟨ad1, F1, x, s1, e1, k1, r1, v1, ds, ed, q⟩ := q
    refine we_nil fun p hp => ?_
    have r2 := r1.gr ((Gr.refl r1.fh).open' (o := .lst []) hp)
    obtain ⟨l, vs, rfl, h1, h2⟩ := v1.list r1 ed
    have hlp : l ≠ p := ne_of_none h1 hp
    obtain ⟨rr, ho, hk⟩ := nilOp (X := X) neg hu (H := upd H1 p (.lst [])) (l := l) (m := p) (by rw [upd_ne hlp]; exact h1) h2 upd_same
    exact ⟨rr, ho, hk _ ⟨_, rfl, hK _ _ ⟨ad1, F1, s1, e1, k1, r2, q⟩⟩⟩
theorem et_eqNil (hu : X.A.units + 64 < cLine) (ha : EA X B a ta) {lp : Pos} : ET X B (.Compare a [.Eq] [.List [] lp] pos) (nilT false ta) := ⟨fun ad F H s σ Q r t =>
  wt_of (pt_cmpR (op_any _) pe_we pe_we (nomark _)) (nil_run false hu ha r t (K := fun b w H3 => PostT B ad F σ Q b H3) fun _ _ h => h)⟩
theorem et_neNil (hu : X.A.units + 64 < cLine) (ha : EA X B a ta) {lp : Pos} : ET X B (.Compare a [.NotEq] [.List [] lp] pos) (nilT true ta) := ⟨fun ad F H s σ Q r t =>
  wt_of (pt_cmpR (op_any _) pe_we pe_we (nomark _)) (nil_run true hu ha r t (K := fun b w H3 => PostT B ad F σ Q b H3) fun _ _ h => h)⟩
theorem rAny_imp {f : Value → Value → Sem Value} {Q Q' : VK} (h : rAny X f u v H Q) (k : ∀ w H', Q w H' → Q' w H') : rAny X f u v H Q' := by
  obtain ⟨r, h1, h2⟩ := h
  exact ⟨fun u v H K => ∃ K', (∀ w H', K' w H' → K w H') ∧ r u v H K', fun pins s σ H x y v u Q I rx ry ⟨K', k1, k2⟩ => thn (h1 pins s σ H x y v u K' I rx ry k2) fun z s' ⟨w, H', I', rz, qz⟩ => ⟨w, H', I', rz, k1 w H' qz⟩, _, k, h2⟩
theorem ea_eqNil (hu : X.A.units + 64 < cLine) (ha : EA X B a ta) {lp : Pos} : EA X B (.Compare a [.Eq] [.List [] lp] pos) (boolA (nilT false ta)) := ⟨fun ad F H s σ Q r t =>
  we_of (pe_cmpR (op_any _) pe_we pe_we (nomark _)) ((nil_run false hu ha r t (K := fun b w H3 => Post B ad F σ Q w H3) fun b H' ⟨ad2, F2, a2, e, k, r2, q⟩ => ⟨ad2, F2, .d (.bool b), a2, e, k, r2, rfl, q⟩).imp fun u H1 q => q.imp fun v H2 q => rAny_imp q fun w H3 ⟨b, _, p⟩ => p)⟩
theorem ea_neNil (hu : X.A.units + 64 < cLine) (ha : EA X B a ta) {lp : Pos} : EA X B (.Compare a [.NotEq] [.List [] lp] pos) (boolA (nilT true ta)) := ⟨fun ad F H s σ Q r t =>
  we_of (pe_cmpR (op_any _) pe_we pe_we (nomark _)) ((nil_run true hu ha r t (K := fun b w H3 => Post B ad F σ Q w H3) fun b H' ⟨ad2, F2, a2, e, k, r2, q⟩ => ⟨ad2, F2, .d (.bool b), a2, e, k, r2, rfl, q⟩).imp fun u H1 q => q.imp fun v H2 q => rAny_imp q fun w H3 ⟨b, _, p⟩ => p)⟩
end
end Kr

/-! layer A8 -/
namespace Kr
open PySem L2
def strs? : List PyData → Option (List Str)
  | [] => some []
  | .str x :: ds => (strs? ds).map (x :: ·)
  | _ => none
def ints? : List PyData → Option (List Int)
  | [] => some []
  | .int x :: ds => (ints? ds).map (x :: ·)
  | _ => none
theorem strs?_of : ∀ {ds : List PyData} {xs : List Str}, strs? ds = some xs → ds = xs.map .str
  | [], xs, h => by cases h; rfl
  | .str x :: ds, xs, h => by
    have h' : (strs? ds).map (x :: ·) = some xs := h
    cases hs : strs? ds with
    | none => rw [hs] at h'; cases h'
    | some ys => rw [hs] at h'; cases h'; rw [strs?_of hs]; rfl
  | .none :: _, _, h => by cases h
  | .bool _ :: _, _, h => by cases h
  | .int _ :: _, _, h => by cases h
  | .list _ :: _, _, h => by cases h
  | .tuple _ :: _, _, h => by cases h
  | .dict _ :: _, _, h => by cases h
theorem ints?_of : ∀ {ds : List PyData} {xs : List Int}, ints? ds = some xs → ds = xs.map .int
  | [], xs, h => by cases h; rfl
  | .int x :: ds, xs, h => by
    have h' : (ints? ds).map (x :: ·) = some xs := h
    cases hs : ints? ds with
    | none => rw [hs] at h'; cases h'
    | some ys => rw [hs] at h'; cases h'; rw [ints?_of hs]; rfl
  | .none :: _, _, h => by cases h
  | .bool _ :: _, _, h => by cases h
  | .str _ :: _, _, h => by cases h
  | .list _ :: _, _, h => by cases h
  | .tuple _ :: _, _, h => by cases h
  | .dict _ :: _, _, h => by cases h
theorem strs?_map (xs : List Str) : strs? (xs.map .str) = some xs := by
  induction xs with
  | nil => rfl
  | cons x xs ih => show (strs? (xs.map .str)).map _ = _; rw [ih]; rfl
theorem ints?_map (xs : List Int) : ints? (xs.map .int) = some xs := by
  induction xs with
  | nil => rfl
  | cons x xs ih => show (ints? (xs.map .int)).map _ = _; rw [ih]; rfl
def srtD (ds : List PyData) : Option (List PyData) := match strs? ds with
  | some xs => some ((srt xs).map .str)
  | none => (ints? ds).map fun ns => (srtI ns).map .int
theorem srtD_strs (xs : List Str) : srtD (xs.map .str) = some ((srt xs).map .str) := by unfold srtD; rw [strs?_map]
theorem srtD_ints (xs : List Int) : srtD (xs.map .int) = some ((srtI xs).map .int) := by
  cases xs with
  | nil => simp [srtD, strs?, srt, srtI]
  | cons x xs =>
    have : strs? ((x :: xs).map .int) = none := rfl
    unfold srtD
    rw [this, ints?_map]
    rfl
section
variable {X : Cx} {B : Bs} {ad : List Addr} {F H : Hp} {s : AS} {σ : St} {x y : AVal} {u v : V} {a b c e f o value : Expr} {es : List Expr} {pos p p2 q q2 apos cpos tpos pos2 : Pos} {ta tb tc to : TEA} {tl : TLA} {name : Str}
/-! ## calls of what is built in -/
def rAnyC (X : Cx) (g : Value) : List V → Hp → VK → Prop := fun us H Q => ∃ r, CallR X g r ∧ r us H Q
theorem cr_any (g : Value) : CallR X g (rAnyC X g) := fun pins s σ H xs us Q I r ⟨q, h, k⟩ => h pins s σ H xs us Q I r k
theorem rAnyC_imp {g : Value} {us : List V} {Q Q' : VK} (h : rAnyC X g us H Q) (k : ∀ w H', Q w H' → Q' w H') : rAnyC X g us H Q' := by
  obtain ⟨r, h1, h2⟩ := h
  exact ⟨fun us H K => ∃ K', (∀ w H', K' w H' → K w H') ∧ r us H K', fun pins s σ H xs us Q I rx ⟨K', k1, k2⟩ => thn (h1 pins s σ H xs us K' I rx k2) fun z s' ⟨w, H', I', rz, qz⟩ => ⟨w, H', I', rz, k1 w H' qz⟩, _, k, h2⟩
def CalA (X : Cx) (B : Bs) (g : Value) (rr : List AVal → TEA) : Prop := ∀ ad F H s σ xs us Q, Rl B ad F H s σ → Paired (VOk ad F) xs us → rr xs s Q → rAnyC X g us H (Post B ad F σ Q)
def CalN (X : Cx) (B : Bs) (g : Value) (rr : List AVal → TNA) : Prop := ∀ ad F H s σ xs us Q, Rl B ad F H s σ → Paired (VOk ad F) xs us → rr xs s Q → rAnyC X g us H (PostN B ad F σ Q)
def bltA (rr : List AVal → TEA) (tl : TLA) : TEA := fun s Q => tl s fun xs s1 => rr xs s1 Q
def bltN (rr : List AVal → TNA) (tl : TLA) : TNA := fun s Q => tl s fun xs s1 => rr xs s1 Q
theorem ea_blt {id : String} {rr : List AVal → TEA} (hc : CalA X B (.builtin id) rr) (hm : X.mg name = none) (ha : EL X B (e :: es) tl) (hv : bootBuiltins name = some (.builtin id) := by decide +kernel) (hg : Gl X name := by rfl) (n : Nm name := by exact ⟨by decide, by decide⟩) (l : Pl X e es pos := by exact ⟨rfl, rfl⟩) :
    EA X B (.Call (.Name name p) (e :: es) [] pos) (bltA rr tl) := ⟨fun ad F H s σ Q r t => we_of (pe_callB (cr_any _) hg hm hv pa_wa n.hn n.hdb l.he l.hpl) ((ha.run ad F H s σ _ r t).imp fun vs H1 q => by
  obtain ⟨ad1, F1, xs, s1, e1, k1, r1, hvs, hln, q⟩ := q
  exact rAnyC_imp (hc ad1 F1 H1 s1 σ xs vs Q r1 hvs q) fun w H' h => h.up e1 k1)⟩
theorem ea_bty {id : String} {rr : List AVal → TEA} (hc : CalA X B (.type id) rr) (hm : X.mg name = none) (ha : EL X B (e :: es) tl) (hv : bootBuiltins name = some (.type id) := by decide +kernel) (hg : Gl X name := by rfl) (n : Nm name := by exact ⟨by decide, by decide⟩) (l : Pl X e es pos := by exact ⟨rfl, rfl⟩) :
    EA X B (.Call (.Name name p) (e :: es) [] pos) (bltA rr tl) := ⟨fun ad F H s σ Q r t => we_of (pe_callTy (cr_any _) hg hm hv pa_wa n.hn n.hdb l.he l.hpl) ((ha.run ad F H s σ _ r t).imp fun vs H1 q => by
  obtain ⟨ad1, F1, xs, s1, e1, k1, r1, hvs, hln, q⟩ := q
  exact rAnyC_imp (hc ad1 F1 H1 s1 σ xs vs Q r1 hvs q) fun w H' h => h.up e1 k1)⟩
theorem en_blt {id : String} {rr : List AVal → TNA} (hc : CalN X B (.builtin id) rr) (hm : X.mg name = none) (ha : EL X B (e :: es) tl) (hv : bootBuiltins name = some (.builtin id) := by decide +kernel) (hg : Gl X name := by rfl) (n : Nm name := by exact ⟨by decide, by decide⟩) (l : Pl X e es pos := by exact ⟨rfl, rfl⟩) :
    EN X B (.Call (.Name name p) (e :: es) [] pos) (bltN rr tl) := ⟨fun ad F H s σ Q r t => we_of (pe_callB (cr_any _) hg hm hv pa_wa n.hn n.hdb l.he l.hpl) ((ha.run ad F H s σ _ r t).imp fun vs H1 q => by
  obtain ⟨ad1, F1, xs, s1, e1, k1, r1, hvs, hln, q⟩ := q
  exact rAnyC_imp (hc ad1 F1 H1 s1 σ xs vs Q r1 hvs q) fun w H' h => h.up e1 k1)⟩
theorem en_bty {id : String} {rr : List AVal → TNA} (hc : CalN X B (.type id) rr) (hm : X.mg name = none) (ha : EL X B (e :: es) tl) (hv : bootBuiltins name = some (.type id) := by decide +kernel) (hg : Gl X name := by rfl) (n : Nm name := by exact ⟨by decide, by decide⟩) (l : Pl X e es pos := by exact ⟨rfl, rfl⟩) :
    EN X B (.Call (.Name name p) (e :: es) [] pos) (bltN rr tl) := ⟨fun ad F H s σ Q r t => we_of (pe_callTy (cr_any _) hg hm hv pa_wa n.hn n.hdb l.he l.hpl) ((ha.run ad F H s σ _ r t).imp fun vs H1 q => by
  obtain ⟨ad1, F1, xs, s1, e1, k1, r1, hvs, hln, q⟩ := q
  exact rAnyC_imp (hc ad1 F1 H1 s1 σ xs vs Q r1 hvs q) fun w H' h => h.up e1 k1)⟩
def one (k : AVal → Prop) : List AVal → Prop
  | [x] => k x
  | _ => False
theorem one_ok {k : AVal → Prop} {xs : List AVal} {us : List V} (h : one k xs) (hp : Paired (VOk ad F) xs us) : ∃ x u, xs = [x] ∧ us = [u] ∧ VOk ad F x u ∧ k x := by
  match xs, us, hp, h with
  | [x], _, .cons (b := u) h1 .nil, h => exact ⟨x, u, rfl, rfl, h1, h⟩
def lenA (xs : List AVal) : TEA := fun s Q => one (fun x => match view s x with
  | .seq ys => Q (.d (.int ys.length)) s
  | .dct kvs => Q (.d (.int kvs.length)) s
  | .txt z => z.length ≤ sizeLine ∧ Q (.d (.int z.length)) s
  | .oth => False) xs
theorem call_lenR : CallR X (.builtin "len") (fun xs H Q => ∃ a kvs, xs = [V.ref a] ∧ Rd H a (.dK kvs) ∧ Q (.int kvs.length) H) := by
  intro pins s σ H xs us Q I r h
  obtain ⟨a, kvs, rfl, ha, q⟩ := h
  obtain ⟨u, rfl, ru⟩ := vals1 r
  cases ru
  exact d_len I ha fun t s' I' => ⟨.int kvs.length, H, I', ⟨t, rfl⟩, q⟩
theorem c_len : CalA X B (.builtin "len") lenA := fun ad F H s σ xs us Q r hp t => by
  obtain ⟨x, u, rfl, rfl, hx, t⟩ := one_ok t hp
  split at t
  · rename_i ys hy
    obtain ⟨l, vs, rfl, h1, h2⟩ := hx.seq r hy
    have hl := Paired.len h2
    rcases h1 with h1 | h1
    · exact ⟨_, call_len, _, vs.length, rfl, .inl ⟨vs, SqL.of h1, rfl⟩, .here (x := .d (.int ys.length)) r (by rw [hl]; rfl) t⟩
    · exact ⟨_, call_len, _, vs.length, rfl, .inr ⟨vs, SqT.of h1, rfl⟩, .here (x := .d (.int ys.length)) r (by rw [hl]; rfl) t⟩
  · rename_i kvs hk
    obtain ⟨l, es, rfl, h1, h2⟩ := hx.dct r hk
    have hl := Paired.len h2
    exact ⟨_, call_lenR, l, es, rfl, h1, .here (x := .d (.int kvs.length)) r (by rw [hl]; rfl) t⟩
  · rename_i z hz
    have := hx.txt r hz
    subst this
    exact ⟨_, call_len, _, z.length, rfl, ⟨t.1, rfl⟩, .here (x := .d (.int z.length)) r rfl t.2⟩
  · exact t.elim
def listN (xs : List AVal) : TNA := fun s Q => one (fun x => onSome (listOf s x) fun ds => Q (.lst ds) s) xs
theorem c_list : CalN X B (.type "list") listN := fun ad F H s σ xs us Q r hp t => by
  obtain ⟨x, u, rfl, rfl, hx, ds, e, q⟩ := one_ok t hp
  obtain ⟨l, vs, rfl, h1, h2⟩ := hx.list r e
  exact ⟨_, call_list_of, l, vs, rfl, .inl (SqL.of h1), fun p hp => .here (c := .lst ds) r hp ⟨_, upd_same, h2⟩ rfl q⟩
/-- sorted of a dict of texts -/
def txtKeys : List (Key × AVal) → Option (List Str)
  | [] => some []
  | p :: r => match p.1 with
    | .inr x => (txtKeys r).map (x :: ·)
    | .inl _ => none
theorem txtKeys_ok : ∀ {kvs : List (Key × AVal)} {es : List (Key × V)} {ks : List Str}, txtKeys kvs = some ks → KrOk ad F kvs es → es.map (·.1) = ks.map Sum.inr
  | [], _, ks, h, .nil => by cases h; rfl
  | p :: r, _, ks, h, .cons (b := q) hq t => by
    have h' : (match p.1 with | .inr x => (txtKeys r).map (x :: ·) | .inl _ => none) = some ks := h
    split at h'
    · rename_i x hx
      cases hr : txtKeys r with
      | none => rw [hr] at h'; cases h'
      | some ys =>
        rw [hr] at h'
        cases h'
        show q.1 :: _ = Sum.inr x :: _
        rw [txtKeys_ok hr t, ← hq.1, hx]
    · cases h'
def sortedN (xs : List AVal) : TNA := fun s Q => one (fun x => match view s x with
  | .dct kvs => onSome (txtKeys kvs) fun ks => ks.length < 64 ∧ Q (.lst ((srt ks).map .str)) s
  | _ => onSome (listOf s x) fun ds => onSome (srtD ds) fun es => Q (.lst es) s) xs
theorem c_sorted (hc : X.calm = true) : CalN X B (.builtin "sorted") sortedN := fun ad F H s σ xs us Q r hp t => by
  obtain ⟨x, u, rfl, rfl, hx, t⟩ := one_ok t hp
  split at t
  · rename_i kvs hk
    obtain ⟨ks, e, hl, q⟩ := t
    obtain ⟨l, es, rfl, h1, h2⟩ := hx.dct r hk
    refine ⟨_, call_sortedD hc, l, es, ks, rfl, h1, txtKeys_ok e h2, hl, fun ys p hp hs hn => ?_⟩
    have := srt_eq hp hs
    subst this
    exact .here (c := .lst ((srt ks).map .str)) r hn ⟨_, upd_same, daAll_strs _⟩ rfl q
  · obtain ⟨ds, e, es, e2, q⟩ := t
    obtain ⟨l, vs, rfl, h1, h2⟩ := hx.list r e
    unfold srtD at e2
    split at e2
    · rename_i ss hs
      cases e2
      have := strs?_of hs
      subst this
      obtain rfl := h2.strs
      exact ⟨_, cr_sortedSA, l, ss, rfl, SqL.of h1, fun p hp => .here (c := .lst ((srt ss).map .str)) r hp ⟨_, upd_same, daAll_strs _⟩ rfl q⟩
    · rename_i hs
      cases hi : ints? ds with
      | none => rw [hi] at e2; cases e2
      | some ns =>
        rw [hi] at e2
        cases e2
        have := ints?_of hi
        subst this
        obtain rfl := h2.ints
        refine ⟨_, cr_sortedI, l, ns, rfl, SqL.of h1, fun ns' p hp hs hn => ?_⟩
        have := ints_unique (hp.trans (srtI_perm ns).symm) hs (srtI_sorted ns)
        subst this
        exact .here (c := .lst ((srtI ns).map .int)) r hn ⟨_, upd_same, daAll_ints _⟩ rfl q
/-- sorted(set(..)) of texts -/
def ssetN (ta : TEA) : TNA := fun s Q => ta s fun x s1 => onSome (listOf s1 x) fun ds => onSome (strs? ds) fun xs => xs.length ≤ 4000 ∧ Q (.lst ((kset xs).map .str)) s1
theorem en_sset (hm : X.mg "sorted" = none) (hm2 : X.mg "set" = none) (hc : X.calm = true) (ha : EA X B e ta) (hg : Gl X "sorted" := by rfl) (hg2 : Gl X "set" := by rfl) (l : Pl X (.Call (.Name "set" p2) [e] [] pos2) [] pos := by exact ⟨rfl, rfl⟩) (l2 : Pl X e [] pos2 := by exact ⟨rfl, rfl⟩) :
    EN X B (.Call (.Name "sorted" p) [.Call (.Name "set" p2) [e] [] pos2] [] pos) (ssetN ta) := ⟨fun ad F H s σ Q r t =>
  we_of (pe_callB (cr_sortedSetS hc) hg hm (by decide +kernel) (pa_cons (pe_callTy (cr_setS hc) hg2 hm2 (by decide +kernel) (pa_cons pe_we pa_nil l2.he) (by decide) (by decide) l2.he l2.hpl) pa_nil l.he) (by decide) (by decide) l.he l.hpl)
    ((ha.run ad F H s σ _ r t).imp fun v H1 q => by
      obtain ⟨ad1, F1, x, s1, e1, k1, r1, hv, ds, ed, xs, ex, hl, q⟩ := q
      obtain ⟨m, vs, rfl, h1, h2⟩ := hv.list r1 ed
      have := strs?_of ex
      subst this
      obtain rfl := h2.strs
      refine ⟨m, xs, rfl, SqL.of h1, by show xs.length + 1 < 4096; omega, fun b L hb mt => ⟨b, L, rfl, upd_same, fun c hcn => ?_⟩⟩
      have r2 := r1.gr ((Gr.refl r1.fh).open' (o := SetSO X.w b L) hb)
      rw [mt.kset]
      exact (PostN.here (c := .lst ((kset xs).map .str)) r2 hcn ⟨_, upd_same, daAll_strs _⟩ rfl q).up e1 k1)⟩
def sumA (xs : List AVal) : TEA := fun s Q => one (fun x => onSome (listOf s x) fun ds => onSome (ints? ds) fun ns => Q (.d (.int ns.sum)) s) xs
theorem c_sum (hc : X.calm = true) : CalA X B (.builtin "sum") sumA := fun ad F H s σ xs us Q r hp t => by
  obtain ⟨x, u, rfl, rfl, hx, ds, e, ns, e2, q⟩ := one_ok t hp
  obtain ⟨l, vs, rfl, h1, h2⟩ := hx.list r e
  have := ints?_of e2
  subst this
  obtain rfl := h2.ints
  exact ⟨_, cr_sum hc, l, ns, rfl, SqL.of h1, .here (x := .d (.int ns.sum)) r rfl q⟩
def two (k : AVal → AVal → Prop) : List AVal → Prop
  | [x, y] => k x y
  | _ => False
theorem two_ok {k : AVal → AVal → Prop} {xs : List AVal} {us : List V} (h : two k xs) (hp : Paired (VOk ad F) xs us) : ∃ x y u v, xs = [x, y] ∧ us = [u, v] ∧ VOk ad F x u ∧ VOk ad F y v ∧ k x y := by
  match xs, us, hp, h with
  | [x, y], _, .cons (b := u) h1 (.cons (b := v) h2 .nil), h => exact ⟨x, y, u, v, rfl, rfl, h1, h2, h⟩
def minA (xs : List AVal) : TEA := fun s Q => two (fun x y => onSome x.int? fun i => onSome y.int? fun j => Q (.d (.int (min i j))) s) xs
def maxA (xs : List AVal) : TEA := fun s Q => two (fun x y => onSome x.int? fun i => onSome y.int? fun j => Q (.d (.int (max i j))) s) xs
theorem c_min (hc : X.calm = true) : CalA X B (.builtin "min") minA := fun ad F H s σ xs us Q r hp t => by
  obtain ⟨x, y, u, v, rfl, rfl, hx, hy, i, ei, j, ej, q⟩ := two_ok t hp
  have e1 := AVal.int?_of ei
  have e2 := AVal.int?_of ej
  subst e1; subst e2
  obtain rfl : u = .int i := hx
  obtain rfl : v = .int j := hy
  refine ⟨_, call_min2 hc, i, j, rfl, .here (x := .d (.int (min i j))) r ?_ q⟩
  show V.int _ = V.int _
  congr 1
  split <;> omega
theorem c_max (hc : X.calm = true) : CalA X B (.builtin "max") maxA := fun ad F H s σ xs us Q r hp t => by
  obtain ⟨x, y, u, v, rfl, rfl, hx, hy, i, ei, j, ej, q⟩ := two_ok t hp
  have e1 := AVal.int?_of ei
  have e2 := AVal.int?_of ej
  subst e1; subst e2
  obtain rfl : u = .int i := hx
  obtain rfl : v = .int j := hy
  refine ⟨_, call_max2 hc, i, j, rfl, .here (x := .d (.int (max i j))) r ?_ q⟩
  show V.int _ = V.int _
  congr 1
  split <;> omega
def intA (xs : List AVal) : TEA := fun s Q => one (fun x => match x with
  | .d (.int i) => Q (.d (.int i)) s
  | .d (.bool b) => Q (.d (.int (if b then 1 else 0))) s
  | _ => False) xs
theorem c_int : CalA X B (.type "int") intA := fun ad F H s σ xs us Q r hp t => by
  obtain ⟨x, u, rfl, rfl, hx, t⟩ := one_ok t hp
  cases x with
  | r n => exact t.elim
  | s _ _ => exact t.elim
  | a _ _ _ => exact t.elim
  | d y =>
    cases y with
    | int i =>
      obtain rfl : u = .int i := hx
      exact ⟨_, call_int1, .inl ⟨i, rfl, .here (x := .d (.int i)) r rfl t⟩⟩
    | bool b =>
      obtain rfl : u = .bl b := hx
      exact ⟨_, call_int1, .inr ⟨b, rfl, .here (x := .d (.int (if b then 1 else 0))) r rfl t⟩⟩
    | _ => exact t.elim
/-! ## isinstance -/
def kdTy : Kd → Option String
  | .lst => some "list"
  | .tup => some "tuple"
  | .dct _ => some "dict"
  | .obj _ _ _ => none
theorem kdTy_ok {k : Kd} {q : Addr} {vs : List V} {tn : String} (e : kdTy k = some tn) (h : H q = some (k.ho vs)) : TyX X.K H (.ref q) (.type tn) := by
  cases k with
  | lst => cases e; exact .base (.lst h)
  | tup => cases e; exact .base (.tup h)
  | dct ks => cases e; exact .base (.dK h)
  | obj _ _ _ => cases e
def nodeK (s : AS) (x : AVal) : Option Kd := (nodeAt s x).map fun p => p.2.2.1
theorem nodeK_ok {k : Kd} (r : Rl B ad F H s σ) (h : VOk ad F x u) (e : nodeK s x = some k) : ∃ q vs, u = .ref q ∧ H q = some (k.ho vs) := by
  unfold nodeK at e
  cases hn : nodeAt s x with
  | none => rw [hn] at e; cases e
  | some p =>
    obtain ⟨m, pt', k', q, ys⟩ := p
    rw [hn] at e
    cases e
    obtain ⟨t, p', vs, N⟩ := nodeAt_ok r h hn
    exact ⟨q, vs, N.val, N.ho⟩
def tyOf (s : AS) : AVal → Option String
  | .d x => some (tyName x)
  | .r n => match s.cs[n]? with
    | some (.lst _) => some "list"
    | some (.nl _) => some "list"
    | some (.nt _) => some "tuple"
    | some (.dK _) => some "dict"
    | some (.nd _) => some "dict"
    | some (.fz x) => some (tyName x)
    | some (.tr (.nd k _ _)) => kdTy k
    | _ => none
  | .s _ _ => none
  | .a p n pt => (nodeK s (.a p n pt)).bind kdTy
theorem tyOf_ok {tn : String} (r : Rl B ad F H s σ) (h : VOk ad F x u) (e : tyOf s x = some tn) : TyX X.K H u (.type tn) := by
  cases x with
  | s _ _ => cases e
  | d y => cases e; exact da_ty (Da.mono r.fh h)
  | r n =>
    obtain ⟨a, h1, rfl⟩ := h
    simp only [tyOf] at e
    split at e
    · rename_i ds hc; cases e; obtain ⟨_, _, vs, h2, _⟩ := r.cel n a _ h1 hc; exact .base (.lst h2)
    · rename_i ds hc; cases e; obtain ⟨_, _, vs, h2, _⟩ := r.cel n a _ h1 hc; exact .base (.lst h2)
    · rename_i ds hc; cases e; obtain ⟨_, _, vs, h2, _⟩ := r.cel n a _ h1 hc; exact .base (.tup h2)
    · rename_i ds hc; cases e; obtain ⟨_, _, vs, h2, _⟩ := r.cel n a _ h1 hc; exact .base (.dK h2)
    · rename_i ds hc; cases e; obtain ⟨_, _, vs, h2, _⟩ := r.cel n a _ h1 hc; exact .base (.dK h2)
    · rename_i y hc; cases e; obtain ⟨_, _, h4⟩ := r.cel n a _ h1 hc; exact da_ty (Da.mono (d := y) r.fh h4)
    · rename_i k q ys hc
      obtain ⟨_, _, h2, h3⟩ := r.cel n a _ h1 hc
      cases h2
      obtain ⟨_, vs, h4, _⟩ := h3.node
      exact kdTy_ok e h4
    · cases e
  | a p n pt =>
    have e' : (nodeK s (.a p n pt)).bind kdTy = some tn := e
    cases hk : nodeK s (.a p n pt) with
    | none => rw [hk] at e'; cases e'
    | some k =>
      rw [hk] at e'
      obtain ⟨q, vs, rfl, h1⟩ := nodeK_ok r h hk
      exact kdTy_ok e' h1
def isiT (tn : String) (ta : TEA) : TEA := fun s Q => ta s fun x s1 => onSome (tyOf s1 x) fun t => onSome (kitB t tn) fun b => Q (.d (.bool b)) s1
theorem ea_isi {T : Str} {tn : String} {q1 q2 : Pos} (hm : X.mg "isinstance" = none) (hmT : X.mg T = none) (ha : EA X B e ta) (hv : bootBuiltins T = some (.type tn) := by decide +kernel) (hg : Gl X "isinstance" := by rfl) (hgT : Gl X T := by rfl) (n : Nm T := by exact ⟨by decide, by decide⟩)
    (l : Pl X e [.Name T pos] q2 := by exact ⟨rfl, rfl⟩) (l2 : starEach [.Name T pos] X.env = [(false, eval (.Name T pos) X.env)] := by rfl) : EA X B (.Call (.Name "isinstance" q1) [e, .Name T pos] [] q2) (isiT tn ta) := ⟨fun ad F H s σ Q r t =>
  we_of (pe_callB call_isi hg hm (by decide +kernel) (pa_cons pe_we (pa_cons (pe_bltn (v := .ty tn) hgT hmT hv rfl n.hn n.hdb) pa_nil l2) l.he) (by decide) (by decide) l.he l.hpl) ((ha.run ad F H s σ _ r t).imp fun v H1 q => by
    obtain ⟨ad1, F1, x, s1, e1, k1, r1, hv2, t, et, b, eb, q⟩ := q
    exact ⟨v, .ty tn, .type t, .type tn, b, rfl, .ty tn, tyOf_ok r1 hv2 et, kit_ty eb, (Post.here (x := .d (.bool b)) r1 rfl q).up e1 k1⟩)⟩
/-! ## methods -/
def rAnyM (X : Cx) (id : String) : V → List V → Hp → VK → Prop := fun u us H Q => ∃ r, MtR X id r ∧ r u us H Q
theorem mt_any (id : String) : MtR X id (rAnyM X id) := fun pins s σ H x xs v us Q I rx r ⟨q, h, k⟩ => h pins s σ H x xs v us Q I rx r k
theorem rAnyM_imp {id : String} {us : List V} {Q Q' : VK} (h : rAnyM X id u us H Q) (k : ∀ w H', Q w H' → Q' w H') : rAnyM X id u us H Q' := by
  obtain ⟨r, h1, h2⟩ := h
  exact ⟨fun u us H K => ∃ K', (∀ w H', K' w H' → K w H') ∧ r u us H K', fun pins s σ H x xs v us Q I rx rxs ⟨K', k1, k2⟩ => thn (h1 pins s σ H x xs v us K' I rx rxs k2) fun z s' ⟨w, H', I', rz, qz⟩ => ⟨w, H', I', rz, k1 w H' qz⟩, _, k, h2⟩
def MtA (X : Cx) (B : Bs) (id : String) (rr : AVal → List AVal → TEA) : Prop := ∀ ad F H s σ x xs u us Q, Rl B ad F H s σ → VOk ad F x u → Paired (VOk ad F) xs us → rr x xs s Q → rAnyM X id u us H (Post B ad F σ Q)
def isLst (s : AS) : AVal → Bool
  | .d (.list _) => true
  | .r n => match s.cs[n]? with
    | some (.lst _) => true
    | some (.nl _) => true
    | some (.fz (.list _)) => true
    | some (.tr (.nd .lst _ _)) => true
    | _ => false
  | .a p n pt => match nodeK s (.a p n pt) with
    | some .lst => true
    | _ => false
  | _ => false
theorem isLst_ok (r : Rl B ad F H s σ) (h : VOk ad F x u) (e : isLst s x = true) : tyV X.K "list" u H := by
  unfold isLst at e
  split at e
  · obtain ⟨a, xs, rfl, h1, _⟩ := h; exact .inl ⟨rfl, xs, SqL.of (r.fh _ _ h1)⟩
  · rename_i n
    obtain ⟨a, h1, rfl⟩ := h
    split at e
    · rename_i ds hc; obtain ⟨_, _, vs, h2, _⟩ := r.cel n a _ h1 hc; exact .inl ⟨rfl, vs, SqL.of h2⟩
    · rename_i ds hc; obtain ⟨_, _, vs, h2, _⟩ := r.cel n a _ h1 hc; exact .inl ⟨rfl, vs, SqL.of h2⟩
    · rename_i ds hc
      obtain ⟨_, _, h4⟩ := r.cel n a _ h1 hc
      obtain ⟨a', xs, e', h2, h3⟩ := h4
      cases e'
      exact .inl ⟨rfl, xs, SqL.of (r.fh _ _ h2)⟩
    · rename_i q ys hc
      obtain ⟨_, _, h2, h3⟩ := r.cel n a _ h1 hc
      cases h2
      obtain ⟨_, vs, h4, _⟩ := h3.node
      exact .inl ⟨rfl, vs, SqL.of h4⟩
    · cases e
  · split at e
    · rename_i hk
      obtain ⟨q, vs, rfl, h1⟩ := nodeK_ok r h hk
      exact .inl ⟨rfl, vs, SqL.of h1⟩
    · cases e
  · cases e
def mtL (rr : AVal → List AVal → TEA) (to : TEA) (tl : TLA) : TEA := fun s Q => to s fun x s1 => isLst s1 x = true ∧ tl s1 fun xs s2 => rr x xs s2 Q
theorem ea_mtL {id : String} {rr : AVal → List AVal → TEA} (slot : Slot "list" name id) (hty : typeOf (.builtin id) = pure (.type "method_descriptor")) (hm : MtA X B id rr) (ho : EA X B o to) (ha : EL X B (e :: es) tl) (bm : Bm X o name e es apos cpos := by exact ⟨rfl, rfl, rfl, rfl, rfl⟩) :
    EA X B (.Call (.Attribute o name apos) (e :: es) [] cpos) (mtL rr to tl) := ⟨fun ad F H s σ Q r t =>
  we_of (pe_bm PySem.F.plainAttrs_list slot hty (mt_any id) pe_we pa_wa bm.hbase bm.hfew bm.hline bm.hs bm.hplain) ((ho.run ad F H s σ _ r t).imp fun u H1 q => by
    obtain ⟨ad1, F1, x, s1, e1, k1, r1, hu, hl, q⟩ := q
    refine ⟨isLst_ok r1 hu hl, (ha.run ad1 F1 H1 s1 σ _ r1 q).imp fun us H2 q => ?_⟩
    obtain ⟨ad2, F2, xs, s2, e2, k2, r2, hus, hln, q⟩ := q
    exact rAnyM_imp (hm ad2 F2 H2 s2 σ x xs u us Q r2 (hu.mono e2 k2) hus q) fun w H' h => h.up (e1.trans e2) (k1.trans k2))⟩
def mtL0 (rr : AVal → List AVal → TEA) (to : TEA) : TEA := fun s Q => to s fun x s1 => isLst s1 x = true ∧ rr x [] s1 Q
theorem ea_mtL0 {id : String} {rr : AVal → List AVal → TEA} (slot : Slot "list" name id) (hty : typeOf (.builtin id) = pure (.type "method_descriptor")) (hm : MtA X B id rr) (ho : EA X B o to) (hbase : attributeBase o name X.env (eval o X.env) = eval o X.env := by rfl) (hline : (apos.endLine == cpos.line) = true := by rfl) :
    EA X B (.Call (.Attribute o name apos) [] [] cpos) (mtL0 rr to) := ⟨fun ad F H s σ Q r t =>
  we_of (pe_bm0 PySem.F.plainAttrs_list slot hty (mt_any id) pe_we hbase hline) ((ho.run ad F H s σ _ r t).imp fun u H1 q => by
    obtain ⟨ad1, F1, x, s1, e1, k1, r1, hu, hl, q⟩ := q
    exact ⟨isLst_ok r1 hu hl, rAnyM_imp (hm ad1 F1 H1 s1 σ x [] u [] Q r1 hu .nil q) fun w H' h => h.up e1 k1⟩)⟩
/-- the cell of a list of our own -/
def onLst (s : AS) (x : AVal) (k : Nat → List PyData → Prop) : Prop := match x with
  | .r n => match s.cs[n]? with
    | some (.lst ds) => k n ds
    | _ => False
  | _ => False
theorem onLst_ok {k : Nat → List PyData → Prop} (r : Rl B ad F H s σ) (hx : VOk ad F x u) (h : onLst s x k) : ∃ n ds p vs, s.cs[n]? = some (.lst ds) ∧ ad[n]? = some p ∧ u = .ref p ∧ H p = some (.lst vs) ∧ DaAll F ds vs ∧ k n ds := by
  unfold onLst at h
  split at h
  · rename_i n
    split at h
    · rename_i ds hc
      obtain ⟨p, h1, rfl⟩ := hx
      obtain ⟨_, _, vs, h2, h3⟩ := r.cel n p _ h1 hc
      exact ⟨n, ds, p, vs, hc, h1, rfl, h2, h3, h⟩
    · exact h.elim
  · exact h.elim
theorem Post.putL {Q : VQ} {d : PyData} {n : Nat} {ds es : List PyData} {q : Addr} {vs : List V} (r : Rl B ad F H s σ) (hc : s.cs[n]? = some (.lst ds)) (hp : ad[n]? = some q) (hd : DaAll F es vs) (hv : Da F d v) (k : Q (.d d) ⟨s.sl, s.cs.set n (.lst es)⟩) : Post B ad F σ Q v (upd H q (.lst vs)) :=
  .here (x := .d d) (r.put (c := .lst es) hp hc rfl ⟨vs, upd_same, hd⟩) hv k
def appendA (x : AVal) (xs : List AVal) : TEA := fun s Q => one (fun y => onLst s x fun n ds => onSome y.data? fun d => ds.length < sizeLine ∧ Q (.d .none) ⟨s.sl, s.cs.set n (.lst (ds ++ [d]))⟩) xs
theorem m_append : MtA X B "list.append" appendA := fun ad F H s σ x xs u us Q r hx hp t => by
  obtain ⟨y, w, rfl, rfl, hy, t⟩ := one_ok t hp
  obtain ⟨n, ds, p, vs, hc, h1, rfl, h2, h3, d, ed, hz, q⟩ := onLst_ok r hx t
  have := AVal.data?_of ed
  subst this
  exact ⟨_, mt_append, p, vs, w, rfl, rfl, h2, by rw [h3.length]; exact hz, .putL (d := .none) r hc h1 (h3.snoc hy) rfl q⟩
def extendA (x : AVal) (xs : List AVal) : TEA := fun s Q => one (fun y => onLst s x fun n ds => onSome (listOf s y) fun es => ds.length + es.length ≤ sizeLine ∧ Q (.d .none) ⟨s.sl, s.cs.set n (.lst (ds ++ es))⟩) xs
theorem m_extend : MtA X B "list.extend" extendA := fun ad F H s σ x xs u us Q r hx hp t => by
  obtain ⟨y, w, rfl, rfl, hy, t⟩ := one_ok t hp
  obtain ⟨n, ds, p, vs, hc, h1, rfl, h2, h3, es, ee, hz, q⟩ := onLst_ok r hx t
  obtain ⟨m, ws, rfl, h4, h5⟩ := hy.list r ee
  exact ⟨_, mt_extend, p, m, vs, ws, rfl, rfl, h2, h4, by rw [h3.length, h5.length]; exact hz, .putL (d := .none) r hc h1 (h3.append h5) rfl q⟩
def removeA (x : AVal) (xs : List AVal) : TEA := fun s Q => one (fun y => onLst s x fun n ds => onSome (strs? ds) fun ss => onSome y.str? fun z => z ∈ ss ∧ Q (.d .none) ⟨s.sl, s.cs.set n (.lst ((ss.erase z).map .str))⟩) xs
theorem m_remove : MtA X B "list.remove" removeA := fun ad F H s σ x xs u us Q r hx hp t => by
  obtain ⟨y, w, rfl, rfl, hy, t⟩ := one_ok t hp
  obtain ⟨n, ds, p, vs, hc, h1, rfl, h2, h3, ss, es, z, ez, hz, q⟩ := onLst_ok r hx t
  have := AVal.str?_of ez
  subst this
  have := strs?_of es
  subst this
  obtain rfl := h3.strs
  obtain rfl : w = .str z := hy
  exact ⟨_, mt_removeS, p, ss, z, rfl, rfl, h2, hz, .putL (d := .none) r hc h1 (daAll_strs _) rfl q⟩
def popA (x : AVal) (xs : List AVal) : TEA := fun s Q => onLst s x fun n ds => onSome ds.getLast? fun d => Q (.d d) ⟨s.sl, s.cs.set n (.lst ds.dropLast)⟩
theorem DaAll.dropLast {ds : List PyData} {vs : List V} (h : DaAll F ds vs) : DaAll F ds.dropLast vs.dropLast := by
  rw [List.dropLast_eq_take, List.dropLast_eq_take, h.length]
  exact h.take _
theorem m_pop : MtA X B "list.pop" (fun x xs s Q => xs = [] ∧ popA x xs s Q) := fun ad F H s σ x xs u us Q r hx hp t => by
  obtain ⟨rfl, t⟩ := t
  cases hp
  obtain ⟨n, ds, p, vs, hc, h1, rfl, h2, h3, d, ed, q⟩ := onLst_ok r hx t
  rw [List.getLast?_eq_getElem?] at ed
  obtain ⟨w, hw, hd⟩ := h3.get ed
  exact ⟨_, mt_pop, p, vs, w, rfl, rfl, h2, by rw [h3.length]; exact hw, .putL (d := d) r hc h1 h3.dropLast hd q⟩
def popAtA (x : AVal) (xs : List AVal) : TEA := fun s Q => one (fun y => onLst s x fun n ds => onSome y.int? fun i => (0 ≤ i ∧ i < 2 ^ 63) ∧ onSome (ds[i.toNat]?) fun d => Q (.d d) ⟨s.sl, s.cs.set n (.lst (ds.eraseIdx i.toNat))⟩) xs
theorem DaAll.eraseIdx : ∀ {ds : List PyData} {vs : List V} (k : Nat), DaAll F ds vs → DaAll F (ds.eraseIdx k) (vs.eraseIdx k)
  | [], _, k, h => by obtain rfl := (show _ = [] from h); exact h
  | d :: ds, _, 0, h => by
    obtain ⟨v, r, rfl, h1, h2⟩ := (show ∃ v r, _ = v :: r ∧ Da F d v ∧ DaAll F ds r from h)
    exact h2
  | d :: ds, _, k + 1, h => by
    obtain ⟨v, r, rfl, h1, h2⟩ := (show ∃ v r, _ = v :: r ∧ Da F d v ∧ DaAll F ds r from h)
    exact daAll_cons h1 (DaAll.eraseIdx k h2)
theorem m_popAt : MtA X B "list.pop" popAtA := fun ad F H s σ x xs u us Q r hx hp t => by
  obtain ⟨y, w, rfl, rfl, hy, t⟩ := one_ok t hp
  obtain ⟨n, ds, p, vs, hc, h1, rfl, h2, h3, i, ei, ⟨h0, hi⟩, d, ed, q⟩ := onLst_ok r hx t
  have := AVal.int?_of ei
  subst this
  obtain rfl : w = .int i := hy
  obtain ⟨z, hz, hd⟩ := h3.get ed
  have hl := (List.getElem?_eq_some_iff.mp hz).1
  exact ⟨_, mt_popAt, p, vs, i, i.toNat, z, rfl, rfl, h2, by omega, hi, seqIx h0 hl, hz, .putL (d := d) r hc h1 (h3.eraseIdx _) hd q⟩
def clearA (x : AVal) (xs : List AVal) : TEA := fun s Q => onLst s x fun n ds => Q (.d .none) ⟨s.sl, s.cs.set n (.lst [])⟩
theorem m_clear : MtA X B "list.clear" (fun x xs s Q => xs = [] ∧ clearA x xs s Q) := fun ad F H s σ x xs u us Q r hx hp t => by
  obtain ⟨rfl, t⟩ := t
  cases hp
  obtain ⟨n, ds, p, vs, hc, h1, rfl, h2, h3, q⟩ := onLst_ok r hx t
  exact ⟨_, mt_clear, p, vs, rfl, rfl, h2, .putL (d := .none) r hc h1 daAll_nil rfl q⟩
def countA (x : AVal) (xs : List AVal) : TEA := fun s Q => one (fun y => onSome (listOf s x) fun ds => onSome (strs? ds) fun ss => onSome y.str? fun z => Q (.d (.int (ss.count z : Nat))) s) xs
theorem m_count : MtA X B "list.count" countA := fun ad F H s σ x xs u us Q r hx hp t => by
  obtain ⟨y, w, rfl, rfl, hy, ds, ed, ss, es, z, ez, q⟩ := one_ok t hp
  have := AVal.str?_of ez
  subst this
  obtain ⟨l, vs, rfl, h1, h2⟩ := hx.list r ed
  have := strs?_of es
  subst this
  obtain rfl := h2.strs
  obtain rfl : w = .str z := hy
  exact ⟨_, mt_countS, l, ss, z, rfl, rfl, SqL.of h1, .here (x := .d (.int (ss.count z : Nat))) r rfl q⟩
/-! ## dicts -/
def newD : TNA := fun s Q => Q (.dK []) s
theorem en_dict : EN X B (.Dict [] [] pos) newD := ⟨fun ad F H s σ Q r t => we_of pe_dnewK fun p hp => .here (c := .dK []) r hp ⟨[], upd_same, .nil⟩ rfl t⟩
def getD2 (to te tf : TEA) : TEA := fun s Q => to s fun x s1 => te s1 fun y s2 => tf s2 fun z s3 => match view s1 x, view s3 x with
  | .dct _, .dct kvs => onSome y.key? fun k => Q ((getA kvs k).getD z) s3
  | _, _ => False
theorem isD_ok {kvs : List (Key × AVal)} (r : Rl B ad F H s σ) (h : VOk ad F x u) (e : view s x = .dct kvs) : ∃ l es, u = .ref l ∧ IsD H l ∧ Rd H l (.dK es) ∧ KrOk ad F kvs es := by
  obtain ⟨l, es, rfl, h1, h2⟩ := h.dct r e
  exact ⟨l, es, rfl, .inl ⟨es, h1⟩, h1, h2⟩
def isDct (s : AS) (x : AVal) : Prop := match view s x with | .dct _ => True | _ => False
def getA2 (to te tf : TEA) : TEA := fun s Q => to s fun x s1 => isDct s1 x ∧ te s1 fun y s2 => tf s2 fun z s3 => match view s3 x with
  | .dct kvs => onSome y.key? fun k => Q ((getA kvs k).getD z) s3
  | _ => False
theorem ea_get2 (hu : X.A.units + 64 < cLine) (ho : EA X B o to) (he : EA X B e ta) (hf : EA X B f tb) (m : M2 X o "get" apos e f cpos := by exact ⟨rfl, rfl, rfl, rfl⟩) : EA X B (.Call (.Attribute o "get" apos) [e, f] [] cpos) (getA2 to ta tb) := ⟨fun ad F H s σ Q r t =>
  we_of (pe_dget2 (by omega) pe_we pe_we pe_we m) ((ho.run ad F H s σ _ r t).imp fun u H1 q => by
    obtain ⟨ad1, F1, x, s1, e1, k1, r1, hu1, hd, q⟩ := q
    unfold isDct at hd
    split at hd
    · rename_i kvs hk
      obtain ⟨l, es, rfl, hi, _, _⟩ := isD_ok r1 hu1 hk
      refine ⟨l, rfl, hi, (he.run ad1 F1 H1 s1 σ _ r1 q).imp fun w H2 q => ?_⟩
      obtain ⟨ad2, F2, y, s2, e2, k2, r2, hw, q⟩ := q
      refine (hf.run ad2 F2 H2 s2 σ _ r2 q).imp fun z H3 q => ?_
      obtain ⟨ad3, F3, zz, s3, e3, k3, r3, hz, q⟩ := q
      split at q
      · rename_i kvs3 hk3
        obtain ⟨k, ek, q⟩ := q
        obtain ⟨l2, es2, e4, _, h4, h5⟩ := isD_ok r3 (hu1.mono (e2.trans e3) (k2.trans k3)) hk3
        cases e4
        have := AVal.key?_ok ek (hw.mono e3 k3)
        subst this
        refine ⟨valV es2 k, .inl ⟨es2, k, h4, rfl, rfl⟩, ?_⟩
        have hg := h5.get (k := k)
        refine ⟨ad3, F3, _, s3, e1.trans (e2.trans e3), k1.trans (k2.trans k3), r3, ?_, q⟩
        cases hga : getA kvs3 k with
        | none => rw [hga] at hg; rw [hg]; exact hz
        | some g => rw [hga] at hg; obtain ⟨v', hv', hvo⟩ := hg; rw [hv']; exact hvo
      · exact q.elim
    · exact hd.elim)⟩
def onDct (s : AS) (x : AVal) (k : Nat → List (Key × PyData) → Prop) : Prop := match x with
  | .r n => match s.cs[n]? with
    | some (.dK ds) => k n ds
    | _ => False
  | _ => False
theorem onDct_ok {k : Nat → List (Key × PyData) → Prop} (r : Rl B ad F H s σ) (hx : VOk ad F x u) (h : onDct s x k) : ∃ n ds p es, s.cs[n]? = some (.dK ds) ∧ ad[n]? = some p ∧ u = .ref p ∧ H p = some (.dK es) ∧ KvOk F ds es ∧ k n ds := by
  unfold onDct at h
  split at h
  · rename_i n
    split at h
    · rename_i ds hc
      obtain ⟨p, h1, rfl⟩ := hx
      obtain ⟨_, _, vs, h2, h3⟩ := r.cel n p _ h1 hc
      exact ⟨n, ds, p, vs, hc, h1, rfl, h2, h3, h⟩
    · exact h.elim
  · exact h.elim
/-- d[k] = v -/
def putS (tv to ti : TEA) : TSA := fun D s => tv s fun v s1 => to s1 fun x s2 => ti s2 fun y s3 => onDct s3 x fun n ds => onSome y.key? fun k => onSome v.data? fun d => ds.length < sizeLine ∧ D.nx ⟨s3.sl, s3.cs.set n (.dK (putA ds k d))⟩
theorem Paired.length_eq {kvs : List (Key × PyData)} {es : List (Key × V)} (h : KvOk F kvs es) : kvs.length = es.length := Paired.len h
theorem sa_put (hu : X.A.units + 64 < cLine) (hv : EA X B value tc) (ho : EA X B o ta) (hi : EA X B e tb) (hs : swapsWith value (some (.Subscript o e tpos)) pos.line X.env = pure false := by rfl) : SA X B (.Assign [.Subscript o e tpos] value pos) (putS tc ta tb) := ⟨fun D s h ad F H σ r =>
  ws_of (ps_dput (by omega) pe_we pe_we pe_we hs) ((hv.run ad F H s σ _ r h).imp fun w H1 q => by
    obtain ⟨ad1, F1, v, s1, e1, k1, r1, hv1, q⟩ := q
    refine (ho.run ad1 F1 H1 s1 σ _ r1 q).imp fun u H2 q => ?_
    obtain ⟨ad2, F2, x, s2, e2, k2, r2, hx, q⟩ := q
    refine (hi.run ad2 F2 H2 s2 σ _ r2 q).imp fun z H3 q => ?_
    obtain ⟨ad3, F3, y, s3, e3, k3, r3, hy, q⟩ := q
    obtain ⟨n, ds, p, es, hc, h1, rfl, h2, h3, k, ek, d, ed, hl, qq⟩ := onDct_ok r3 (hx.mono e3 k3) q
    have := AVal.data?_of ed
    subst this
    have := AVal.key?_ok ek hy
    subst this
    have hlen := Paired.length_eq h3
    exact ⟨p, _, rfl, DPut.k h2 (by omega), ad3, F3, _, r3.put (c := .dK (putA ds k d)) h1 hc rfl ⟨_, upd_same, put_pair (R := Da F3) h3 (Da.mono (k2.trans k3) hv1)⟩, qq⟩)⟩
/-- d[k] -= e, d[k] += e of ints -/
def augS (g : Int → Int → Int) (to ti tv : TEA) : TSA := fun D s => to s fun x s1 => ti s1 fun y s2 => onSome y.key? fun k => onDct s2 x fun _ ds0 => onSome (getA ds0 k) fun d => onSome (AVal.d d).int? fun i => tv s2 fun v s3 => onSome v.int? fun j => onDct s3 x fun n ds => ds.length < sizeLine ∧ D.nx ⟨s3.sl, s3.cs.set n (.dK (putA ds k (.int (g i j))))⟩
theorem getA_dkv {kvs : List (Key × PyData)} {es : List (Key × V)} {k : Key} {d : PyData} (h : KvOk F kvs es) (e : getA kvs k = some d) : ∃ v, valV es k = some v ∧ Da F d v := by
  have hk := (krOk_dkv (ad := []) h).get (k := k)
  have : getA (dkv kvs) k = some (.d d) := by
    unfold getA dkv at *
    rw [List.find?_map]
    cases hf : kvs.find? (fun kv => decide (kv.1 = k)) with
    | none => rw [hf] at e; cases e
    | some q =>
      rw [hf] at e
      have : q.2 = d := by simpa using e
      have hf' : kvs.find? ((fun kv : Key × AVal => decide (kv.1 = k)) ∘ fun p => (p.1, AVal.d p.2)) = some q := hf
      rw [hf']
      simp [this]
  rw [this] at hk
  exact hk
theorem sa_dsub (hu : X.A.units + 64 < cLine) (ho : EA X B o ta) (hi : EA X B e tb) (hv : EA X B value tc) (haug : ∀ ov iv new, augStore e ov iv new = (do holding [new, ov, iv] (setItem ov iv new); release [new, ov, iv] []; pure .next) := by intros; rfl) : SA X B (.AugAssign (.Subscript o e tpos) .Sub value pos) (augS (fun i j => i - j) ta tb tc) := ⟨fun D s h ad F H σ r =>
  ws_of (ps_daug (by omega) pe_we pe_we pe_we in_sub haug) ((ho.run ad F H s σ _ r h).imp fun u H1 q => by
    obtain ⟨ad1, F1, x, s1, e1, k1, r1, hx, q⟩ := q
    refine (hi.run ad1 F1 H1 s1 σ _ r1 q).imp fun z H2 q => ?_
    obtain ⟨ad2, F2, y, s2, e2, k2, r2, hy, k, ek, q⟩ := q
    obtain ⟨n, ds, p, es, hc, h1, rfl, h2, h3, d, ed, i, ei, q⟩ := onDct_ok r2 (hx.mono e2 k2) q
    have := AVal.key?_ok ek hy
    subst this
    have eI := AVal.int?_of ei
    cases eI
    obtain ⟨w, hw, hd⟩ := getA_dkv h3 ed
    obtain rfl : w = .int i := hd
    refine ⟨p, .int i, rfl, by rw [← hw]; exact DGet.k h2, (hv.run ad2 F2 H2 s2 σ _ r2 q).imp fun w2 H3 q => ?_⟩
    obtain ⟨ad3, F3, v, s3, e3, k3, r3, hv3, j, ej, q⟩ := q
    have := AVal.int?_of ej
    subst this
    obtain rfl : w2 = .int j := hv3
    obtain ⟨n2, ds2, p2, es2, hc2, h12, e4, h22, h32, hl, qq⟩ := onDct_ok r3 ((hx.mono e2 k2).mono e3 k3) q
    cases e4
    have hlen := Paired.length_eq h32
    exact ⟨i, j, rfl, rfl, _, DPut.k h22 (by omega), ad3, F3, _, r3.put (c := .dK (putA ds2 k (.int (i - j)))) h12 hc2 rfl ⟨_, upd_same, put_pair (R := Da F3) h32 (show Da F3 (.int (i - j)) (.int (i - j)) from rfl)⟩, qq⟩)⟩
/-! ## what is walked -/
variable {tg e2 : Expr}
theorem WE.sz {Q : VK} (h : WE X e σ H Q) : WE X e σ H fun v H' => Q v H' ∧ ∀ l vs, H' l = some (.lst vs) → vs.length ≤ sizeLine := fun pins s I => thn (h pins s I) fun u s' ⟨v, H', I', r, k⟩ => ⟨v, H', I', r, k, fun l vs hl => (I'.hok l _ hl).1⟩
theorem WA.sz {Q : List V → Hp → Prop} (h : WA X es σ H Q) : WA X es σ H fun v H' => Q v H' ∧ ∀ l vs, H' l = some (.lst vs) → vs.length ≤ sizeLine := fun pos pins s I => thn (h pos pins s I) fun u s' ⟨v, H', I', r, k⟩ => ⟨v, H', I', r, k, fun l vs hl => (I'.hok l _ hl).1⟩
/-- a list that is told for good -/
def fzList (s : AS) : AVal → Option (List PyData)
  | .d (.list ds) => some ds
  | .r n => match s.cs[n]? with
    | some (.fz (.list ds)) => some ds
    | _ => none
  | _ => none
theorem fzList_ok {ds : List PyData} (r : Rl B ad F H s σ) (h : VOk ad F x u) (e : fzList s x = some ds) : Da F (.list ds) u := by
  unfold fzList at e
  split at e
  · cases e; exact h
  · rename_i n
    obtain ⟨a, h1, rfl⟩ := h
    split at e
    · rename_i ds' hc; cases e; exact (r.cel n a _ h1 hc).2.2
    · cases e
  · cases e
def iterL (ta : TEA) : AS → (List PyData → AS → Prop) → Prop := fun s Q => ta s fun x s1 => onSome (fzList s1 x) fun ds => Q ds s1
theorem walks_list {F2 : Hp} {ds : List PyData} {l : Addr} {vs : List V} (h1 : F2 l = some (.lst vs)) (h2 : DaAll F2 ds vs) {K : PySem.W.Frag} : Walks (Itl K l) F2 ds := Walks0.w fun F3 H3 s1 s2 => ⟨fun i d e => by
  obtain ⟨v, hv, hd⟩ := h2.get e
  exact ⟨⟨vs, v, SqL.of (s2 _ _ (s1 _ _ h1)), hv⟩, fun x H4 y => ⟨y.1, (getV h2 e (y.2 vs (SqL.of (s2 _ _ (s1 _ _ h1))))).mono s1⟩⟩, vs, SqL.of (s2 _ _ (s1 _ _ h1)), by rw [h2.length]; exact Nat.le_refl _⟩
theorem ia_list (ha : EA X B e ta) : IA X B tg e (iterL ta) := ⟨fun ad F H s σ Q R r t k => wi_of (pi_list pe_we) ((WE.sz (ha.run ad F H s σ _ r t)).imp fun u H1 q => by
  obtain ⟨⟨ad1, F1, x, s1, e1, k1, r1, hx, ds, ed, q⟩, hz⟩ := q
  obtain ⟨l, vs, rfl, h1, h2⟩ := fzList_ok r1 hx ed
  have h1' := r1.fh _ _ h1
  exact ⟨l, rfl, ⟨vs, SqL.of h1'⟩, k _ ad1 F1 H1 s1 ds e1 k1 r1 (walks_list h1 h2) (by rw [← h2.length]; exact hz l vs h1') q⟩)⟩
/-- a list of our own, within a comprehension -/
def iterO (ta : TEA) : TIO := fun s Q => ta s fun x s1 => match x with
  | .r n => onSome s1.cs[n]? fun c => match c with
    | .lst ds => Q ds (fun cs => cs[n]? = some (.lst ds)) s1
    | .fz (.list ds) => Q ds (fun _ => True) s1
    | _ => False
  | .d (.list ds) => Q ds (fun _ => True) s1
  | .a p n pt => onSome (leafL (nodeAt s1 (.a p n pt))) fun ds => Q ds (fun cs => leafL (nodeAt ⟨[], cs⟩ (.a p n pt)) = some ds) s1
  | _ => False
theorem io_list (ha : EA X B e ta) : IO X B tg e (iterO ta) := ⟨fun ad F H s σ Q R r t k => wi_of (pi_list pe_we) ((WE.sz (ha.run ad F H s σ _ r t)).imp fun u H1 q => by
  obtain ⟨⟨ad1, F1, x, s1, e1, k1, r1, hx, q⟩, hz⟩ := q
  have fz : ∀ {ds : List PyData}, Da F1 (.list ds) u → Q ds (fun _ => True) s1 → ∃ a, u = .ref a ∧ (∃ xs, SqL X.K H1 a xs) ∧ R (Itl X.K a) H1 := fun {ds} hd q => by
    obtain ⟨l, vs, rfl, h1, h2⟩ := hd
    have h1' := r1.fh _ _ h1
    exact ⟨l, rfl, ⟨vs, SqL.of h1'⟩, k _ ad1 F1 H1 s1 ds _ e1 k1 r1 (fun B3 ad3 F3 H3 s3 σ3 _ k3 r3 _ => walks_list h1 h2 F3 H3 k3 r3.fh) (by rw [← h2.length]; exact hz l vs h1') q⟩
  cases x with
  | s _ _ => exact q.elim
  | a p n pt =>
    obtain ⟨ds, hds, q⟩ := q
    obtain ⟨l, vs, rfl, h1, h2⟩ := leafL_ok r1 hx hds
    have hlp : V.ref l = .ref p := hx
    cases hlp
    refine ⟨p, rfl, ⟨vs, SqL.of h1⟩, k _ ad1 F1 H1 s1 ds _ e1 k1 r1 (fun B3 ad3 F3 H3 s3 σ3 e3 k3 r3 hk => ?_) (by rw [← h2.length]; exact hz p vs h1) q⟩
    obtain ⟨l', ws, hl', g1, g2⟩ := leafL_ok (x := .a p n pt) (v := .ref p) r3 rfl hk
    cases hl'
    exact ⟨fun i d e => by
      obtain ⟨v, hv, hd⟩ := g2.get e
      exact ⟨⟨ws, v, SqL.of g1, hv⟩, fun x H4 y => ⟨F3, by rw [y.1]; exact .refl r3.fh, getV g2 e (y.2 ws (SqL.of g1))⟩⟩, ws, SqL.of g1, by rw [g2.length]; exact Nat.le_refl _⟩
  | d y =>
    cases y with
    | list ds => exact fz hx q
    | _ => exact q.elim
  | r n =>
    obtain ⟨c, hc, q⟩ := q
    obtain ⟨a, ha, rfl⟩ := hx
    obtain ⟨n0, l0, ok⟩ := r1.cel n a c ha hc
    cases c with
    | lst ds =>
      obtain ⟨vs, h1, h2⟩ := ok
      refine ⟨a, rfl, ⟨vs, SqL.of h1⟩, k _ ad1 F1 H1 s1 ds _ e1 k1 r1 (fun B3 ad3 F3 H3 s3 σ3 e3 k3 r3 hk => ?_) (by rw [← h2.length]; exact hz a vs h1) q⟩
      obtain ⟨_, _, ws, g1, g2⟩ := r3.cel n a _ (ext_get e3 ha) hk
      exact ⟨fun i d e => by
        obtain ⟨v, hv, hd⟩ := g2.get e
        exact ⟨⟨ws, v, SqL.of g1, hv⟩, fun x H4 y => ⟨F3, by rw [y.1]; exact .refl r3.fh, getV g2 e (y.2 ws (SqL.of g1))⟩⟩, ws, SqL.of g1, by rw [g2.length]; exact Nat.le_refl _⟩
    | fz y =>
      cases y with
      | list ds => exact fz ok q
      | _ => exact q.elim
    | _ => exact q.elim)⟩
def iterS (ta : TEA) : AS → (List PyData → AS → Prop) → Prop := fun s Q => ta s fun x s1 => onSome x.str? fun z => z.length ≤ sizeLine ∧ Q (signsD z) s1
def iterR1 (ta : TEA) : AS → (List PyData → AS → Prop) → Prop := fun s Q => ta s fun x s1 => onSome x.int? fun j => j ≤ 16777216 ∧ Q (intsD 0 j) s1
theorem ia_range1 (hm : X.mg "range" = none) (ha : EA X B e ta) (hg : Gl X "range" := by rfl) (l : Pl X e [] pos := by exact ⟨rfl, rfl⟩) : IA X B tg (.Call (.Name "range" p) [e] [] pos) (iterR1 (fun s Q => ta s fun x s1 => onSome x.int? fun j => -(2 ^ 62) ≤ j ∧ Q x s1)) := ⟨fun ad F H s σ Q R r t k =>
  wi_of (pi_range1 hg hm (pa_cons pe_we pa_nil l.he) (hs := l.he)) ((ha.run ad F H s σ _ r t).imp fun u H1 q => by
    obtain ⟨ad1, F1, x, s1, e1, k1, r1, hx, j0, ej0, hj0, j, ej, hj, q⟩ := q
    have := AVal.int?_of ej
    subst this
    obtain rfl : u = .int j := hx
    cases ej0
    refine ⟨j0, rfl, hj0, by omega, k _ ad1 F1 H1 s1 _ e1 k1 r1 (walks_rng 0 _ (by simp)).w ?_ q⟩
    rw [intsD_length]
    have : sizeLine = 16777216 := by decide
    omega)⟩
def iterR2 (ta tb : TEA) : AS → (List PyData → AS → Prop) → Prop := fun s Q => ta s fun x s1 => tb s1 fun y s2 => onSome x.int? fun i => onSome y.int? fun j => (-(2 ^ 62) ≤ i ∧ i < 2 ^ 62 ∧ -(2 ^ 62) ≤ j ∧ j < 2 ^ 62 ∧ j - i ≤ 16777216) ∧ Q (intsD i j) s2
theorem ia_range2 (hm : X.mg "range" = none) (ha : EA X B e ta) (hb : EA X B e2 tb) (hg : Gl X "range" := by rfl) (l : Pl X e [e2] pos := by exact ⟨rfl, rfl⟩) (l2 : starEach [e2] X.env = [(false, eval e2 X.env)] := by rfl) : IA X B tg (.Call (.Name "range" p) [e, e2] [] pos) (iterR2 ta tb) := ⟨fun ad F H s σ Q R r t k =>
  wi_of (pi_range2 hg hm (pa_cons pe_we (pa_cons pe_we pa_nil l2) l.he) (hs := l.he.trans (by rw [l2])) (hs2 := l2)) ((ha.run ad F H s σ _ r t).imp fun u H1 q => by
    obtain ⟨ad1, F1, x, s1, e1, k1, r1, hx, q⟩ := q
    refine (hb.run ad1 F1 H1 s1 σ _ r1 q).imp fun w H2 q => ?_
    obtain ⟨ad2, F2, y, s2, e2', k2, r2, hy, i, ei, j, ej, ⟨h1, h2, h3, h4, h5⟩, qq⟩ := q
    have ea := AVal.int?_of ei
    have eb := AVal.int?_of ej
    subst ea; subst eb
    obtain rfl : u = .int i := hx
    obtain rfl : w = .int j := hy
    refine ⟨i, j, rfl, ⟨h1, h2, h3, h4⟩, k _ ad2 F2 H2 s2 _ (e1.trans e2') (k1.trans k2) r2 (walks_rng i _ rfl).w ?_ qq⟩
    rw [intsD_length]
    have : sizeLine = 16777216 := by decide
    omega)⟩
def iterE (ta : TEA) : AS → (List PyData → AS → Prop) → Prop := fun s Q => ta s fun x s1 => onSome (fzList s1 x) fun ds => Q (enumsD ds) s1
theorem walks_enum {F2 : Hp} {ds : List PyData} {a : Addr} {xs : List V} (h1 : F2 a = some (.lst xs)) (h2 : DaAll F2 ds xs) {K : PySem.W.Frag} : Walks (Ite K a) F2 (enumsD ds) := fun F3 H3 s1 s2 => ⟨fun i d e => by
    unfold enumsD at e
    rw [List.getElem?_mapIdx] at e
    cases hc : ds[i]? with
    | none => rw [hc] at e; simp at e
    | some d0 =>
      rw [hc] at e
      have e' : PyData.tuple [.int (i : Nat), d0] = d := by simpa using e
      subst e'
      obtain ⟨v, hv, hd⟩ := h2.get hc
      refine ⟨⟨xs, v, SqL.of (s2 _ _ (s1 _ _ h1)), hv⟩, fun x H4 y => ?_⟩
      obtain ⟨T, x0, rfl, nT, rfl, hx⟩ := y
      have hx0 := (getV h2 hc (hx xs (SqL.of (s2 _ _ (s1 _ _ h1))))).mono s1
      exact ⟨upd F3 T (.tup [.int (i : Nat), x0]), (Gr.refl s2).shut nT, T, _, rfl, upd_same, daAll_cons rfl (daAll_cons (hx0.mono (same_upd (s2.free nT))) daAll_nil)⟩, xs, SqL.of (s2 _ _ (s1 _ _ h1)), by simp [enumsD, h2.length]⟩
theorem ia_enum {elts : List Expr} {kk : Nat} {tpos : Pos} (hm : X.mg "enumerate" = none) (ha : EA X B e ta) (hg : Gl X "enumerate" := by rfl) (l : starEach [e] X.env = [(false, eval e X.env)] := by rfl) : IA X B (.Tuple elts kk tpos) (.Call (.Name "enumerate" p) [e] [] pos) (iterE ta) := ⟨fun ad F H s σ Q R r t k =>
  wi_of (pi_enum hg hm (pa_cons pe_we pa_nil l) l) ((WE.sz (ha.run ad F H s σ _ r t)).imp fun u H1 q => by
    obtain ⟨⟨ad1, F1, x, s1, e1, k1, r1, hx, ds, ed, q⟩, hz⟩ := q
    obtain ⟨a, vs, rfl, h1, h2⟩ := fzList_ok r1 hx ed
    have h1' := r1.fh _ _ h1
    exact ⟨a, vs, rfl, SqL.of h1', k _ ad1 F1 H1 s1 _ e1 k1 r1 (walks_enum h1 h2) (by have := hz a vs h1'; rw [h2.length] at this; simpa [enumsD] using this) q⟩)⟩
end
end Kr

/-! layer A9 -/
namespace Kr
open PySem L2
theorem hu1 {k : Nat} {A : Around} (h : Room k A) : A.units + 1 < cLine := by have := h.units; omega
section
variable {X : Cx} {B : Bs} {ad : List Addr} {F H : Hp} {s : AS} {σ : St} {x y : AVal} {u v : V} {a b c e f o : Expr} {es : List Expr} {pos p p2 apos cpos : Pos} {ta tb tc : TEA} {tl : TLA} {name : Str}
/-! ## further rules -/
/-- a name whose cell is told for good from here on -/
def fzA (m k : Nat) : TEA := fun s Q => onSome (s.sl[k]?.bind id) fun x => match x with
  | .r n => onSome s.cs[n]? fun c => match c with
    | .fz d => Q (.d d) s
    | c => (m ≤ n ∧ c.live = true) ∧ onSome (frzC c) fun d => Q (.d d) ⟨s.sl, s.cs.set n (.fz d)⟩
  | x => Q x s
theorem ea_fz (k : Nat) {x : Str} (hN : X.N[k]? = some x := by rfl) (hv : Vis X.env.scope x := by first | exact Or.inl rfl | exact Or.inr (Or.inl rfl) | exact Or.inr (Or.inr rfl)) (hd : (x == ("__debug__" : Str)) = false := by decide)
    (hcd : (x == ("__classdict__" : Str)) = false := by decide) : EA X B (.Name x pos) (fzA B.S.length k) := ⟨fun ad F H s σ Q r t => by
  obtain ⟨y, e, q⟩ := t
  have e' : s.sl[k]? = some (some y) := by
    cases h : s.sl[k]? with
    | none => rw [h] at e; cases e
    | some o => rw [h] at e; cases o with
      | none => cases e
      | some z => cases e; rfl
  obtain ⟨v, h1, h2⟩ := r.slt k y e'
  refine we_of (pe_var hN hv hd hcd) ⟨v, h1, ?_⟩
  cases y with
  | d y => exact .here r h2 q
  | s _ _ => exact .here r h2 q
  | a _ _ _ => exact .here r h2 q
  | r n =>
    obtain ⟨c, hc, q⟩ := q
    obtain ⟨a, ha, rfl⟩ := h2
    obtain ⟨n0, l, ok⟩ := r.cel n a c ha hc
    have lv : (B.S.length ≤ n ∧ c.live = true) ∧ (onSome (frzC c) fun d => Q (.d d) ⟨s.sl, s.cs.set n (.fz d)⟩) → Post B ad F σ Q (.ref a) H := fun ⟨⟨hm, hl⟩, d, hd, q⟩ => by
      obtain ⟨o, ho, hda⟩ := ok.frz hl (l hl) hd
      exact ⟨ad, upd F a o, .d d, _, Ext.refl _, same_upd (l hl), r.freeze ha hc hl hm ho hda, hda, q⟩
    cases c with
    | fz d => exact .here (x := .d d) r ok q
    | lst _ => exact lv q
    | dK _ => exact lv q
    | pool _ => exact lv q
    | gone => exact lv q
    | nl _ => exact lv q
    | nt _ => exact lv q
    | nd _ => exact lv q
    | dl _ _ _ => exact lv q
    | tr _ => exact lv q⟩
def negA (ta : TEA) : TEA := fun s Q => ta s fun x s1 => onSome x.int? fun i => Q (.d (.int (-i))) s1
theorem ea_neg (ha : EA X B a ta) : EA X B (.UnaryOp .USub a pos) (negA ta) := ⟨fun ad F H s σ Q r t => we_of (pe_un un_neg pe_we) ((ha.run ad F H s σ _ r t).imp fun v H1 q => by
  obtain ⟨ad1, F1, x, s1, e1, k1, r1, hv, i, ei, q⟩ := q
  have := AVal.int?_of ei
  subst this
  exact ⟨i, hv, ad1, F1, .d (.int (-i)), s1, e1, k1, r1, rfl, q⟩)⟩
/-- a op b op c of ints -/
def chainT (g h : Int → Int → Bool) (ta tb tc : TEA) : TTA := fun s Q => ta s fun x s1 => tb s1 fun y s2 => onSome x.int? fun i => onSome y.int? fun j => if g i j = true then tc s2 fun z s3 => onSome z.int? fun k => Q (h j k) s3 else Q false s2
theorem chain_run {op op' : CmpOp} {g h : Int → Int → Bool} (ho : OpR X (compareOp op) (rI0 fun i j => .bl (g i j))) (ho' : OpR X (compareOp op') (rI0 fun i j => .bl (h i j))) (ha : EA X B a ta) (hb : EA X B b tb) (hc : EA X B c tc) {Q : Bool → AS → Prop} {K : VK} (r : Rl B ad F H s σ) (t : chainT g h ta tb tc s Q) (hK : ∀ bb H', PostT B ad F σ Q bb H' → K (.bl bb) H') :
    tChain (rI0 fun i j => .bl (g i j)) (rI0 fun i j => .bl (h i j)) (WE X a) (WE X b) (WE X c) σ H K := by
  refine we2 (R := fun u v H2 => (rI0 fun i j => .bl (g i j)) u v H2 fun z H3 => ∃ k, z = .bl k ∧ (if k = true then WE X c σ H3 fun w' H4 => (rI0 fun i j => .bl (h i j)) v w' H4 K else K (.bl false) H3)) (K := fun _ _ => True) ha hb r t fun ad2 F2 H2 s2 x y u v e k r2 hu hv ⟨i, ei, j, ej, q⟩ => ?_
  have e1 := AVal.int?_of ei
  have e2 := AVal.int?_of ej
  subst e1; subst e2
  refine ⟨i, j, hu, hv, g i j, rfl, ?_⟩
  dsimp only at q
  cases hg : g i j with
  | true =>
    rw [hg, if_pos rfl] at q
    refine iteT ((hc.run ad2 F2 H2 s2 σ _ r2 q).imp fun w H3 q => ?_)
    obtain ⟨ad3, F3, z, s3, e3, k3, r3, hz, l, el, q⟩ := q
    have := AVal.int?_of el
    subst this
    exact ⟨j, l, hv, hz, hK _ _ ⟨ad3, F3, s3, e.trans e3, k.trans k3, r3, q⟩⟩
  | false =>
    rw [hg] at q
    exact iteF (hK _ _ ⟨ad2, F2, s2, e, k, r2, q⟩)
theorem et_chain {op op' : CmpOp} {g h : Int → Int → Bool} (ho : OpR X (compareOp op) (rI0 fun i j => .bl (g i j))) (ho' : OpR X (compareOp op') (rI0 fun i j => .bl (h i j))) (ha : EA X B a ta) (hb : EA X B b tb) (hc : EA X B c tc) (hm : lastMarks [op, op'] [b, c] = false := by with_unfolding_all rfl) :
    ET X B (.Compare a [op, op'] [b, c] pos) (chainT g h ta tb tc) := ⟨fun ad F H s σ Q r t => wt_of (pt_chain ho ho' pe_we pe_we pe_we hm) (chain_run (K := fun w H' => ∃ k, w = .bl k ∧ PostT B ad F σ Q k H') ho ho' ha hb hc r t fun bb H' p => ⟨bb, rfl, p⟩)⟩
theorem ea_chain {op op' : CmpOp} {g h : Int → Int → Bool} (ho : OpR X (compareOp op) (rI0 fun i j => .bl (g i j))) (ho' : OpR X (compareOp op') (rI0 fun i j => .bl (h i j))) (ha : EA X B a ta) (hb : EA X B b tb) (hc : EA X B c tc) (hm : lastMarks [op, op'] [b, c] = false := by with_unfolding_all rfl) :
    EA X B (.Compare a [op, op'] [b, c] pos) (boolA (chainT g h ta tb tc)) := ⟨fun ad F H s σ Q r t => we_of (pe_chain ho ho' pe_we pe_we pe_we hm) (chain_run (K := Post B ad F σ Q) ho ho' ha hb hc r t fun bb H' ⟨ad2, F2, a2, e, k, r2, q⟩ => ⟨ad2, F2, .d (.bool bb), a2, e, k, r2, rfl, q⟩)⟩
/-- texts joined -/
def joinA (to te : TEA) : TEA := fun s Q => to s fun x s1 => onSome x.str? fun z => te s1 fun y s2 => onSome (listOf s2 y) fun ds => onSome (strs? ds) fun ys => (ys.map (·.length)).sum + ys.length * z.length ≤ 16777216 ∧ Q (.d (.str (Txt.join z ys))) s2
theorem ea_join (ho : EA X B o ta) (he : EA X B e tb) (hs : starEach [e] X.env = [(false, eval e X.env)] := by rfl) (hbase : attributeBase o "join" X.env (eval o X.env) = eval o X.env := by rfl) (hline : (apos.endLine == pos.line) = true := by rfl) :
    EA X B (.Call (.Attribute o "join" apos) [e] [] pos) (joinA ta tb) := ⟨fun ad F H s σ Q r t =>
  we_of (pe_join pe_we pe_we hs hbase hline) ((ho.run ad F H s σ _ r t).imp fun v H1 q => by
    obtain ⟨ad1, F1, x, s1, e1, k1, r1, hv, z, ez, q⟩ := q
    have := AVal.str?_of ez
    subst this
    refine ⟨⟨z, hv⟩, (he.run ad1 F1 H1 s1 σ _ r1 q).imp fun w H2 q => ?_⟩
    obtain ⟨ad2, F2, y, s2, e2, k2, r2, hw, ds, ed, ys, ey, hz, q⟩ := q
    obtain ⟨l, vs, rfl, h1, h2⟩ := hw.list r2 ed
    have := strs?_of ey
    subst this
    obtain rfl := h2.strs
    exact ⟨z, l, ys, hv, rfl, .inl (SqL.of h1), hz, (Post.here (x := .d (.str (Txt.join z ys))) r2 rfl q).up (e1.trans e2) (k1.trans k2)⟩)⟩
/-! ## the script -/
def scrLen (K : PySem.W.Frag) (k : Nat) : TEA := fun s Q => onSome (s.sl[k]?.bind id) fun x => match x with
  | .s K' ns => K' = K ∧ Q (.d (.int ns.length)) s
  | _ => False
def scrAt (K : PySem.W.Frag) (k : Nat) (tb : TEA) : TEA := fun s Q => onSome (s.sl[k]?.bind id) fun x => match x with
  | .s K' ns => K' = K ∧ tb s fun y s1 => onSome y.int? fun i => onSome (L2.atI ns i) fun n => Q (.d (.int n)) s1
  | _ => False
theorem slot_get {k : Nat} (h : s.sl[k]?.bind id = some x) : s.sl[k]? = some (some x) := by
  cases e : s.sl[k]? with
  | none => rw [e] at h; cases h
  | some o => rw [e] at h; cases o with
    | none => cases h
    | some z => cases h; rfl
theorem ea_scrLen (k : Nat) {nm : Str} (hm : X.mg "len" = none) (hN : X.N[k]? = some nm := by rfl) (hv : Vis X.env.scope nm := by first | exact Or.inl rfl | exact Or.inr (Or.inl rfl) | exact Or.inr (Or.inr rfl)) (hd : (nm == ("__debug__" : Str)) = false := by decide) (hcd : (nm == ("__classdict__" : Str)) = false := by decide)
    (hg : Gl X "len" := by rfl) (pl : Pl X (.Name nm p2) [] pos := by exact ⟨rfl, rfl⟩) : EA X B (.Call (.Name "len" p) [.Name nm p2] [] pos) (scrLen X.K k) := ⟨fun ad F H s σ Q r t => by
  obtain ⟨y, e, q⟩ := t
  obtain ⟨v, h1, h2⟩ := r.slt k y (slot_get e)
  cases y with
  | d _ => exact q.elim
  | r _ => exact q.elim
  | a _ _ _ => exact q.elim
  | s K' ns =>
    obtain ⟨rfl, q⟩ := q
    obtain ⟨a, rfl, hq⟩ := h2
    exact we_of (pe_callB call_len hg hm PySem.boot_len (pa_cons (pe_var hN hv hd hcd) pa_nil pl.he) (by decide) (by decide) pl.he pl.hpl) ⟨_, h1, _, (ns.map V.int).length, rfl, .inl ⟨_, r.fh.seq hq, rfl⟩, .here (x := .d (.int ns.length)) r (by rw [List.length_map]; rfl) q⟩⟩
theorem ea_scrAt (k : Nat) {nm : Str} (hb : EA X B b tb) (hN : X.N[k]? = some nm := by rfl) (hv : Vis X.env.scope nm := by first | exact Or.inl rfl | exact Or.inr (Or.inl rfl) | exact Or.inr (Or.inr rfl)) (hd : (nm == ("__debug__" : Str)) = false := by decide) (hcd : (nm == ("__classdict__" : Str)) = false := by decide)
    (hs : PlainIx b := by exact fun _ _ => rfl) : EA X B (.Subscript (.Name nm p2) b pos) (scrAt X.K k tb) := ⟨fun ad F H s σ Q r t => by
  obtain ⟨y, e, q⟩ := t
  obtain ⟨v, h1, h2⟩ := r.slt k y (slot_get e)
  cases y with
  | d _ => exact q.elim
  | r _ => exact q.elim
  | a _ _ _ => exact q.elim
  | s K' ns =>
    obtain ⟨rfl, q⟩ := q
    obtain ⟨a, rfl, hq⟩ := h2
    refine we_of (pe_ix ix_list (pe_var hN hv hd hcd) pe_we hs) ⟨_, h1, (hb.run ad F H s σ _ r q).imp fun w H1 q => ?_⟩
    obtain ⟨ad1, F1, y, s1, e1, k1, r1, hw, i, ei, n, en, q⟩ := q
    have := AVal.int?_of ei
    subst this
    have hat : L2.atI (ns.map V.int) i = some (.int n) := by
      unfold L2.atI at en ⊢
      rw [List.length_map]
      cases hj : ixN ns.length i with
      | none => rw [hj] at en; cases en
      | some j =>
        rw [hj] at en
        have en' : ns[j]? = some n := en
        show (ns.map V.int)[j]? = _
        rw [List.getElem?_map, en']; rfl
    exact ⟨a, ns.map V.int, i, .int n, rfl, hw, r1.fh.seq (k1.seq hq), hat, (Post.here (x := .d (.int n)) r1 rfl q).up e1 k1⟩⟩
end
end Kr
namespace Kr
open PySem L2
def neverA : TSA := fun _ _ => False
theorem sa_never {X : Cx} {B : Bs} {st : Stmt} : SA X B st neverA := ⟨fun _ _ h => h.elim⟩
end Kr

/-! layer A10 -/
namespace Kr
open PySem L2
/-! ## plain rules -/
/-- one turn of a comprehension that leaves the cells: kept or not, and what is put -/
def lcStep (g : TGA) (tt : TTA) (te : TEA) (vs : List Nat) (sl : List (Option AVal)) (cs : List Cell) (x : PyData) (R1 : PyData → List Cell → Prop) (R2 : List Cell → Prop) : Prop :=
  g (.d x) ⟨wipeA sl vs, cs⟩ fun s1 => tt s1 fun b s2 => if b = true then te s2 fun y s3 => onSome y.data? fun d => R1 d s3.cs else R2 s2.cs
theorem lcW_pure {g : TGA} {tt : TTA} {te : TEA} {vs : List Nat} {ok : List Cell → Prop} {sl : List (Option AVal)} {cs : List Cell} {Q : List PyData → List Cell → Prop} (hok : ok cs) (f : PyData → Bool) (h : PyData → PyData) : ∀ {xs acc : List PyData},
    (∀ x ∈ xs, ∀ R1 R2, (f x = true → R1 (h x) cs) → (f x = false → R2 cs) → lcStep g tt te vs sl cs x R1 R2) → Q (acc ++ (xs.filter f).map h) cs → lcW g tt te vs ok sl xs acc cs Q
  | [], acc, _, q => by
    refine ⟨hok, ?_⟩
    simpa using q
  | x :: xs, acc, hs, q => by
    refine ⟨hok, hs x (List.mem_cons_self ..) (fun d cs' => lcW g tt te vs ok sl xs (acc ++ [d]) cs' Q) (fun cs' => lcW g tt te vs ok sl xs acc cs' Q) (fun hf => ?_) (fun hf => ?_)⟩
    · refine lcW_pure hok f h (fun y hy => hs y (List.mem_cons_of_mem _ hy)) ?_
      rw [List.filter_cons_of_pos hf] at q
      simpa using q
    · refine lcW_pure hok f h (fun y hy => hs y (List.mem_cons_of_mem _ hy)) ?_
      rw [List.filter_cons_of_neg (by simp [hf])] at q
      exact q
/-- the same over things told as data -/
theorem lcW_map {α : Type} {g : TGA} {tt : TTA} {te : TEA} {vs : List Nat} {ok : List Cell → Prop} {sl : List (Option AVal)} {cs : List Cell} {Q : List PyData → List Cell → Prop} (hok : ok cs) (D : α → PyData) (f : α → Bool) (h : α → PyData) : ∀ {xs : List α} {acc : List PyData},
    (∀ x ∈ xs, ∀ R1 R2, (f x = true → R1 (h x) cs) → (f x = false → R2 cs) → lcStep g tt te vs sl cs (D x) R1 R2) → Q (acc ++ (xs.filter f).map h) cs → lcW g tt te vs ok sl (xs.map D) acc cs Q
  | [], acc, _, q => by
    refine ⟨hok, ?_⟩
    simpa using q
  | x :: xs, acc, hs, q => by
    refine ⟨hok, hs x (List.mem_cons_self ..) (fun d cs' => lcW g tt te vs ok sl (xs.map D) (acc ++ [d]) cs' Q) (fun cs' => lcW g tt te vs ok sl (xs.map D) acc cs' Q) (fun hf => ?_) (fun hf => ?_)⟩
    · refine lcW_map hok D f h (fun y hy => hs y (List.mem_cons_of_mem _ hy)) ?_
      rw [List.filter_cons_of_pos hf] at q
      simpa using q
    · refine lcW_map hok D f h (fun y hy => hs y (List.mem_cons_of_mem _ hy)) ?_
      rw [List.filter_cons_of_neg (by simp [hf])] at q
      exact q
/-- a loop by a word of the turn and the state -/
theorem forW_map {α : Type} {m : Nat} {g : TGA} {t : TSA} {D : DA} (Dt : α → PyData) (xs : List α) (Iv : Nat → AS → Prop) {s : AS} (h0 : Iv 0 s)
    (hs : ∀ i x s' (N : AS → Prop), xs[i]? = some x → Iv i s' → (∀ s2 s3, Wk m s2 s3 → Iv (i + 1) s3 → N s2) → g (.d (Dt x)) s' fun s1 => t ⟨N, D.rt, D.nx, N⟩ s1)
    (hd : ∀ s', Iv xs.length s' → D.nx s') : forW m g t D (xs.map Dt) s := by
  have key : ∀ (n i : Nat) (s' : AS), xs.length = i + n → Iv i s' → forW m g t D ((xs.drop i).map Dt) s' := by
    intro n
    induction n with
    | zero =>
      intro i s' hl hi
      rw [List.drop_eq_nil_of_le (by omega)]
      have : i = xs.length := by omega
      subst this
      exact hd s' hi
    | succ n ih =>
      intro i s' hl hi
      have hlt : i < xs.length := by omega
      have e : xs[i]? = some xs[i] := List.getElem?_eq_getElem hlt
      rw [drop_get e]
      exact hs i _ s' _ e hi fun s2 s3 w h3 => ⟨s3, w, ih (i + 1) s3 (by omega) h3⟩
  exact key xs.length 0 s (by omega) h0
/-- where nothing is forgotten, or slots alone -/
theorem nodup1 {α : Type} {x : α} : [x].Nodup = True := by simp
theorem Wk0.refl {m : Nat} {s : AS} (hm : m ≤ s.cs.length) (hl : ∀ c ∈ s.cs, c.lt s.cs.length) (hs : ∀ (k : Nat) (x : AVal), s.sl[k]? = some (some x) → x.lt s.cs.length) : Wk0 m s s := ⟨rfl, fun k x h => ⟨h, hs k x h⟩, ⟨[], by simp⟩, hl, hm⟩
def ltO (n : Nat) : Option AVal → Prop
  | some x => x.lt n
  | none => True
def SubS (n : Nat) : List (Option AVal) → List (Option AVal) → Prop
  | [], [] => True
  | a :: as, b :: bs => (b = none ∨ (a = b ∧ ltO n b)) ∧ SubS n as bs
  | _, _ => False
theorem SubS.len {n : Nat} : ∀ {a b : List (Option AVal)}, SubS n a b → b.length = a.length
  | [], [], _ => rfl
  | _ :: _, _ :: _, h => by simp [SubS.len h.2]
  | [], _ :: _, h => h.elim
  | _ :: _, [], h => h.elim
theorem SubS.get {n : Nat} : ∀ {a b : List (Option AVal)} {k : Nat} {x : AVal}, SubS n a b → b[k]? = some (some x) → a[k]? = some (some x) ∧ x.lt n
  | [], [], k, x, _, h => by simp at h
  | u :: as, v :: bs, k, x, hs, h => by
    cases k with
    | zero =>
      have e : v = some x := by simpa using h
      subst e
      rcases hs.1 with h1 | ⟨h1, h2⟩
      · cases h1
      · exact ⟨by simp [h1], h2⟩
    | succ k =>
      have := SubS.get (k := k) hs.2 (by simpa using h)
      exact ⟨by simpa using this.1, this.2⟩
  | [], _ :: _, _, _, h, _ => h.elim
  | _ :: _, [], _, _, h, _ => h.elim
def Cell.low : Cell → Bool
  | .nl _ => false
  | .nt _ => false
  | .nd _ => false
  | _ => true
theorem flat_lt {c : Cell} (h : c.low = true) (n : Nat) : c.lt n := by
  cases c with
  | nl _ => cases h
  | nt _ => cases h
  | nd _ => cases h
  | _ => trivial
theorem wk_of {m : Nat} {sl sl' : List (Option AVal)} {cs cs' : List Cell} (more : List Cell) (hs : SubS cs'.length sl sl') (hc : cs = cs' ++ more) (hl : cs'.all Cell.low = true) (hm : m ≤ cs'.length) : Wk m ⟨sl, cs⟩ ⟨sl', cs'⟩ :=
  .inl ⟨hs.len, fun k x h => hs.get h, ⟨more, hc⟩, fun c hc => flat_lt (List.all_eq_true.mp hl c hc) _, hm⟩
/-- cells taken out in another order -/
def SubQ (m : Nat) (ns : List Nat) : List (Option AVal) → List (Option AVal) → Prop
  | [], [] => True
  | a :: as, b :: bs => (b = none ∨ ∃ y, a = some y ∧ b = some (partQ m ns y) ∧ hasR m ns y) ∧ SubQ m ns as bs
  | _, _ => False
theorem SubQ.len {m : Nat} {ns : List Nat} : ∀ {a b : List (Option AVal)}, SubQ m ns a b → b.length = a.length
  | [], [], _ => rfl
  | _ :: _, _ :: _, h => by simp [SubQ.len h.2]
  | [], _ :: _, h => h.elim
  | _ :: _, [], h => h.elim
theorem SubQ.get {m : Nat} {ns : List Nat} : ∀ {a b : List (Option AVal)} {k : Nat} {x : AVal}, SubQ m ns a b → b[k]? = some (some x) → ∃ y, a[k]? = some (some y) ∧ x = partQ m ns y ∧ hasR m ns y
  | [], [], k, x, _, h => by simp at h
  | u :: as, v :: bs, k, x, hs, h => by
    cases k with
    | zero =>
      have h : v = some x := by simpa using h
      subst h
      rcases hs.1 with e | ⟨y, e1, e2, e3⟩
      · cases e
      · cases e2; exact ⟨y, by simp [e1], rfl, e3⟩
    | succ k => simpa using SubQ.get hs.2 (by simpa using h)
  | [], _ :: _, _, _, h, _ => h.elim
  | _ :: _, [], _, _, h, _ => h.elim
theorem wk_pick {m : Nat} {sl sl' : List (Option AVal)} {cs cs' : List Cell} (ns : List Nat) (new : List Cell) (hs : SubQ m ns sl sl') (nd : ns.Nodup) (hn : ∀ n ∈ ns, m ≤ n) (hsub : subC cs ns = some new) (hc : cs' = cs.take m ++ new) (hl : cs'.all Cell.flat = true) (hm : m ≤ cs.length) : Wk m ⟨sl, cs⟩ ⟨sl', cs'⟩ :=
  .inr ⟨hs.len, hm, ns, new, nd, hn, hsub, hc, fun c h => List.all_eq_true.mp hl c h, fun k x h => hs.get h⟩
theorem atI_natE {α : Type} (xs : List α) (n : Nat) : L2.atI xs (n : Int) = xs[n]? := by
  unfold L2.atI ixN
  rw [if_pos (by omega)]
  by_cases h : (n : Int) < xs.length
  · rw [if_pos h]; rfl
  · rw [if_neg h, List.getElem?_eq_none (by omega)]; rfl
theorem atI_0 {α : Type} (x : α) (xs : List α) : L2.atI (x :: xs) 0 = some x := atI_natE (x :: xs) 0
theorem atI_1 {α : Type} (x y : α) (xs : List α) : L2.atI (x :: y :: xs) 1 = some y := atI_natE (x :: y :: xs) 1
theorem atI_2 {α : Type} (x y z : α) (xs : List α) : L2.atI (x :: y :: z :: xs) 2 = some z := atI_natE (x :: y :: z :: xs) 2
theorem atI_map {α β : Type} (f : α → β) (xs : List α) (i : Int) : L2.atI (xs.map f) i = (L2.atI xs i).map f := by
  unfold L2.atI
  rw [List.length_map]
  cases ixN xs.length i with
  | none => rfl
  | some j => simp
/-- a loop whose state is a function of the turn -/
theorem forW_fun {α : Type} {m : Nat} {g : TGA} {t : TSA} {D : DA} (Dt : α → PyData) (xs : List α) (A : Nat → AS) {s : AS} (h0 : s = A 0)
    (hs : ∀ i x (N : AS → Prop), xs[i]? = some x → (∀ s2, Wk m s2 (A (i + 1)) → N s2) → g (.d (Dt x)) (A i) fun s1 => t ⟨N, D.rt, D.nx, N⟩ s1)
    (hd : D.nx (A xs.length)) : forW m g t D (xs.map Dt) s :=
  forW_map Dt xs (fun i s => s = A i) h0 (fun i x s' N hx e hN => by subst e; exact hs i x N hx fun s2 w => hN s2 _ w rfl) fun s' e => by subst e; exact hd
theorem foldl_erase_len : ∀ (ls L : List Str), (ls.foldl List.erase L).length ≤ L.length
  | [], _ => Nat.le_refl _
  | l :: ls, L => Nat.le_trans (foldl_erase_len ls (L.erase l)) List.length_erase_le
end Kr

/-! layer A11 -/
namespace Kr
open PySem L2
/-! ## promises of the older kind, as transformers -/
def tF (n : Nat) (pre : List PyData → Prop) (fn : List PyData → PyData) : SpT := fun xs cs P => cs = [] ∧ onSome (datas xs) fun ds => ds.length = n ∧ pre ds ∧ P (.f (fn ds)) []
def tP (c n : Nat) (pre : List PyData → Prop) (post : List PyData → PyData → Prop) : SpT := fun xs cs P => match xs, cs with
  | .r 0 :: ys, [.pool m] => onSome (datas ys) fun ds => ds.length = n ∧ m + c ≤ 1000000 ∧ pre ds ∧ ∀ d, post ds d → P (.f d) [.pool (m + c)]
  | _, _ => False
def tTake : SpT := fun xs cs P => match xs, cs with
  | [.r 0, .d (.int many)], [.pool m] => m < 1000000 ∧ 0 < many ∧ many < 1073741824 ∧ ∀ r, 0 ≤ r → r < many → P (.f (.int r)) [.pool (m + 1)]
  | _, _ => False
section
variable {Pr : Program} {w : World} {K : PySem.W.Frag} {mg : Str → Option Value} {base : Heap} {k n c : Nat} {f : Addr} {fd : FuncData} {ps : List Str} {pre : List PyData → Prop} {fn : List PyData → PyData} {post : List PyData → PyData → Prop}
theorem inn0 {B : Bs} {ad : List Addr} {F H : Hp} {cs : List Cell} (h : cs.flatMap Cell.ads = []) (hT : B.T = []) : Inn B ad F H cs := ⟨by rw [h]; exact List.nodup_nil, fun q hq => (by rw [h] at hq; cases hq), fun q hq => (by rw [h] at hq; cases hq), fun q hq => (by rw [h] at hq; cases hq), fun b hb => (by rw [hT] at hb; cases hb)⟩
theorem okF_A (G : FnOk Pr w K mg base CX0 k f fd ps (spF n pre fn)) : FnOk Pr w K mg base CX0 k f fd ps (spA n (tF n pre fn)) := G.imp fun vs H Q E ⟨F, ad, cs, xs, P, hl, r, hp, ⟨hc, ds, hd, hn, hpre, hP⟩, q⟩ => by
  subst hc
  have hads : ad = [] := by
    have := r.len
    cases ad with
    | nil => rfl
    | cons _ _ => simp at this
  subst hads
  exact ⟨F, ds, hn, r.fh, datas_ok hp hd, hpre, fun v F2 H2 g hv => q v H2 (.inl ⟨F2, fn ds, [], r.gr g, (fun _ h => nomatch h), hv, hP⟩)⟩
theorem rl_gp {F H F2 H2 : Hp} {p : Addr} {m m2 : Nat} (r : Rl (Bs.at [p] F H []) [p] F H ⟨[], [.pool m]⟩ []) (g : Gp p F H F2 H2) (hP : Pool H2 p m2) : Rl (Bs.at [p] F H []) [p] F2 H2 ⟨[], [.pool m2]⟩ [] := by
  have hF : F p = none := (r.cel 0 p (.pool m) rfl rfl).2.1 rfl
  have hF2 : F2 p = none := g.new p hF (r.cel 0 p (.pool m) rfl rfl).1
  refine ⟨g.ff, g.fh, fun b o hb _ e => g.hh b o (fun z => hb (by simp [Bs.at, z])) e, fun b hb => ?_, fun b e n => g.new b e n, r.pre, r.nd, rfl, fun i q c h1 h2 => ?_, rfl, fun k x h => by simp at h, inn0 rfl rfl⟩
  · have : b = p := by simpa [Bs.at] using hb
    subst this
    obtain ⟨o, ho⟩ := hP.some
    exact ne_none ho
  · cases i with
    | succ i => simp at h1
    | zero =>
      have e1 : p = q := by simpa using h1
      have e2 : Cell.pool m2 = c := by simpa using h2
      subst e1; subst e2
      obtain ⟨o, ho⟩ := hP.some
      exact ⟨ne_none ho, fun _ => hF2, hP⟩
theorem pool1 {ad : List Addr} {F H : Hp} {m : Nat} (r : Rl (Bs.at ad F H []) ad F H ⟨[], [.pool m]⟩ []) : ∃ p, ad = [p] ∧ Pool H p m ∧ F p = none := by
  have hl := r.len
  match ad, hl with
  | [p], _ =>
    obtain ⟨h1, h2, h3⟩ := r.cel 0 p (.pool m) rfl rfl
    exact ⟨p, rfl, h3, h2 rfl⟩
theorem okP_A {n' : Nat} (G : FnOk Pr w K mg base CX0 k f fd ps (spP c n pre post)) (hn' : n' = n + 1 := by rfl) : FnOk Pr w K mg base CX0 k f fd ps (spA n' (tP c n pre post)) := G.imp fun vs H Q E ⟨F, ad, cs, xs, P, hl, r, hp, ht, q⟩ => by
  unfold tP at ht
  split at ht
  · rename_i ys m
    obtain ⟨ds, hd, hn, hm, hpre, hP⟩ := ht
    obtain ⟨p, rfl, hpool, hF⟩ := pool1 r
    match vs, hp with
    | _, .cons (b := u) h1 (l₂ := us) t =>
      obtain ⟨a, ha, rfl⟩ := h1
      have : p = a := by simpa using ha
      subst this
      refine ⟨p, m, F, ds, us, rfl, hn, hpool, hm, r.fh, hF, datas_ok t hd, hpre, fun d v F2 H2 g hP2 hv hpo => q v H2 (.inl ⟨F2, d, [.pool (m + c)], rl_gp r g hP2, fun c hc => ?_, hv, hP d hpo⟩)⟩
      rw [List.mem_singleton] at hc; subst hc; rfl
  · exact ht.elim
theorem okN_A {n' : Nat} (G : FnOk Pr w K mg base CX0 k f fd ps (spN c n pre post)) (hn' : n' = n + 1 := by rfl) : FnOk Pr w K mg base CX0 k f fd ps (spA n' (tP c n pre post)) := okP_A (G.imp fun vs H Q E ⟨p, m, F, ds, us, e, hl, hP, hm, hs, hp, ha, hpre, q⟩ => ⟨p, m, F, ds, us, e, hl, hP, hm, hs, hp, ha, hpre, fun d v F2 H2 g P2 hv hpo _ => q d v F2 H2 g P2 hv hpo⟩) hn'
theorem okTake_A (G : FnOk Pr w K mg base CX0 k f fd ps spTake) : FnOk Pr w K mg base CX0 k f fd ps (spA 2 tTake) := G.imp fun vs H Q E ⟨F, ad, cs, xs, P, hl, r, hp, ht, q⟩ => by
  unfold tTake at ht
  split at ht
  · rename_i many m
    obtain ⟨hm, h0, h1, hP⟩ := ht
    obtain ⟨p, rfl, hpool, hF⟩ := pool1 r
    match vs, hp with
    | _, .cons (b := u) h1 (.cons (b := v) h2 .nil) =>
      obtain ⟨a, ha, rfl⟩ := h1
      have : p = a := by simpa using ha
      subst this
      obtain rfl : v = .int many := h2
      refine ⟨p, m, many, rfl, hpool, hm, h0, by assumption, fun i H' i0 i1 kk P2 => q (.int i) H' (.inl ⟨F, .int i, [.pool (m + 1)], rl_gp r ((Gp.refl r.fh).to hF kk P2) P2, fun c hc => ?_, rfl, hP i i0 i1⟩)⟩
      rw [List.mem_singleton] at hc; subst hc; rfl
  · exact ht.elim
def tPool (K : PySem.W.Frag) : SpT := fun xs cs P => match xs, cs with
  | [.s K' ns, .d (.int k)], [] => K' = K ∧ 0 ≤ k ∧ k ≤ 1000 ∧ P (.n (.pool (53 * k.toNat))) []
  | _, _ => False
theorem rl_nil {F H F2 H2 : Hp} (s : Same F F2) (s2 : Same F2 H2) (h : ∀ b o, H b = some o → H2 b = some o) (hn : ∀ b, F b = none → H b ≠ none → F2 b = none) : Rl (Bs.at [] F H []) [] F2 H2 ⟨[], []⟩ [] := by
  refine ⟨s, s2, fun b o _ _ e => h b o e, ?_, hn, ⟨[], rfl, ?_⟩, List.nodup_nil, rfl, ?_, rfl, ?_, inn0 rfl rfl⟩
  · intro b hb; rcases hb with hb | hb <;> cases hb
  · intro b hb; cases hb
  · intro i p c h1; cases h1
  · intro k x h; cases h
theorem pool_post {F H H' : Hp} {p : Addr} {n : Nat} {P : RV → List Cell → Prop} (s0 : Same F H) (hp0 : H p = none) (sH : Same H H') (hPool : Pool H' p n) (hP : P (.n (.pool n)) []) : RPost [] F H [] P (.ref p) H' := by
  obtain ⟨o, ho⟩ := hPool.some
  have hFp : F p = none := s0.free hp0
  refine .inr (.inl ⟨F, .pool n, [], p, out H' p, o, rl_nil (Same.refl _) ?_ ?_ (fun _ e _ => e), ?_, rfl, out_same, (upd_out ho).symm, hPool, rfl, rfl, hP⟩)
  · intro b x e
    rw [out_ne (ne_of_none e hFp)]; exact sH _ _ (s0 _ _ e)
  · intro b x e
    rw [out_ne (ne_of_none e hp0)]; exact sH _ _ e
  · intro c hc; cases hc
theorem okPool_A {sp : Sp} (G : FnOk Pr w K mg base CX0 k f fd ps sp) (hsp : ∀ vs H Q E, (∃ (a : Addr) (ns : List Int) (k : Nat), vs = [.ref a, .int k] ∧ SqL K H a (ns.map V.int) ∧ k ≤ 1000 ∧ ∀ p H', H p = none → Same H H' → Pool H' p (53 * k) → Q (.ref p) H') → sp vs H Q E) : FnOk Pr w K mg base CX0 k f fd ps (spA 2 (tPool K)) := by
  refine G.imp fun vs H Q E ⟨F, ad, cs, xs, P, hl, r, hp, ht, q⟩ => hsp vs H Q E ?_
  unfold tPool at ht
  split at ht
  · rename_i K' ns i
    obtain ⟨rfl, h0, hk, hP⟩ := ht
    have hads : ad = [] := by
      have := r.len
      cases ad with
      | nil => rfl
      | cons _ _ => simp at this
    subst hads
    cases hp with
    | cons h1 t =>
      cases t with
      | cons h2 t2 =>
        cases t2
        obtain ⟨a, rfl, hS⟩ := h1
        obtain ⟨j, rfl⟩ := Int.eq_ofNat_of_zero_le h0
        refine ⟨a, ns, j, ?_, r.fh.seq hS, by omega, fun p H' hp0 sH hPool => ?_⟩
        · rw [show _ = V.int (j : Int) from h2]
        · rw [Int.toNat_natCast] at hP
          exact q _ H' (pool_post r.fh hp0 sH hPool hP)
  · exact ht.elim
/-- the law itself -/
theorem okLaw_A {t : SpT} (G : FnOk Pr w K mg base CX0 k f fd ps (spA 1 t)) (h : ∀ ns : List Int, ns.length ≤ 63 → t [.s K ns] [] fun rv _ => rv = .f (.bool true)) : FnOk Pr w K mg base CX0 k f fd ps (spLaw K) := G.imp fun vs H Q E ⟨a, ns, hv, hS, hl, q⟩ => by
  subst hv
  refine ⟨H, [], [], [.s K ns], fun rv _ => rv = .f (.bool true), rfl, ⟨Same.refl _, Same.refl _, fun _ _ _ _ e => e, (fun _ h => by rcases h with h | h <;> cases h), fun _ e _ => e, ⟨[], rfl, (fun _ h => nomatch h)⟩, List.nodup_nil, rfl, fun i p c h1 => by simp at h1, rfl, fun k x h => by simp at h, inn0 rfl rfl⟩, .cons ⟨a, rfl, hS⟩ .nil, h ns hl, fun v H2 hp => ?_⟩
  rcases hp with ⟨F2, x, cs2, _, _, hd, e⟩ | ⟨F2, c, cs2, p, H1, o, _, _, _, _, _, _, _, _, e⟩ | ⟨_, _, _, _, _, _, _, e⟩ | ⟨_, _, _, _, _, _, _, _, e⟩ | ⟨_, _, _, _, _, _, _, _, _, _, _, _, _, e⟩
  · cases e
    obtain rfl : v = .bl true := hd
    exact q H2
  · cases e
  · cases e
  · cases e
  · cases e
end
end Kr

/-! layer A12 -/
namespace Kr
open PySem L2
/-! ## how transformers open, constructor by constructor -/
section
variable {s : AS} {Q : VQ} {x y : AVal} {ds es : List PyData} {i : Int} {z : Str} {n : Nat} {b : Bool} {P : RV → List Cell → Prop} {m : Nat} {d : PyData} {kvs : List (Key × AVal)} {xs : List AVal} {QT : Bool → AS → Prop} {K : PySem.W.Frag} {ns : List Int}
theorem retP_d : retP m P (.d d) s = ((s.cs.take m).all Cell.flat = true ∧ P (.f d) (s.cs.take m)) := rfl
def retC (m n : Nat) (P : RV → List Cell → Prop) (s : AS) : Cell → Prop
  | .fz y => P (.f y) (s.cs.take m)
  | .lst ds => P (.n (.lst ds)) (s.cs.take m)
  | .dK ds => P (.n (.dK ds)) (s.cs.take m)
  | .pool k => P (.n (.pool k)) (s.cs.take m)
  | .tr t => P (.t t) (s.cs.take m)
  | .nt xs => parts m s.cs P xs
  | _ => False
theorem retC_ok : ∀ {c : Cell}, retC m n P s c → (match c with | .fz y => P (.f y) (s.cs.take m) | .tr t => P (.t t) (s.cs.take m) | .nt xs => parts m s.cs P xs | c => c.live = true ∧ c.flat = true ∧ P (.n c) (s.cs.take m)) := by
  intro c h
  cases c with
  | fz y => exact h
  | lst _ => exact ⟨rfl, rfl, h⟩
  | dK _ => exact ⟨rfl, rfl, h⟩
  | pool _ => exact ⟨rfl, rfl, h⟩
  | gone => exact h.elim
  | nl _ => exact h.elim
  | nt _ => exact h
  | nd _ => exact h.elim
  | dl _ _ _ => exact h.elim
  | tr _ => exact h
theorem retC_of : ∀ {c : Cell}, (match c with | .fz y => P (.f y) (s.cs.take m) | .tr t => P (.t t) (s.cs.take m) | .nt xs => parts m s.cs P xs | c => c.live = true ∧ c.flat = true ∧ P (.n c) (s.cs.take m)) → retC m n P s c := by
  intro c h
  cases c with
  | fz y => exact h
  | lst _ => exact h.2.2
  | dK _ => exact h.2.2
  | pool _ => exact h.2.2
  | gone => exact Bool.noConfusion h.1
  | nl _ => exact Bool.noConfusion h.2.1
  | nt _ => exact h
  | nd _ => exact Bool.noConfusion h.2.1
  | dl _ _ _ => exact Bool.noConfusion h.2.1
  | tr _ => exact h
theorem retP_rE : retP m P (.r n) s = ((s.cs.take m).all Cell.flat = true ∧ if n < m then P (.p n) (s.cs.take m) else onSome s.cs[n]? (retC m n P s)) := by
  unfold retP
  refine congrArg _ ?_
  dsimp only
  split
  · rfl
  · exact propext ⟨fun ⟨c, hc, h⟩ => ⟨c, hc, retC_of h⟩, fun ⟨c, hc, h⟩ => ⟨c, hc, retC_ok h⟩⟩
theorem retC_nt {ys : List AVal} : retC m n P s (.nt ys) = parts m s.cs P ys := rfl
theorem retC_tr {t : Tr} : retC m n P s (.tr t) = P (.t t) (s.cs.take m) := rfl
theorem addA_int : addA (.d (.int i)) y s Q = onSome y.int? fun j => Q (.d (.int (i + j))) s := rfl
theorem addA_str : addA (.d (.str z)) y s Q = onSome y.str? fun q => z.length + q.length ≤ sizeLine ∧ Q (.d (.str (z ++ q))) s := rfl
theorem addA_lst : addA (.d (.list ds)) y s Q = onSome (listOf s y) fun es => ds.length + es.length ≤ sizeLine ∧ Q (.d (.list (ds ++ es))) s := by
  show onSome (some ds) _ = _; rw [onSome_some]
theorem addA_r : addA (.r n) y s Q = onSome (listOf s (.r n)) fun ds => onSome (listOf s y) fun es => ds.length + es.length ≤ sizeLine ∧ Q (.d (.list (ds ++ es))) s := rfl
theorem mulA_int : mulA (.d (.int i)) y s Q = onSome y.int? fun j => CMul i j ∧ Q (.d (.int (i * j))) s := rfl
theorem mulA_lst : mulA (.d (.list ds)) y s Q = onSome y.int? fun n => (-(2 ^ 63) ≤ n ∧ n < 2 ^ 63 ∧ ds.length * n.toNat ≤ sizeLine) ∧ Q (.d (.list (repL n ds))) s := by
  show onSome (some ds) _ = _; rw [onSome_some]
theorem mulA_r : mulA (.r n) y s Q = onSome (listOf s (.r n)) fun ds => onSome y.int? fun n => (-(2 ^ 63) ≤ n ∧ n < 2 ^ 63 ∧ ds.length * n.toNat ≤ sizeLine) ∧ Q (.d (.list (repL n ds))) s := rfl
theorem ltT_str : ltT (.d (.str z)) y s QT = onSome y.str? fun q => QT (decide (z.cps.toList < q.cps.toList)) s := rfl
theorem ltT_int : ltT (.d (.int i)) y s QT = onSome y.int? fun j => QT (decide (i < j)) s := by
  show onSome (some i) _ = _; rw [onSome_some]
def ixV (s : AS) (y : AVal) (Q : VQ) : View → Prop
  | .seq xs => onSome y.int? fun i => onSome (L2.atI xs i) fun z => Q z s
  | .dct kvs => onSome y.key? fun k => onSome (getA kvs k) fun z => Q z s
  | .txt z => onSome y.int? fun i => z.length ≤ sizeLine ∧ onSome (L2.atI z.cps.toList i) fun c => Q (.d (.str ⟨#[c]⟩)) s
  | .oth => False
theorem ixA_V : ixA x y s Q = ixV s y Q (view s x) := by unfold ixA ixV; cases view s x <;> rfl
def slV (lo hi : Option Int) (x : AVal) (s : AS) (Q : VQ) : View → Prop
  | .txt z => z.length ≤ sizeLine ∧ Q (.d (.str (cutS z lo hi))) s
  | .seq _ => onSome (listOf s x) fun ds => Q (.d (.list (cutD ds lo hi))) s
  | _ => onSome (listOf s x) fun ds => Q (.d (.list (cutD ds lo hi))) s
theorem slA_V {lo hi : Option Int} : slA lo hi x s Q = slV lo hi x s Q (view s x) := by unfold slA slV; cases view s x <;> rfl
def inV' (neg : Bool) (x y : AVal) (s : AS) (Q : Bool → AS → Prop) : View → Prop
  | .dct kvs => onSome x.key? fun k => Q ((getA kvs k).isSome != neg) s
  | .txt z => onSome x.str? fun w => onSome (w.cps.toList.head?) fun c => w = ⟨#[c]⟩ ∧ Q (decide (c ∈ z.cps.toList) != neg) s
  | .seq _ => onSome (listOf s y) fun ds => onSome x.data? fun d => (flatD d = true ∧ ds.all flatD = true) ∧ Q (inD d ds != neg) s
  | .oth => onSome (listOf s y) fun ds => onSome x.data? fun d => (flatD d = true ∧ ds.all flatD = true) ∧ Q (inD d ds != neg) s
theorem inT_V {neg : Bool} : inT neg x y s QT = inV' neg x y s QT (view s y) := by unfold inT inV'; cases view s y <;> rfl
def tup2V (g1 g2 : TGA) (s : AS) (Q : AS → Prop) : List AVal → Prop
  | [x1, x2] => g1 x1 s fun s1 => g2 x2 s1 Q
  | _ => False
theorem tup2G_V {g1 g2 : TGA} {Q : AS → Prop} : tup2G g1 g2 x s Q = onSome (tupOf s x) (tup2V g1 g2 s Q) := by
  unfold tup2G
  congr 1
def tup3V (g1 g2 g3 : TGA) (s : AS) (Q : AS → Prop) : List AVal → Prop
  | [x1, x2, x3] => g1 x1 s fun s1 => g2 x2 s1 fun s2 => g3 x3 s2 Q
  | _ => False
theorem tup3G_V {g1 g2 g3 : TGA} {Q : AS → Prop} : tup3G g1 g2 g3 x s Q = onSome (tupOf s x) (tup3V g1 g2 g3 s Q) := by
  unfold tup3G
  congr 1
def lenV (s : AS) (Q : VQ) : View → Prop
  | .seq ys => Q (.d (.int ys.length)) s
  | .dct kvs => Q (.d (.int kvs.length)) s
  | .txt z => z.length ≤ sizeLine ∧ Q (.d (.int z.length)) s
  | .oth => False
theorem lenA_V : lenA [x] s Q = lenV s Q (view s x) := by unfold lenA lenV; dsimp only [one]; try (cases view s x <;> rfl)
def sortV (x : AVal) (s : AS) (Q : Cell → AS → Prop) : View → Prop
  | .dct kvs => onSome (txtKeys kvs) fun ks => ks.length < 64 ∧ Q (.lst ((srt ks).map .str)) s
  | .seq _ => onSome (listOf s x) fun ds => onSome (srtD ds) fun es => Q (.lst es) s
  | .txt _ => onSome (listOf s x) fun ds => onSome (srtD ds) fun es => Q (.lst es) s
  | .oth => onSome (listOf s x) fun ds => onSome (srtD ds) fun es => Q (.lst es) s
theorem sortedN_V {QN : Cell → AS → Prop} : sortedN [x] s QN = sortV x s QN (view s x) := by unfold sortedN sortV; dsimp only [one]; cases view s x <;> rfl
def gotV (y z : AVal) (s : AS) (Q : VQ) : View → Prop
  | .dct kvs => onSome y.key? fun k => Q ((getA kvs k).getD z) s
  | _ => False
def isDctV : View → Prop
  | .dct _ => True
  | _ => False
theorem isDct_V : isDct s x = isDctV (view s x) := by unfold isDct isDctV; cases view s x <;> rfl
theorem getA2_V {to te tf : TEA} : getA2 to te tf s Q = to s fun x s1 => isDct s1 x ∧ te s1 fun y s2 => tf s2 fun z s3 => gotV y z s3 Q (view s3 x) := by
  rfl
def lstC (k : List PyData → Prop) : Cell → Prop
  | .lst ds => k ds
  | _ => False
theorem onLst_r {k : Nat → List PyData → Prop} : onLst s (.r n) k = onSome s.cs[n]? (lstC (k n)) := by
  show (match s.cs[n]? with | some (.lst ds) => k n ds | _ => False) = onSome s.cs[n]? (lstC (k n))
  generalize s.cs[n]? = o
  cases o with
  | none => exact propext ⟨fun h => h.elim, fun ⟨_, e, _⟩ => by cases e⟩
  | some c => rw [onSome_some]; cases c <;> rfl
def dctC (k : List (Key × PyData) → Prop) : Cell → Prop
  | .dK ds => k ds
  | _ => False
theorem onDct_r {k : Nat → List (Key × PyData) → Prop} : onDct s (.r n) k = onSome s.cs[n]? (dctC (k n)) := by
  show (match s.cs[n]? with | some (.dK ds) => k n ds | _ => False) = onSome s.cs[n]? (dctC (k n))
  generalize s.cs[n]? = o
  cases o with
  | none => exact propext ⟨fun h => h.elim, fun ⟨_, e, _⟩ => by cases e⟩
  | some c => rw [onSome_some]; cases c <;> rfl
theorem intA_int : intA [.d (.int i)] s Q = Q (.d (.int i)) s := rfl
theorem intA_bool : intA [.d (.bool b)] s Q = Q (.d (.int (if b then 1 else 0))) s := rfl
def fzC (m n : Nat) (s : AS) (Q : VQ) : Cell → Prop
  | .fz d => Q (.d d) s
  | .lst ds => m ≤ n ∧ Q (.d (.list ds)) ⟨s.sl, s.cs.set n (.fz (.list ds))⟩
  | .dK ds => m ≤ n ∧ Q (.d (dictD ds)) ⟨s.sl, s.cs.set n (.fz (dictD ds))⟩
  | _ => False
def fzV (m : Nat) (s : AS) (Q : VQ) : AVal → Prop
  | .r n => onSome s.cs[n]? (fzC m n s Q)
  | .d x => Q (.d x) s
  | .s K ns => Q (.s K ns) s
  | .a p n pt => Q (.a p n pt) s
theorem fzA_V {k : Nat} : fzA m k s Q = onSome (s.sl[k]?.bind id) (fzV m s Q) := by
  unfold fzA
  congr 1; funext x
  cases x with
  | d _ => rfl
  | s _ _ => rfl
  | a _ _ _ => rfl
  | r n =>
    show (onSome s.cs[n]? fun c => match c with | .fz d => Q (.d d) s | c => (m ≤ n ∧ c.live = true) ∧ onSome (frzC c) fun d => Q (.d d) ⟨s.sl, s.cs.set n (.fz d)⟩) = onSome s.cs[n]? (fzC m n s Q)
    congr 1; funext c
    cases c with
    | fz d => rfl
    | lst ds => exact propext ⟨fun ⟨h1, d, e, h2⟩ => by cases e; exact ⟨h1.1, h2⟩, fun ⟨h1, h2⟩ => ⟨⟨h1, rfl⟩, _, rfl, h2⟩⟩
    | dK ds => exact propext ⟨fun ⟨h1, d, e, h2⟩ => by cases e; exact ⟨h1.1, h2⟩, fun ⟨h1, h2⟩ => ⟨⟨h1, rfl⟩, _, rfl, h2⟩⟩
    | pool _ => exact propext ⟨(fun ⟨h1, d, e, h2⟩ => by cases e), (fun h => False.elim h)⟩
    | gone => exact propext ⟨(fun ⟨h1, d, e, h2⟩ => by cases e), (fun h => False.elim h)⟩
    | nl _ => exact propext ⟨(fun ⟨h1, d, e, h2⟩ => by cases e), (fun h => False.elim h)⟩
    | nt _ => exact propext ⟨(fun ⟨h1, d, e, h2⟩ => by cases e), (fun h => False.elim h)⟩
    | nd _ => exact propext ⟨(fun ⟨h1, d, e, h2⟩ => by cases e), (fun h => False.elim h)⟩
    | dl _ _ _ => exact propext ⟨(fun ⟨h1, d, e, h2⟩ => by cases e), (fun h => False.elim h)⟩
    | tr _ => exact propext ⟨(fun ⟨h1, d, e, h2⟩ => by cases e), (fun h => False.elim h)⟩
theorem resF_f : resF Q (.f d) s = Q (.d d) s := rfl
theorem resF_n {c : Cell} : resF Q (.n c) s = onSome (frzC c) fun d => Q (.d d) s := rfl
theorem resO_f {nn : List Nat} : resO nn Q (.f d) s = Q (.d d) s := rfl
theorem resO_n {c : Cell} {nn : List Nat} : resO nn Q (.n c) s = Q (.r s.cs.length) ⟨s.sl, s.cs ++ [c]⟩ := rfl
theorem resO_t {t : Tr} {nn : List Nat} : resO nn Q (.t t) s = Q (.r s.cs.length) ⟨s.sl, s.cs ++ [.tr t]⟩ := rfl
theorem resO_p {k : Nat} {nn : List Nat} : resO nn Q (.p k) s = onSome nn[k]? fun n => Q (.r n) s := rfl
theorem scrLen_V {k : Nat} {ns : List Int} (h : s.sl[k]? = some (some (.s K ns))) : scrLen K k s Q = Q (.d (.int ns.length)) s := by
  unfold scrLen; rw [h]; exact propext ⟨fun ⟨_, e, h⟩ => by cases e; exact h.2, fun h => ⟨_, rfl, rfl, h⟩⟩
def listC : Cell → Option (List PyData)
  | .lst ds => some ds
  | .fz (.list ds) => some ds
  | .tr (.nd .lst _ xs) => leafs xs
  | _ => none
theorem listOf_r : listOf s (.r n) = s.cs[n]?.bind listC := by
  show (match s.cs[n]? with | some (.lst ds) => some ds | some (.fz (.list ds)) => some ds | some (.tr (.nd .lst _ xs)) => leafs xs | _ => none) = s.cs[n]?.bind listC
  generalize s.cs[n]? = o
  cases o with
  | none => rfl
  | some c => cases c with
    | fz y => cases y <;> rfl
    | tr t => cases t with
      | d _ => rfl
      | nd k _ _ => cases k <;> rfl
    | _ => rfl
theorem listC_tr {a : Addr} {ts : List Tr} : listC (.tr (.nd .lst a ts)) = leafs ts := rfl
theorem listOf_a {p : Addr} {pt : List Nat} : listOf s (.a p n pt) = leafL (nodeAt s (.a p n pt)) := rfl
theorem leafL_l {a : Addr} {pt : List Nat} {ts : List Tr} : leafL (some (n, pt, .lst, a, ts)) = leafs ts := rfl
theorem listOf_d : listOf s (.d (.list ds)) = some ds := rfl
def fzListC : Cell → Option (List PyData)
  | .fz (.list ds) => some ds
  | _ => none
theorem fzList_r : fzList s (.r n) = s.cs[n]?.bind fzListC := by
  show (match s.cs[n]? with | some (.fz (.list ds)) => some ds | _ => none) = s.cs[n]?.bind fzListC
  generalize s.cs[n]? = o
  cases o with
  | none => rfl
  | some c => cases c with
    | fz y => cases y <;> rfl
    | _ => rfl
theorem fzList_d : fzList s (.d (.list ds)) = some ds := rfl
def isLstC : Cell → Bool
  | .lst _ => true
  | .nl _ => true
  | .fz (.list _) => true
  | .tr (.nd .lst _ _) => true
  | _ => false
theorem isLst_r : isLst s (.r n) = (s.cs[n]?.map isLstC).getD false := by
  show (match s.cs[n]? with | some (.lst _) => true | some (.nl _) => true | some (.fz (.list _)) => true | some (.tr (.nd .lst _ _)) => true | _ => false) = (s.cs[n]?.map isLstC).getD false
  generalize s.cs[n]? = o
  cases o with
  | none => rfl
  | some c => cases c with
    | fz y => cases y <;> rfl
    | tr t => cases t with
      | d _ => rfl
      | nd k _ _ => cases k <;> rfl
    | _ => rfl
theorem isLstC_tr {a : Addr} {ts : List Tr} : isLstC (.tr (.nd .lst a ts)) = true := rfl
theorem isLst_a {p : Addr} {pt : List Nat} : isLst s (.a p n pt) = match nodeK s (.a p n pt) with | some .lst => true | _ => false := rfl
theorem isLst_d : isLst s (.d (.list ds)) = true := rfl
theorem view_r : view s (.r n) = (s.cs[n]?.map (viewC n)).getD .oth := by
  show (match s.cs[n]? with | some c => viewC n c | none => .oth) = (s.cs[n]?.map (viewC n)).getD .oth
  generalize s.cs[n]? = o
  cases o with
  | none => rfl
  | some c => cases c with
    | _ => rfl
theorem view_d : view s (.d d) = viewD d := rfl
theorem viewD_list : viewD (.list ds) = .seq (ds.map .d) := rfl
theorem viewD_tuple : viewD (.tuple ds) = .seq (ds.map .d) := rfl
theorem viewD_str : viewD (.str z) = .txt z := rfl
theorem viewD_dictD {k : List (Key × PyData)} : viewD (dictD k) = .dct (dkv k) := view_dictD (s := ⟨[], []⟩)
def tyC : Cell → Option String
  | .lst _ => some "list"
  | .nl _ => some "list"
  | .nt _ => some "tuple"
  | .dK _ => some "dict"
  | .nd _ => some "dict"
  | .fz x => some (tyName x)
  | .tr (.nd k _ _) => kdTy k
  | _ => none
theorem tyOf_r : tyOf s (.r n) = s.cs[n]?.bind tyC := by
  show (match s.cs[n]? with | some (.lst _) => some "list" | some (.nl _) => some "list" | some (.nt _) => some "tuple" | some (.dK _) => some "dict" | some (.nd _) => some "dict" | some (.fz x) => some (tyName x) | some (.tr (.nd k _ _)) => kdTy k | _ => none) = s.cs[n]?.bind tyC
  generalize s.cs[n]? = o
  cases o with
  | none => rfl
  | some c => cases c with
    | tr t => cases t <;> rfl
    | _ => rfl
theorem tyC_tr {k : Kd} {a : Addr} {ts : List Tr} : tyC (.tr (.nd k a ts)) = kdTy k := rfl
theorem tyOf_a {p : Addr} {pt : List Nat} : tyOf s (.a p n pt) = (nodeK s (.a p n pt)).bind kdTy := rfl
theorem kdTy_lst : kdTy .lst = some "list" := rfl
theorem kdTy_tup : kdTy .tup = some "tuple" := rfl
theorem kdTy_dct {ks : List Key} : kdTy (.dct ks) = some "dict" := rfl
theorem tyOf_d : tyOf s (.d d) = some (tyName d) := rfl
def tupC : Cell → Option (List AVal)
  | .nt xs => some xs
  | .nl xs => some xs
  | .lst ds => some (ds.map .d)
  | .fz (.tuple ds) => some (ds.map .d)
  | .fz (.list ds) => some (ds.map .d)
  | _ => none
theorem tupOf_r : tupOf s (.r n) = s.cs[n]?.bind tupC := by
  show (match s.cs[n]? with | some (.nt xs) => some xs | some (.nl xs) => some xs | some (.lst ds) => some (ds.map .d) | some (.fz (.tuple ds)) => some (ds.map .d) | some (.fz (.list ds)) => some (ds.map .d) | _ => none) = s.cs[n]?.bind tupC
  generalize s.cs[n]? = o
  cases o with
  | none => rfl
  | some c => cases c with
    | fz y => cases y <;> rfl
    | _ => rfl
theorem tupOf_d : tupOf s (.d (.tuple ds)) = some (ds.map .d) := rfl
theorem tupOf_dl : tupOf s (.d (.list ds)) = some (ds.map .d) := rfl
def iterOC (n : Nat) (s : AS) (Q : List PyData → (List Cell → Prop) → AS → Prop) : Cell → Prop
  | .lst ds => Q ds (fun cs => cs[n]? = some (.lst ds)) s
  | .fz (.list ds) => Q ds (fun _ => True) s
  | _ => False
def iterOV (s : AS) (Q : List PyData → (List Cell → Prop) → AS → Prop) : AVal → Prop
  | .r n => onSome s.cs[n]? (iterOC n s Q)
  | .d (.list ds) => Q ds (fun _ => True) s
  | .a p n pt => onSome (leafL (nodeAt s (.a p n pt))) fun ds => Q ds (fun cs => leafL (nodeAt ⟨[], cs⟩ (.a p n pt)) = some ds) s
  | _ => False
theorem iterO_V {ta : TEA} {QO : List PyData → (List Cell → Prop) → AS → Prop} : iterO ta s QO = ta s fun x s1 => iterOV s1 QO x := by
  rfl
theorem eqOk_int {j : Int} : eqOk (.int i) (.int j) = True := rfl
theorem eqOk_str {w : Str} : eqOk (.str z) (.str w) = True := rfl
theorem eqOk_bool {c : Bool} : eqOk (.bool b) (.bool c) = True := rfl
theorem eqv_int {j : Int} : PyData.eqv (.int i) (.int j) = decide (i = j) := by simp [PyData.eqv, Bool.beq_eq_decide_eq]
theorem eqv_str {w : Str} : PyData.eqv (.str z) (.str w) = decide (z = w) := by simp [PyData.eqv, Bool.beq_eq_decide_eq]
theorem eqv_bool {c : Bool} : PyData.eqv (.bool b) (.bool c) = decide (b = c) := by simp [PyData.eqv, Bool.beq_eq_decide_eq]
theorem scrLen_0 {sl : List (Option AVal)} {cs : List Cell} : scrLen K 0 ⟨some (.s K ns) :: sl, cs⟩ Q = Q (.d (.int ns.length)) ⟨some (.s K ns) :: sl, cs⟩ := scrLen_V rfl
theorem int?_bool : (AVal.d (.bool b)).int? = none := rfl
theorem kb_ll : kitB "list" "list" = some true := by decide +kernel
theorem kb_ii : kitB "int" "int" = some true := by decide +kernel
theorem kb_ib : kitB "int" "bool" = some false := by decide +kernel
theorem kb_bb : kitB "bool" "bool" = some true := by decide +kernel
theorem kb_bi : kitB "bool" "int" = some true := by decide +kernel
theorem kb_ss : kitB "str" "str" = some true := by decide +kernel
theorem kb_tt : kitB "tuple" "tuple" = some true := by decide +kernel
theorem kb_dd : kitB "dict" "dict" = some true := by decide +kernel
theorem ixV_seq : ixV s y Q (.seq xs) = onSome y.int? fun i => onSome (L2.atI xs i) fun z => Q z s := rfl
theorem ixV_dct : ixV s y Q (.dct kvs) = onSome y.key? fun k => onSome (getA kvs k) fun z => Q z s := rfl
theorem ixV_txt : ixV s y Q (.txt z) = onSome y.int? fun i => z.length ≤ sizeLine ∧ onSome (L2.atI z.cps.toList i) fun c => Q (.d (.str ⟨#[c]⟩)) s := rfl
theorem slV_txt {lo hi : Option Int} : slV lo hi x s Q (.txt z) = (z.length ≤ sizeLine ∧ Q (.d (.str (cutS z lo hi))) s) := rfl
theorem slV_seq {lo hi : Option Int} : slV lo hi x s Q (.seq xs) = onSome (listOf s x) fun ds => Q (.d (.list (cutD ds lo hi))) s := rfl
theorem inV'_dct {neg : Bool} : inV' neg x y s QT (.dct kvs) = onSome x.key? fun k => QT ((getA kvs k).isSome != neg) s := rfl
theorem inV'_txt {neg : Bool} : inV' neg x y s QT (.txt z) = onSome x.str? fun w => onSome (w.cps.toList.head?) fun c => w = ⟨#[c]⟩ ∧ QT (decide (c ∈ z.cps.toList) != neg) s := rfl
theorem inV'_seq {neg : Bool} : inV' neg x y s QT (.seq xs) = onSome (listOf s y) fun ds => onSome x.data? fun d => (flatD d = true ∧ ds.all flatD = true) ∧ QT (inD d ds != neg) s := rfl
theorem tup2V_2 {g1 g2 : TGA} {QS : AS → Prop} : tup2V g1 g2 s QS [x, y] = g1 x s fun s1 => g2 y s1 QS := rfl
theorem tup3V_3 {g1 g2 g3 : TGA} {QS : AS → Prop} {w : AVal} : tup3V g1 g2 g3 s QS [x, y, w] = g1 x s fun s1 => g2 y s1 fun s2 => g3 w s2 QS := rfl
theorem lenV_seq : lenV s Q (.seq xs) = Q (.d (.int xs.length)) s := rfl
theorem lenV_dct : lenV s Q (.dct kvs) = Q (.d (.int kvs.length)) s := rfl
theorem lenV_txt : lenV s Q (.txt z) = (z.length ≤ sizeLine ∧ Q (.d (.int z.length)) s) := rfl
theorem sortV_dct {QN : Cell → AS → Prop} : sortV x s QN (.dct kvs) = onSome (txtKeys kvs) fun ks => ks.length < 64 ∧ QN (.lst ((srt ks).map .str)) s := rfl
theorem sortV_seq {QN : Cell → AS → Prop} : sortV x s QN (.seq xs) = onSome (listOf s x) fun ds => onSome (srtD ds) fun es => QN (.lst es) s := rfl
theorem gotV_dct {w : AVal} : gotV y w s Q (.dct kvs) = onSome y.key? fun k => Q ((getA kvs k).getD w) s := rfl
theorem isDctV_dct : isDctV (.dct kvs) = True := rfl
theorem lstC_lst {kk : List PyData → Prop} : lstC kk (.lst ds) = kk ds := rfl
theorem dctC_dK {kk : List (Key × PyData) → Prop} {kd : List (Key × PyData)} : dctC kk (.dK kd) = kk kd := rfl
theorem fzV_r : fzV m s Q (.r n) = onSome s.cs[n]? (fzC m n s Q) := rfl
theorem fzV_d : fzV m s Q (.d d) = Q (.d d) s := rfl
theorem fzC_fz : fzC m n s Q (.fz d) = Q (.d d) s := rfl
theorem fzC_lst : fzC m n s Q (.lst ds) = (m ≤ n ∧ Q (.d (.list ds)) ⟨s.sl, s.cs.set n (.fz (.list ds))⟩) := rfl
theorem fzC_dK {kd : List (Key × PyData)} : fzC m n s Q (.dK kd) = (m ≤ n ∧ Q (.d (dictD kd)) ⟨s.sl, s.cs.set n (.fz (dictD kd))⟩) := rfl
theorem listC_lst : listC (.lst ds) = some ds := rfl
theorem listC_fz : listC (.fz (.list ds)) = some ds := rfl
theorem fzListC_fz : fzListC (.fz (.list ds)) = some ds := rfl
theorem isLstC_lst : isLstC (.lst ds) = true := rfl
theorem isLstC_fz : isLstC (.fz (.list ds)) = true := rfl
theorem isLstC_nl : isLstC (.nl xs) = true := rfl
theorem viewC_lst : viewC n (.lst ds) = .seq (ds.map .d) := rfl
theorem viewC_nl : viewC n (.nl xs) = .seq xs := rfl
theorem viewC_nt : viewC n (.nt xs) = .seq xs := rfl
theorem viewC_dK {kd : List (Key × PyData)} : viewC n (.dK kd) = .dct (dkv kd) := rfl
theorem viewC_nd : viewC n (.nd kvs) = .dct kvs := rfl
theorem viewC_fz : viewC n (.fz d) = viewD d := rfl
theorem viewC_tr {k : Kd} {a : Addr} {ts : List Tr} : viewC n (.tr (.nd k a ts)) = viewT n [] k ts := rfl
theorem viewT_l {pt : List Nat} {ts : List Tr} : viewT n pt .lst ts = .seq (kids n pt ts) := rfl
theorem viewT_t {pt : List Nat} {ts : List Tr} : viewT n pt .tup ts = .seq (kids n pt ts) := rfl
theorem viewT_d {pt : List Nat} {ts : List Tr} {ks : List Key} : viewT n pt (.dct ks) ts = .dct (ks.zip (kids n pt ts)) := rfl
theorem view_a {p : Addr} {pt : List Nat} : view s (.a p n pt) = match nodeAt s (.a p n pt) with | some (m, pt', k, _, xs) => viewT m pt' k xs | none => .oth := rfl
theorem nodeAt_a {p : Addr} {pt : List Nat} : nodeAt s (.a p n pt) = match s.cs[n]? with | some (.tr t) => (match t.at pt with | some (.nd k q xs) => if q = p then some (n, pt, k, q, xs) else none | _ => none) | _ => none := rfl
theorem nodeAt_r : nodeAt s (.r n) = match s.cs[n]? with | some (.tr (.nd k q xs)) => some (n, [], k, q, xs) | _ => none := rfl
theorem cellD_lst : cellD (.lst ds) = some (.list ds) := rfl
theorem cellD_dK {kd : List (Key × PyData)} : cellD (.dK kd) = some (dictD kd) := rfl
theorem cellD_fz : cellD (.fz d) = some d := rfl
theorem cellD_tr {t : Tr} : cellD (.tr t) = t.data? := rfl
theorem pass_lst : Cell.pass (.lst ds) = true := rfl
theorem pass_dK {kd : List (Key × PyData)} : Cell.pass (.dK kd) = true := rfl
theorem pass_pool {j : Nat} : Cell.pass (.pool j) = true := rfl
theorem pass_fz : Cell.pass (.fz d) = true := rfl
theorem pass_tr {t : Tr} : Cell.pass (.tr t) = true := rfl
theorem flat_tr {t : Tr} : Cell.flat (.tr t) = true := rfl
theorem flat_gone : Cell.flat .gone = true := rfl
theorem ren_a {nn : List Nat} {p : Addr} {pt : List Nat} : ren nn (.a p n pt) = .a p (nn.idxOf n) pt := rfl
theorem addA_a {p : Addr} {pt : List Nat} : addA (.a p n pt) y s Q = onSome (listOf s (.a p n pt)) fun ds => onSome (listOf s y) fun es => ds.length + es.length ≤ sizeLine ∧ Q (.d (.list (ds ++ es))) s := rfl

theorem tyC_lst : tyC (.lst ds) = some "list" := rfl
theorem tyC_dK {kd : List (Key × PyData)} : tyC (.dK kd) = some "dict" := rfl
theorem tyC_fz : tyC (.fz d) = some (tyName d) := rfl
theorem tupC_lst : tupC (.lst ds) = some (ds.map .d) := rfl
theorem tupC_fzl : tupC (.fz (.list ds)) = some (ds.map .d) := rfl
theorem tupC_nt : tupC (.nt xs) = some xs := rfl
theorem tupC_fz : tupC (.fz (.tuple ds)) = some (ds.map .d) := rfl
theorem iterOV_r {QO : List PyData → (List Cell → Prop) → AS → Prop} : iterOV s QO (.r n) = onSome s.cs[n]? (iterOC n s QO) := rfl
theorem iterOV_d {QO : List PyData → (List Cell → Prop) → AS → Prop} : iterOV s QO (.d (.list ds)) = QO ds (fun _ => True) s := rfl
theorem iterOV_a {p : Addr} {pt : List Nat} {QO : List PyData → (List Cell → Prop) → AS → Prop} : iterOV s QO (.a p n pt) = onSome (leafL (nodeAt s (.a p n pt))) fun ds => QO ds (fun cs => leafL (nodeAt ⟨[], cs⟩ (.a p n pt)) = some ds) s := rfl
theorem iterOC_lst {QO : List PyData → (List Cell → Prop) → AS → Prop} : iterOC n s QO (.lst ds) = QO ds (fun cs => cs[n]? = some (.lst ds)) s := rfl
theorem iterOC_fz {QO : List PyData → (List Cell → Prop) → AS → Prop} : iterOC n s QO (.fz (.list ds)) = QO ds (fun _ => True) s := rfl
theorem retC_fz : retC m n P s (.fz d) = P (.f d) (s.cs.take m) := rfl
theorem retC_lst : retC m n P s (.lst ds) = P (.n (.lst ds)) (s.cs.take m) := rfl
theorem retC_dK {kd : List (Key × PyData)} : retC m n P s (.dK kd) = P (.n (.dK kd)) (s.cs.take m) := rfl
theorem retC_pool {j : Nat} : retC m n P s (.pool j) = P (.n (.pool j)) (s.cs.take m) := rfl
theorem one_1 {k1 : AVal → Prop} : one k1 [x] = k1 x := rfl
theorem two_2 {k2 : AVal → AVal → Prop} : two k2 [x, y] = k2 x y := rfl
theorem ren_r {nn : List Nat} : ren nn (.r n) = .r (nn.idxOf n) := rfl
theorem ren_d {nn : List Nat} : ren nn (.d d) = .d d := rfl
theorem ren_s {nn : List Nat} : ren nn (.s K ns) = .s K ns := rfl
theorem frzC_lst : frzC (.lst ds) = some (.list ds) := rfl
theorem frzC_dK {kd : List (Key × PyData)} : frzC (.dK kd) = some (dictD kd) := rfl
theorem frzC_fz : frzC (.fz d) = some d := rfl
theorem dataOf_d : dataOf s (.d d) = some d := rfl
theorem dataOf_r : dataOf s (.r n) = (s.cs[n]?).bind cellD := rfl
theorem flat_lst : Cell.flat (.lst ds) = true := rfl
theorem flat_dK {kd : List (Key × PyData)} : Cell.flat (.dK kd) = true := rfl
theorem flat_pool {j : Nat} : Cell.flat (.pool j) = true := rfl
theorem flat_fz : Cell.flat (.fz d) = true := rfl
theorem key?_int : (AVal.d (.int i)).key? = some (.inl i) := rfl
theorem key?_str : (AVal.d (.str z)).key? = some (.inr z) := rfl
theorem tyN_list : tyName (.list ds) = "list" := rfl
theorem tyN_int : tyName (.int i) = "int" := rfl
theorem tyN_bool : tyName (.bool b) = "bool" := rfl
theorem tyN_str : tyName (.str z) = "str" := rfl
theorem tyN_tuple : tyName (.tuple ds) = "tuple" := rfl
theorem tyN_dictD {kd : List (Key × PyData)} : tyName (dictD kd) = "dict" := rfl
theorem tyN_none : tyName .none = "NoneType" := rfl
theorem flatD_int : flatD (.int i) = true := rfl
theorem flatD_str : flatD (.str z) = true := rfl
theorem flatD_strs (zs : List Str) : (zs.map PyData.str).all flatD = true := by rw [List.all_map, List.all_eq_true]; intro _ _; rfl
theorem flatD_ints (is : List Int) : (is.map PyData.int).all flatD = true := by rw [List.all_map, List.all_eq_true]; intro _ _; rfl
theorem flatD_nats (is : List Nat) : (is.map fun k : Nat => PyData.int (k : Int)).all flatD = true := by rw [List.all_map, List.all_eq_true]; intro _ _; rfl
theorem inD_str (z : Str) (zs : List Str) : inD (.str z) (zs.map .str) = decide (z ∈ zs) := by
  induction zs with
  | nil => rfl
  | cons y ys ih =>
    unfold inD at ih ⊢
    rw [List.map_cons, List.any_cons, ih]
    show ((y == z) || _) = _
    by_cases h : y = z
    · subst h; simp
    · have h' : z ≠ y := fun e => h e.symm
      simp [h, h']
theorem inD_int (z : Int) (zs : List Int) : inD (.int z) (zs.map .int) = decide (z ∈ zs) := by
  induction zs with
  | nil => rfl
  | cons y ys ih =>
    unfold inD at ih ⊢
    rw [List.map_cons, List.any_cons, ih]
    show ((y == z) || _) = _
    by_cases h : y = z
    · subst h; simp
    · have h' : z ≠ y := fun e => h e.symm
      simp [h, h']
theorem inD_nat (z : Nat) (zs : List Nat) : inD (.int (z : Int)) (zs.map fun k : Nat => .int (k : Int)) = decide (z ∈ zs) := by
  have := inD_int (z : Int) (zs.map fun k : Nat => (k : Int))
  rw [List.map_map] at this
  refine this.trans (decide_eq_decide.mpr ?_)
  rw [List.mem_map]
  exact ⟨fun ⟨j, hj, e⟩ => by have : j = z := by omega
                              subst this; exact hj, fun hk => ⟨z, hk, rfl⟩⟩
end
end Kr

/-! layer A13 -/
namespace Kr
open PySem L2
/-! ## a dict that is walked: it is locked meanwhile -/
def sw (G : Hp) (d : Addr) (o : HO) : Hp := fun b => if b = d then (G d).map fun _ => o else G b
section
variable {F G H : Hp} {d b : Addr} {o o1 : HO} {es : List (Key × V)}
theorem sw_ne (h : b ≠ d) : sw G d o b = G b := if_neg h
theorem sw_at (h : G d ≠ none) : sw G d o d = some o := by
  obtain ⟨u, hu⟩ := some_of_ne h
  unfold sw
  rw [if_pos rfl, hu]; rfl
theorem sw_none : sw G d o b = none ↔ G b = none := by
  by_cases h : b = d
  · subst h
    unfold sw
    rw [if_pos rfl]
    cases G b <;> simp
  · rw [sw_ne h]
theorem sw_upd (h : G d ≠ none) : sw G d o = upd G d o := by
  funext b
  by_cases hb : b = d
  · subst hb; rw [sw_at h, upd_same]
  · rw [sw_ne hb, upd_ne hb]
def IsDk (es : List (Key × V)) (o : HO) : Prop := o = .dK es ∨ ∃ od, o = .frz od (.dK es)
theorem IsDk.rd (h : IsDk es o) (e : G d = some o) : Rd G d (.dK es) := by
  rcases h with rfl | ⟨od, rfl⟩
  · exact .inl e
  · exact .inr ⟨od, e⟩
theorem Rd.ne (h : Rd F d (.dK es)) : F d ≠ none := by
  rcases h with h | ⟨_, h⟩ <;> exact ne_none h
theorem Rd.inj {es2 : List (Key × V)} (h : Rd F d (.dK es)) (k : Rd F d (.dK es2)) : es2 = es := by
  rcases h with h | ⟨_, h⟩ <;> rcases k with k | ⟨_, k⟩ <;> rw [h] at k <;> cases k <;> rfl
theorem ne_dk {u : HO} (hd : Rd F d (.dK es)) (h : F b = some u) (hu : ∀ e, ¬ IsDk e u) : b ≠ d := fun z => by
  subst z
  rcases hd with hd | ⟨od, hd⟩ <;> rw [hd] at h <;> cases h
  · exact hu es (.inl rfl)
  · exact hu es (.inr ⟨_, rfl⟩)
theorem no_lst {vs : List V} : ∀ e, ¬ IsDk e (.lst vs) := fun e h => by rcases h with h | ⟨_, h⟩ <;> cases h
theorem no_tup {vs : List V} : ∀ e, ¬ IsDk e (.tup vs) := fun e h => by rcases h with h | ⟨_, h⟩ <;> cases h
theorem Rd.sw {a : Addr} {es2 : List (Key × V)} (hd : Rd F d (.dK es)) (ho : IsDk es o) (h : Rd F a (.dK es2)) : Rd (Kr.sw F d o) a (.dK es2) := by
  by_cases e : a = d
  · subst e
    have := Rd.inj hd h
    subst this
    exact ho.rd (sw_at (Rd.ne hd))
  · unfold Rd at h ⊢
    rw [sw_ne e]; exact h
end
mutual
theorem Da.sw {F : Hp} {d : Addr} {o : HO} {es : List (Key × V)} (hd : Rd F d (.dK es)) (ho : IsDk es o) : ∀ {x : PyData} {v : V}, Da F x v → Da (Kr.sw F d o) x v
  | .none, _, h => h
  | .bool _, _, h => h
  | .int _, _, h => h
  | .str _, _, h => h
  | .list ds, v, h => by
    obtain ⟨a, xs, e, h1, h2⟩ := (show ∃ a xs, v = .ref a ∧ F a = some (.lst xs) ∧ DaAll F ds xs from h)
    exact (show ∃ a xs, v = .ref a ∧ Kr.sw F d o a = some (.lst xs) ∧ DaAll (Kr.sw F d o) ds xs from ⟨a, xs, e, by rw [sw_ne (ne_dk hd h1 no_lst)]; exact h1, DaAll.sw hd ho h2⟩)
  | .tuple ds, v, h => by
    obtain ⟨a, xs, e, h1, h2⟩ := (show ∃ a xs, v = .ref a ∧ F a = some (.tup xs) ∧ DaAll F ds xs from h)
    exact (show ∃ a xs, v = .ref a ∧ Kr.sw F d o a = some (.tup xs) ∧ DaAll (Kr.sw F d o) ds xs from ⟨a, xs, e, by rw [sw_ne (ne_dk hd h1 no_tup)]; exact h1, DaAll.sw hd ho h2⟩)
  | .dict kvs, v, h => by
    obtain ⟨a, xs, e, h1, h2⟩ := (show ∃ a es, v = .ref a ∧ Rd F a (.dK es) ∧ DaKV F kvs es from h)
    exact (show ∃ a es, v = .ref a ∧ Rd (Kr.sw F d o) a (.dK es) ∧ DaKV (Kr.sw F d o) kvs es from ⟨a, xs, e, Rd.sw hd ho h1, DaKV.sw hd ho h2⟩)
theorem DaAll.sw {F : Hp} {d : Addr} {o : HO} {es : List (Key × V)} (hd : Rd F d (.dK es)) (ho : IsDk es o) : ∀ {ds : List PyData} {vs : List V}, DaAll F ds vs → DaAll (Kr.sw F d o) ds vs
  | [], _, h => h
  | x :: ds, vs, h => by
    obtain ⟨v, r, e, h1, h2⟩ := (show ∃ v r, vs = v :: r ∧ Da F x v ∧ DaAll F ds r from h)
    exact (show ∃ v r, vs = v :: r ∧ Da (Kr.sw F d o) x v ∧ DaAll (Kr.sw F d o) ds r from ⟨v, r, e, Da.sw hd ho h1, DaAll.sw hd ho h2⟩)
theorem DaKV.sw {F : Hp} {d : Addr} {o : HO} {es : List (Key × V)} (hd : Rd F d (.dK es)) (ho : IsDk es o) : ∀ {kvs : List (PyData × PyData)} {xs : List (Key × V)}, DaKV F kvs xs → DaKV (Kr.sw F d o) kvs xs
  | [], _, h => h
  | (k, x) :: kvs, xs, h => by
    obtain ⟨k', v, r, e, h0, h1, h2⟩ := (show ∃ k' v r, xs = (k', v) :: r ∧ KeyD k k' ∧ Da F x v ∧ DaKV F kvs r from h)
    exact (show ∃ k' v r, xs = (k', v) :: r ∧ KeyD k k' ∧ Da (Kr.sw F d o) x v ∧ DaKV (Kr.sw F d o) kvs r from ⟨k', v, r, e, h0, Da.sw hd ho h1, DaKV.sw hd ho h2⟩)
end
section
variable {B : Bs} {ad ad2 : List Addr} {F H F2 H2 : Hp} {d p : Addr} {o o1 : HO} {es : List (Key × V)} {s s2 : AS} {σ σ2 : St} {x : AVal} {v : V} {c : Cell}
theorem sql_sw {K : PySem.W.Frag} {a : Addr} {vs : List V} (hd : Rd F d (.dK es)) (h : SqL K F a vs) : SqL K (sw F d o) a vs := by
  unfold SqL at h ⊢
  rcases h with h | h
  · left
    have hn : a ≠ d := h.elim (fun z => ne_dk hd z no_lst) fun ⟨_, z⟩ => ne_dk hd z fun e h => by rcases h with h | ⟨_, h⟩ <;> cases h
    unfold Rd at h ⊢
    rw [sw_ne hn]; exact h
  · right; exact h
theorem VOk.sw (hd : Rd F d (.dK es)) (ho : IsDk es o) (h : VOk ad F x v) : VOk ad (Kr.sw F d o) x v := by
  cases x with
  | d x => exact Da.sw hd ho h
  | r n => exact h
  | s K ns => obtain ⟨a, h1, h2⟩ := h; exact ⟨a, h1, sql_sw hd h2⟩
  | a p n pt => exact h
mutual
theorem TrOk.sw (hd : Rd F d (.dK es)) (ho : IsDk es o) : ∀ {t : Tr} {v : V}, TrOk F H t v → (∀ q ∈ t.addrs, q ≠ d) → TrOk (Kr.sw F d o) (Kr.sw H d o) t v
  | .d x, v, h, _ => Da.sw hd ho h
  | .nd k a xs, v, h, e => by
    obtain ⟨h0, vs, h1, h2, h3⟩ := h.node
    subst h0
    have e' : ∀ q ∈ a :: (k.more ++ Tr.addrsL xs), q ≠ d := e
    refine TrOk.of (vs := vs) (by rw [sw_ne (e' a (List.mem_cons_self ..))]; exact h1) (Kd.side_mono (F := F) h2 fun q hq o' e => ?_) (TrAll.sw hd ho h3 fun q hq => e' q (List.mem_cons_of_mem _ (List.mem_append_right _ hq)))
    rw [sw_ne (e' q (List.mem_cons_of_mem _ (List.mem_append_left _ hq)))]; exact e
theorem TrAll.sw (hd : Rd F d (.dK es)) (ho : IsDk es o) : ∀ {ts : List Tr} {vs : List V}, TrAll F H ts vs → (∀ q ∈ Tr.addrsL ts, q ≠ d) → TrAll (Kr.sw F d o) (Kr.sw H d o) ts vs
  | [], _, h, _ => h
  | t :: ts, vs, h, e => by
    obtain ⟨v, r, h0, h1, h2⟩ := (show ∃ v r, vs = v :: r ∧ TrOk F H t v ∧ TrAll F H ts r from h)
    have e' : ∀ q ∈ t.addrs ++ Tr.addrsL ts, q ≠ d := e
    exact (show ∃ v r, vs = v :: r ∧ TrOk (Kr.sw F d o) (Kr.sw H d o) t v ∧ TrAll (Kr.sw F d o) (Kr.sw H d o) ts r from ⟨v, r, h0, TrOk.sw hd ho h1 fun q hq => e' q (List.mem_append_left _ hq), TrAll.sw hd ho h2 fun q hq => e' q (List.mem_append_right _ hq)⟩)
end
theorem KvOk.sw {kvs : List (Key × PyData)} {xs : List (Key × V)} (hd : Rd F d (.dK es)) (ho : IsDk es o) (h : KvOk F kvs xs) : KvOk (Kr.sw F d o) kvs xs := Paired.imp h fun _ _ h => ⟨h.1, Da.sw hd ho h.2⟩
theorem COk.sw (hd : Rd F d (.dK es)) (ho : IsDk es o) (hp : c.live = true → p ≠ d) (hq : ∀ q ∈ c.ads, q ≠ d) (h : COk ad F H p c) : COk ad (Kr.sw F d o) (Kr.sw H d o) p c := by
  cases c with
  | lst ds => obtain ⟨vs, h1, h2⟩ := h; exact ⟨vs, by rw [sw_ne (hp rfl)]; exact h1, DaAll.sw hd ho h2⟩
  | dK kvs => obtain ⟨vs, h1, h2⟩ := h; exact ⟨vs, by rw [sw_ne (hp rfl)]; exact h1, KvOk.sw hd ho h2⟩
  | pool n => obtain ⟨c, m, t, h1, h2⟩ := h; exact ⟨c, m, t, by rw [sw_ne (hp rfl)]; exact h1, h2⟩
  | fz x => exact Da.sw hd ho h
  | gone => trivial
  | nl xs => obtain ⟨vs, h1, h2⟩ := h; exact ⟨vs, by rw [sw_ne (hp rfl)]; exact h1, Paired.imp h2 fun _ _ h => VOk.sw hd ho h⟩
  | nt xs => obtain ⟨vs, h1, h2⟩ := h; exact ⟨vs, by rw [sw_ne (hp rfl)]; exact h1, Paired.imp h2 fun _ _ h => VOk.sw hd ho h⟩
  | nd kvs => obtain ⟨vs, h1, h2⟩ := h; exact ⟨vs, by rw [sw_ne (hp rfl)]; exact h1, Paired.imp h2 fun _ _ h => ⟨h.1, VOk.sw hd ho h.2⟩⟩
  | dl od e2 kvs => obtain ⟨h1, h2⟩ := h; exact ⟨by rw [sw_ne (hp rfl)]; exact h1, KvOk.sw hd ho h2⟩
  | tr t => exact ⟨h.1, h.2.sw hd ho hq⟩
theorem same_sw (h : Same F H) (hd : F d ≠ none) : Same (sw F d o) (sw H d o) := fun b u e => by
  by_cases hb : b = d
  · subst hb
    rw [sw_at hd] at e
    rw [sw_at (Same.ne h hd)]; exact e
  · rw [sw_ne hb] at e ⊢; exact h _ _ e
theorem Rl.cels (r : Rl B ad F H s σ) (hd : Rd F d (.dK es)) (ho : IsDk es o) : ∀ (i : Nat) (p : Addr) (c : Cell), ad[i]? = some p → s.cs[i]? = some c → sw H d o p ≠ none ∧ (c.live = true → sw F d o p = none) ∧ COk ad (sw F d o) (sw H d o) p c := fun i p c h1 h2 => by
  obtain ⟨n, l, ok⟩ := r.cel i p c h1 h2
  exact ⟨fun z => n (sw_none.mp z), fun z => sw_none.mpr (l z), ok.sw hd ho (fun z e => by
    subst e
    exact (Rd.ne hd) (l z)) fun q hq e => Rd.ne hd (e ▸ (r.inn.fr q (mem_ads h2 hq)).1)⟩
theorem Inn.sw {B2 : Bs} {cs : List Cell} (r : Inn B ad F H cs) (hS : B2.S = B.S) (hT : B2.T = B.T) (h0 : ∀ b, B2.H0 b = none ↔ B.H0 b = none) : Inn B2 ad (Kr.sw F d o) (Kr.sw H d o) cs :=
  ⟨r.nd, r.off, fun q hq => ⟨sw_none.mpr (r.fr q hq).1, fun z => (r.fr q hq).2 (sw_none.mp z)⟩, fun q hq => by rw [hS, hT, h0]; exact r.own q hq, fun b hb z => r.old b (hT ▸ hb) ((h0 b).mp z)⟩
def Bs.lk (B : Bs) (F : Hp) (d : Addr) (o : HO) : Bs := ⟨B.S, Kr.sw F d o, Kr.sw B.H0 d o, B.T⟩
theorem Rl.lock (r : Rl B ad F H s σ) (hd : Rd F d (.dK es)) (ho : IsDk es o) : Rl (B.lk F d o) ad (sw F d o) (sw H d o) s σ := by
  refine ⟨Same.refl _, same_sw r.fh (Rd.ne hd), fun b u hb ht e => ?_, fun b hb z => r.al b hb (sw_none.mp z), fun b e _ => e, ?_, r.nd, r.len, r.cels hd ho, r.sln, fun k x hx => ?_, r.inn.sw rfl rfl fun b => sw_none⟩
  · by_cases z : b = d
    · subst z
      have e' : sw B.H0 b o b = some u := e
      have n0 : B.H0 b ≠ none := fun z => by rw [sw_none.mpr z] at e'; cases e'
      obtain ⟨u0, hu0⟩ := some_of_ne n0
      rw [sw_at n0] at e'
      rw [sw_at (ne_none (r.hh b u0 hb ht hu0))]; exact e'
    · have e' : sw B.H0 d o b = some u := e
      rw [sw_ne z] at e' ⊢
      exact r.hh b u hb ht e'
  · obtain ⟨ad', e, h⟩ := r.pre
    exact ⟨ad', e, fun b hb => sw_none.mpr (h b hb)⟩
  · obtain ⟨v, h1, h2⟩ := r.slt k x hx
    exact ⟨v, h1, h2.sw hd ho⟩
theorem Rl.unlock (r0 : Rl B ad F H s σ) (hF : F d = some o1) (h1 : IsDk es o1) (ho : IsDk es o) (r : Rl (B.lk F d o) ad2 F2 H2 s2 σ2) : F2 d = some o ∧ H2 d = some o ∧ Same F (sw F2 d o1) ∧ Rl B ad2 (sw F2 d o1) (sw H2 d o1) s2 σ2 := by
  have e1 : F2 d = some o := r.ff _ _ (sw_at (ne_none hF))
  have e2 : H2 d = some o := r.fh _ _ e1
  have hd : Rd F2 d (.dK es) := ho.rd e1
  have sF : Same F (sw F2 d o1) := fun b u e => by
    by_cases hb : b = d
    · subst hb; rw [hF] at e; cases e; exact sw_at (ne_none e1)
    · rw [sw_ne hb]; exact r.ff _ _ (by show sw F d o b = some u; rw [sw_ne hb]; exact e)
  refine ⟨e1, e2, sF, r0.ff.trans sF, same_sw r.fh (Rd.ne hd), fun b u hb ht e => ?_, fun b hb z => r.al b hb (sw_none.mp z), fun b e n => ?_, ?_, r.nd, r.len, r.cels hd h1, r.sln, fun k x hx => ?_, r.inn.sw rfl rfl fun b => sw_none.symm⟩
  · by_cases z : b = d
    · subst z
      have := r0.hh b u hb ht e
      rw [r0.fh _ _ hF] at this
      cases this
      exact sw_at (ne_none e2)
    · rw [sw_ne z]
      exact r.hh b u hb ht (by show sw B.H0 d o b = some u; rw [sw_ne z]; exact e)
  · have f0 := r0.new b e n
    refine sw_none.mpr (r.new b ?_ ?_)
    · exact sw_none.mpr f0
    · exact fun z => n (sw_none.mp z)
  · obtain ⟨ad', e, h⟩ := r.pre
    exact ⟨ad', e, fun b hb => sw_none.mp (h b hb)⟩
  · obtain ⟨v, h2, h3⟩ := r.slt k x hx
    exact ⟨v, h2, h3.sw hd h1⟩
end
end Kr

/-! layer A14 -/
namespace Kr
open PySem L2
/-! ## for x in a dict -/
theorem WS.ends {X : Cx} {st : Stmt} {D1 D2 : Ends} {σ : St} {H : Hp} (h : WS X st D1 σ H) (n : ∀ σ H, D1.nx σ H → D2.nx σ H) (r : ∀ v H, D1.rt v H → D2.rt v H) (b : ∀ σ H, D1.bk σ H → D2.bk σ H) (c : ∀ σ H, D1.ct σ H → D2.ct σ H) : WS X st D2 σ H := fun pins s I => thn (h pins s I) fun f s' q => by
  cases f with
  | next => obtain ⟨σ', H', I', q⟩ := q; exact ⟨σ', H', I', n _ _ q⟩
  | brk => obtain ⟨σ', H', I', q⟩ := q; exact ⟨σ', H', I', b _ _ q⟩
  | cont => obtain ⟨σ', H', I', q⟩ := q; exact ⟨σ', H', I', c _ _ q⟩
  | ret u => obtain ⟨v, σ', H', I', rv, q⟩ := q; exact ⟨v, σ', H', I', rv, r _ _ q⟩
def okG (ok : AS → Prop) (g : TGA) : TGA := fun x s Q => ok s ∧ g x s Q
def keysOf : PyData → Option (List PyData)
  | .dict kvs => some (kvs.map (·.1))
  | _ => none
theorem daKV_len {F : Hp} : ∀ {kvs : List (PyData × PyData)} {es : List (Key × V)}, DaKV F kvs es → es.length = kvs.length
  | [], es, h => by obtain rfl := (show es = [] from h); rfl
  | (k, d) :: kvs, es, h => by
    obtain ⟨k', v, r, rfl, _, _, h2⟩ := (show ∃ k' v r, es = (k', v) :: r ∧ KeyD k k' ∧ Da F d v ∧ DaKV F kvs r from h)
    simp [daKV_len h2]
theorem da_key {F : Hp} {k : PyData} {k' : Key} (h : KeyD k k') : Da F k (kV k') := by
  cases k <;> cases k' <;> simp only [KeyD] at h
  · subst h; rfl
  · subst h; rfl
theorem daKV_key {F : Hp} : ∀ {kvs : List (PyData × PyData)} {es : List (Key × V)} {i : Nat} {d : PyData} {k : Key} {v : V}, DaKV F kvs es → (kvs.map (·.1))[i]? = some d → es[i]? = some (k, v) → KeyD d k
  | [], _, _, _, _, _, _, h, _ => by simp at h
  | (k, d) :: kvs, es, i, d', k2, v2, h, h1, h2 => by
    obtain ⟨k', v, r, rfl, h3, _, h4⟩ := (show ∃ k' v r, es = (k', v) :: r ∧ KeyD k k' ∧ Da F d v ∧ DaKV F kvs r from h)
    cases i with
    | zero =>
      simp only [List.map_cons, List.getElem?_cons_zero, Option.some.injEq] at h1 h2
      cases h2; subst h1; exact h3
    | succ i => exact daKV_key h4 h1 h2
section
variable {X : Cx} {B : Bs} {tg iter : Expr} {body : List Stmt} {t : TSA} {g : TGA} {ks : List Nat} {pos : Pos}
theorem for_core {J : It} {ds : List PyData} {ok : AS → Prop} (hg : GT X tg ks g) (hb : ∀ F0 H0, SS X ⟨B.S, F0, H0, B.T⟩ body t) {ad2 : List Addr} {F2 H2 : Hp} {s2 : AS} {σ : St} {D : DA} (r2 : Rl B ad2 F2 H2 s2 σ)
    (w : ∀ ad3 F3 H3 s3 σ3, Same F2 F3 → Rl B ad3 F3 H3 s3 σ3 → ok s3 → (∀ (i : Nat) d, ds[i]? = some d → J.go i H3 ∧ ∀ x H4, J.yld i H3 x H4 → H4 = H3 ∧ Da F3 d x) ∧ J.stop ds.length H3)
    (q : forW B.S.length (okG ok g) t D ds s2) (hD : ∀ s, D.nx s → ok s) :
    ∃ W : Nat → Nat → St → Hp → Prop, (∃ m, W 0 m σ H2) ∧ ∀ i m σ H, W i m σ H → (J.stop i H ∧ (liftD B D).nx σ H) ∨ (J.go i H ∧ ∃ N : St → Hp → Prop, (∀ σ' H', N σ' H' → ∃ m', m' < m ∧ W (i + 1) m' σ' H') ∧ ∀ x H', J.yld i H x H' → WG X tg x σ H' fun σ2 H2 => WSs X body { liftD B D with nx := N, ct := N, bk := (liftD B D).nx } σ2 H2) := by
  refine ⟨fun i m σ' H' => m = ds.length - i ∧ i ≤ ds.length ∧ ∃ ad' F' s', Same F2 F' ∧ Rl B ad' F' H' s' σ' ∧ forW B.S.length (okG ok g) t D (ds.drop i) s', ⟨ds.length, by simp, Nat.zero_le _, ad2, F2, s2, Same.refl _, r2, q⟩, ?_⟩
  rintro i m σ' H' ⟨rfl, hi', ad', F', s', s1, r', q'⟩
  by_cases hlt : i < ds.length
  · have e : ds[i]? = some ds[i] := List.getElem?_eq_getElem hlt
    rw [drop_get e] at q'
    obtain ⟨w1, w2⟩ := w ad' F' H' s' σ' s1 r' q'.1
    obtain ⟨go, yl⟩ := w1 i _ e
    refine .inr ⟨go, fun σ3 H3 => ∃ ad3 F3 s3, Same F2 F3 ∧ Rl B ad3 F3 H3 s3 σ3 ∧ forW B.S.length (okG ok g) t D (ds.drop (i + 1)) s3, fun σ3 H3 p' => ⟨ds.length - (i + 1), by omega, rfl, hlt, p'⟩, fun x H4 y => ?_⟩
    obtain ⟨rfl, hd⟩ := yl x H4 y
    refine (hg.run B ad' F' H4 s' σ' (.d ds[i]) x _ r' hd q'.2).mono2 ?_
    rintro σ5 H5 ⟨rfl, k5, s5, r5, q5⟩
    intro pins sh I
    refine thn ((hb F' B.H0).run _ s5 q5 ad' F' H5 σ5 r5.floor pins sh I) fun f s6 z => ?_
    cases f with
    | next =>
      obtain ⟨σ2, H2, I2, ad2, F2', s2, r2', s3, wk, w3⟩ := z
      obtain ⟨ad9, r9⟩ := (r5.unfloor r2').weakX wk
      exact ⟨σ2, H2, I2, ad9, F2', s3, s1.trans r2'.ff, r9, w3⟩
    | brk =>
      obtain ⟨σ2, H2, I2, ad2, F2', s2, r2', w3⟩ := z
      exact ⟨σ2, H2, I2, ad2, F2', s2, r5.unfloor r2', w3⟩
    | cont =>
      obtain ⟨σ2, H2, I2, ad2, F2', s2, r2', s3, wk, w3⟩ := z
      obtain ⟨ad9, r9⟩ := (r5.unfloor r2').weakX wk
      exact ⟨σ2, H2, I2, ad9, F2', s3, s1.trans r2'.ff, r9, w3⟩
    | ret u =>
      obtain ⟨v, σ2, H2, I2, rv, ad2, F2', x2, s2, σ3, r2', hv, w3⟩ := z
      exact ⟨v, σ2, H2, I2, rv, ad2, F2', x2, s2, σ3, r5.unfloor r2', hv, w3⟩
  · have e : i = ds.length := by omega
    subst e
    rw [List.drop_length] at q'
    exact .inl ⟨(w ad' F' H' s' σ' s1 r' (hD _ q')).2, ad', F', s', r', q'⟩
def DA.unl (D : DA) (n : Nat) (c0 c : Cell) : DA := ⟨fun s => s.cs[n]? = some c0 ∧ D.nx ⟨s.sl, s.cs.set n c⟩, fun x s => s.cs[n]? = some c0 ∧ D.rt x ⟨s.sl, s.cs.set n c⟩, fun s => s.cs[n]? = some c0 ∧ D.bk ⟨s.sl, s.cs.set n c⟩, fun s => s.cs[n]? = some c0 ∧ D.ct ⟨s.sl, s.cs.set n c⟩⟩
def forDC (m n : Nat) (g : TGA) (t : TSA) (D : DA) (s : AS) : Cell → Prop
  | .dK kvs => n < m ∧ ∀ od es, forW m (okG (fun s => s.cs[n]? = some (.dl od es kvs)) g) t (D.unl n (.dl od es kvs) (.dK kvs)) (kvs.map fun p => keyD p.1) ⟨s.sl, s.cs.set n (.dl od es kvs)⟩
  | .fz y => onSome (keysOf y) fun ds => forW m (okG (fun _ => True) g) t D ds s
  | _ => False
def forDV (m : Nat) (g : TGA) (t : TSA) (D : DA) (s : AS) : AVal → Prop
  | .d y => onSome (keysOf y) fun ds => forW m (okG (fun _ => True) g) t D ds s
  | .r n => onSome s.cs[n]? (forDC m n g t D s)
  | .s _ _ => False
  | .a _ _ _ => False
def forDA (m k : Nat) (g : TGA) (t : TSA) : TSA := fun D s => onSome (s.sl[k]?.bind id) (forDV m g t D s)
theorem slot_some {s : AS} {k : Nat} {y : AVal} (e : s.sl[k]?.bind id = some y) : s.sl[k]? = some (some y) := by
  cases h : s.sl[k]? with
  | none => rw [h] at e; cases e
  | some o => rw [h] at e; cases o with
    | none => cases e
    | some z => cases e; rfl
theorem ends_unlock {D : DA} {ad : List Addr} {F H : Hp} {s : AS} {σ : St} {a : Addr} {es : List (Key × V)} {od : Obj} {st : Stmt} {H1 : Hp} (r : Rl B ad F H s σ) (hr : F a = some (.dK es)) (h : WS X st (liftD (B.lk F a (.frz od (.dK es))) D) σ H1) :
    WS X st ⟨fun σ' H' => H' a = some (.frz od (.dK es)) ∧ (liftD B D).nx σ' (upd H' a (.dK es)), fun v H' => H' a = some (.frz od (.dK es)) ∧ (liftD B D).rt v (upd H' a (.dK es)), fun σ' H' => H' a = some (.frz od (.dK es)) ∧ (liftD B D).bk σ' (upd H' a (.dK es)), fun σ' H' => H' a = some (.frz od (.dK es)) ∧ (liftD B D).ct σ' (upd H' a (.dK es))⟩ σ H1 := by
  have key : ∀ {ad2 F2 H2 s2 σ2}, Rl (B.lk F a (.frz od (.dK es))) ad2 F2 H2 s2 σ2 → H2 a = some (.frz od (.dK es)) ∧ Rl B ad2 (sw F2 a (.dK es)) (upd H2 a (.dK es)) s2 σ2 ∧ ∀ x v, VOk ad2 F2 x v → VOk ad2 (sw F2 a (.dK es)) x v := fun {ad2 F2 H2 s2 σ2} r2 => by
    obtain ⟨e1, e2, _, e3⟩ := r.unlock hr (.inl rfl) (.inr ⟨od, rfl⟩) r2
    rw [sw_upd (ne_none e2)] at e3
    exact ⟨e2, e3, fun x v hv => VOk.sw (IsDk.rd (.inr ⟨od, rfl⟩) e1) (.inl rfl) hv⟩
  refine h.ends ?_ ?_ ?_ ?_
  · rintro σ' H' ⟨ad2, F2, s2, r2, q⟩
    obtain ⟨k1, k2, _⟩ := key r2
    exact ⟨k1, ad2, _, s2, k2, q⟩
  · rintro v H' ⟨ad2, F2, x, s2, σ2, r2, hv, q⟩
    obtain ⟨k1, k2, k3⟩ := key r2
    exact ⟨k1, ad2, _, x, s2, σ2, k2, k3 _ _ hv, q⟩
  · rintro σ' H' ⟨ad2, F2, s2, r2, q⟩
    obtain ⟨k1, k2, _⟩ := key r2
    exact ⟨k1, ad2, _, s2, k2, q⟩
  · rintro σ' H' ⟨ad2, F2, s2, r2, q⟩
    obtain ⟨k1, k2, _⟩ := key r2
    exact ⟨k1, ad2, _, s2, k2, q⟩
theorem walk_keys {F3 H3 : Hp} {a : Addr} {od : Obj} {es : List (Key × V)} {ds : List PyData} (h : H3 a = some (.frz od (.dK es))) (hl : es.length = ds.length) (hk : ∀ (i : Nat) d k v, ds[i]? = some d → es[i]? = some (k, v) → KeyD d k) :
    (∀ (i : Nat) d, ds[i]? = some d → (Itk a od es).go i H3 ∧ ∀ x H4, (Itk a od es).yld i H3 x H4 → H4 = H3 ∧ Da F3 d x) ∧ (Itk a od es).stop ds.length H3 := by
  refine ⟨fun i d e => ⟨⟨h, by rw [hl]; exact (List.getElem?_eq_some_iff.mp e).1⟩, fun x H4 y => ?_⟩, h, by rw [hl]; exact Nat.le_refl _⟩
  obtain ⟨rfl, k, v, e2, rfl⟩ := y
  exact ⟨rfl, da_key (hk i d k v e e2)⟩
theorem sa_forD (k : Nat) {x : Str} {p1 : Pos} (hp : PassesOwn (model X.prog X.w) X.A X.env X.xe) (hc : X.calm = true) (hg : GT X tg ks g) (hb : ∀ F0 H0, SS X ⟨B.S, F0, H0, B.T⟩ body t) (hs : ∀ y, foldedSetIterable (.Name x p1) X.env y = pure y := by intro _; rfl)
    (hN : X.N[k]? = some x := by rfl) (hv : Vis X.env.scope x := by first | exact Or.inl rfl | exact Or.inr (Or.inl rfl) | exact Or.inr (Or.inr rfl)) (hd : (x == ("__debug__" : Str)) = false := by decide) (hcd : (x == ("__classdict__" : Str)) = false := by decide) :
    SA X B (.For tg (.Name x p1) body [] pos) (forDA B.S.length k g t) := ⟨fun D s h ad F H σ r => by
  obtain ⟨y, hy, h⟩ := h
  obtain ⟨v, hv1, hvo⟩ := r.slt k y (slot_some hy)
  have core : ∀ (F0 H0 F1 H1 : Hp) (a : Addr) (od : Obj) (es : List (Key × V)) (s1 : AS) (ok : AS → Prop) (ds : List PyData) (D1 : DA), v = .ref a → H1 a = some (.frz od (.dK es)) → Rl ⟨B.S, F0, H0, B.T⟩ ad F1 H1 s1 σ →
      (∀ ad3 F3 H3 s3 σ3, Same F1 F3 → Rl ⟨B.S, F0, H0, B.T⟩ ad3 F3 H3 s3 σ3 → ok s3 → H3 a = some (.frz od (.dK es))) → es.length = ds.length → (∀ (i : Nat) d k v, ds[i]? = some d → es[i]? = some (k, v) → KeyD d k) → forW B.S.length (okG ok g) t D1 ds s1 → (∀ s, D1.nx s → ok s) → WS X (.For tg (.Name x p1) body [] pos) (liftD ⟨B.S, F0, H0, B.T⟩ D1) σ H1 := by
    intro F0 H0 F1 H1 a od es s1 ok ds D1 ev hH r1 hok hl hk q hD
    subst ev
    refine ws_of (ps_for hp hc (pi_keys (pe_var hN hv hd hcd)) pg_wg pss_wss hs) ⟨_, hv1, a, od, rfl, .inl ⟨es, hH, ?_⟩⟩
    exact for_core (B := ⟨B.S, F0, H0, B.T⟩) hg hb r1 (fun ad3 F3 H3 s3 σ3 k3 r3 o3 => walk_keys (hok ad3 F3 H3 s3 σ3 k3 r3 o3) hl hk) q hD
  have dat : ∀ z, Da F z v → (onSome (keysOf z) fun ds => forW B.S.length (okG (fun _ => True) g) t D ds s) → WS X (.For tg (.Name x p1) body [] pos) (liftD B D) σ H := by
    rintro z hz ⟨ds, hds, q⟩
    cases z with
    | dict kvs =>
      cases hds
      obtain ⟨a, es, ev, hr, hkv⟩ := (show ∃ a es, v = .ref a ∧ Rd F a (.dK es) ∧ DaKV F kvs es from hz)
      have hl : es.length = (kvs.map (·.1)).length := by rw [List.length_map]; exact daKV_len hkv
      rcases hr with hr | ⟨od, hr⟩
      · refine ws_of (ps_lock ps_ws) ⟨a, .dK es, r.fh _ _ hr, trivial, fun od => ?_⟩
        refine ends_unlock r hr ?_
        have r1 := r.lock (o := .frz od (.dK es)) (.inl hr) (.inr ⟨od, rfl⟩)
        have hH1 : sw H a (.frz od (.dK es)) a = some (.frz od (.dK es)) := sw_at (ne_none (r.fh _ _ hr))
        rw [← sw_upd (ne_none (r.fh _ _ hr))]
        exact core _ _ _ _ a od es s (fun _ => True) _ D ev hH1 r1 (fun ad3 F3 H3 s3 σ3 k3 r3 _ => r3.fh _ _ (k3 _ _ (sw_at (ne_none hr)))) hl (fun i d k v => daKV_key hkv) q fun _ _ => trivial
      · exact core B.F0 B.H0 F H a od es s (fun _ => True) _ D ev (r.fh _ _ hr) r (fun ad3 F3 H3 s3 σ3 k3 r3 _ => r3.fh _ _ (k3 _ _ hr)) hl (fun i d k v => daKV_key hkv) q fun _ _ => trivial
    | _ => cases hds
  cases y with
  | s _ _ => exact h.elim
  | a _ _ _ => exact h.elim
  | d z => exact dat z hvo h
  | r n =>
    obtain ⟨c, hcn, h⟩ := h
    obtain ⟨p, hpn, rfl⟩ := hvo
    obtain ⟨n0, l0, ok0⟩ := r.cel n p c hpn hcn
    cases c with
    | fz z => exact dat z ok0 h
    | dK kvs =>
      obtain ⟨hn, h⟩ := h
      obtain ⟨es, hH, hkv⟩ := ok0
      refine ws_of (ps_lock ps_ws) ⟨p, .dK es, hH, trivial, fun od => ?_⟩
      have r1 := r.put (o := .frz od (.dK es)) (c := .dl od es kvs) hpn hcn rfl ⟨upd_same, hkv⟩
      have atp : ∀ {ad3 F3 H3 s3 σ3}, Rl B ad3 F3 H3 s3 σ3 → s3.cs[n]? = some (.dl od es kvs) → ad3[n]? = some p ∧ H3 p = some (.frz od (.dK es)) ∧ KvOk F3 kvs es := fun {ad3 F3 H3 s3 σ3} r3 h3 => by
        obtain ⟨ad', e, _⟩ := r.pre
        obtain ⟨ad'', e2, _⟩ := r3.pre
        have h4 : ad3[n]? = some p := by
          rw [e2, List.getElem?_append_left hn]
          rw [e, List.getElem?_append_left hn] at hpn
          exact hpn
        obtain ⟨_, _, h5, h6⟩ := r3.cel n p _ h4 h3
        exact ⟨h4, h5, h6⟩
      have q := core B.F0 B.H0 F (upd H p (.frz od (.dK es))) p od es _ (fun s => s.cs[n]? = some (.dl od es kvs)) _ _ rfl upd_same r1 (fun ad3 F3 H3 s3 σ3 k3 r3 o3 => (atp r3 o3).2.1) (by rw [List.length_map]; exact (Paired.len hkv).symm) (fun i d k v e1 e2 => by
        rw [List.getElem?_map] at e1
        cases hq : kvs[i]? with
        | none => rw [hq] at e1; cases e1
        | some pr =>
          rw [hq] at e1
          obtain ⟨y2, e3, e4, _⟩ := Paired.get hkv hq
          rw [e2] at e3
          cases e3
          have e5 : keyD pr.1 = d := by simpa using e1
          subst e5
          rw [e4]
          cases k <;> rfl) (h od es) fun s q => q.1
      have back : ∀ {ad3 F3 H3 s3 σ3}, Rl B ad3 F3 H3 s3 σ3 → s3.cs[n]? = some (.dl od es kvs) → H3 p = some (.frz od (.dK es)) ∧ Rl B ad3 F3 (upd H3 p (.dK es)) ⟨s3.sl, s3.cs.set n (.dK kvs)⟩ σ3 := fun {ad3 F3 H3 s3 σ3} r3 h3 => by
        obtain ⟨h4, h5, h6⟩ := atp r3 h3
        exact ⟨h5, r3.put (c := .dK kvs) h4 h3 rfl ⟨es, upd_same, h6⟩⟩
      refine q.ends ?_ ?_ ?_ ?_
      · rintro σ' H' ⟨ad2, F2, s2, r2, q1, q⟩
        obtain ⟨k1, k2⟩ := back r2 q1
        exact ⟨k1, ad2, F2, _, k2, q⟩
      · rintro v H' ⟨ad2, F2, x, s2, σ2, r2, hv, q1, q⟩
        obtain ⟨k1, k2⟩ := back r2 q1
        exact ⟨k1, ad2, F2, x, _, σ2, k2, hv, q⟩
      · rintro σ' H' ⟨ad2, F2, s2, r2, q1, q⟩
        obtain ⟨k1, k2⟩ := back r2 q1
        exact ⟨k1, ad2, F2, _, k2, q⟩
      · rintro σ' H' ⟨ad2, F2, s2, r2, q1, q⟩
        obtain ⟨k1, k2⟩ := back r2 q1
        exact ⟨k1, ad2, F2, _, k2, q⟩
    | _ => exact h.elim⟩
end
end Kr

/-! layer A15 -/
namespace Kr
open PySem L2
/-! ## dicts: ==, !=, dict(pairs), clear -/
def dctD : PyData → Option (List (Key × PyData))
  | .dict kvs => unKV kvs
  | _ => none
def dkC : Cell → Option (List (Key × PyData))
  | .dK kvs => some kvs
  | .fz y => dctD y
  | .dl _ _ kvs => some kvs
  | _ => none
def dctOf (s : AS) : AVal → Option (List (Key × PyData))
  | .d y => dctD y
  | .r n => s.cs[n]?.bind dkC
  | .s _ _ => none
  | .a _ _ _ => none
theorem dctD_dictD {kvs : List (Key × PyData)} : dctD (dictD kvs) = some kvs := unKV_keyD kvs
def eqvKV (ks ls : List (Key × PyData)) : Bool := ks.length == ls.length && ks.all fun p => match getA ls p.1 with | some e => PyData.eqv p.2 e | none => false
section
variable {X : Cx} {B : Bs} {ad : List Addr} {F H : Hp} {s : AS} {σ : St} {x y : AVal} {u v : V}
theorem dctD_ok {d : PyData} {kvs : List (Key × PyData)} (e : dctD d = some kvs) (h : Da F d v) : ∃ l es, v = .ref l ∧ Rd F l (.dK es) ∧ KvOk F kvs es := by
  cases d with
  | dict k =>
    obtain ⟨a, es, rfl, h1, h2⟩ := h
    exact ⟨a, es, rfl, h1, kvOk_of e h2⟩
  | _ => cases e
theorem dctOf_ok {kvs : List (Key × PyData)} (r : Rl B ad F H s σ) (h : VOk ad F x v) (e : dctOf s x = some kvs) : ∃ l es, v = .ref l ∧ Rd H l (.dK es) ∧ KvOk F kvs es := by
  cases x with
  | s _ _ => cases e
  | a _ _ _ => cases e
  | d x =>
    obtain ⟨l, vs, h1, h2, h3⟩ := dctD_ok e h
    exact ⟨l, vs, h1, Rd.up r.fh h2, h3⟩
  | r n =>
    obtain ⟨a, h1, rfl⟩ := h
    cases hc : s.cs[n]? with
    | none => simp [dctOf, hc] at e
    | some c =>
      have e' : dkC c = some kvs := by simpa [dctOf, hc] using e
      obtain ⟨_, _, ok⟩ := r.cel n a c h1 hc
      cases c with
      | dK ds => cases e'; obtain ⟨vs, h2, h3⟩ := ok; exact ⟨a, vs, rfl, .inl h2, h3⟩
      | dl od es ds => cases e'; obtain ⟨h2, h3⟩ := ok; exact ⟨a, es, rfl, .inr ⟨od, h2⟩, h3⟩
      | fz y =>
        obtain ⟨l, vs, h1, h2, h3⟩ := dctD_ok (F := F) e' ok
        exact ⟨l, vs, h1, Rd.up r.fh h2, h3⟩
      | _ => cases e'
theorem KvOk.get {kvs : List (Key × PyData)} {es : List (Key × V)} {k : Key} (h : KvOk F kvs es) : match getA kvs k with | some x => ∃ v, valV es k = some v ∧ Da F x v | none => valV es k = none := by
  unfold KvOk at h
  induction h with
  | nil => rfl
  | @cons p q ps qs h t ih =>
    by_cases hk : p.1 = k
    · have : getA (p :: ps) k = some p.2 := by simp [getA, List.find?_cons, hk]
      rw [this]
      exact ⟨q.2, valV_pos (h.1.symm.trans hk), h.2⟩
    · have e1 : getA (p :: ps) k = getA ps k := by simp [getA, List.find?_cons, hk]
      have e2 : valV (q :: qs) k = valV qs k := valV_neg (by rw [← h.1]; exact hk)
      rw [e1, e2]
      exact ih
theorem getA_mem {α : Type} {kvs : List (Key × α)} {k : Key} {d : α} (h : getA kvs k = some d) : ∃ p ∈ kvs, p.2 = d := by
  unfold getA at h
  cases hf : kvs.find? fun kv => decide (kv.1 = k) with
  | none => rw [hf] at h; cases h
  | some p => rw [hf] at h; cases h; exact ⟨p, List.mem_of_find?_eq_some hf, rfl⟩
theorem hitsKV {A : Around} {sh : Shared} {pins : List (Addr × Obj)} (I : Inv X pins σ H sh) (sm : Same F H) (hu : A.units + 60 < cLine) {ls : List (Key × PyData)} {fs : List (Key × V)} {vb : List (Key × Value)} (hl : KvOk F ls fs) (rb : KV fs vb) (yl : ∀ p ∈ ls, Lay 60 p.2) :
    ∀ {ks : List (Key × PyData)} {es : List (Key × V)} {va : List (Key × Value)}, KvOk F ks es → KV es va → (∀ p ∈ ks, Lay 60 p.2) → PySem.W.KeqHits A sh vb va (ks.all fun p => match getA ls p.1 with | some e => PyData.eqv p.2 e | none => false) := by
  intro ks es va hk
  unfold KvOk at hk
  induction hk generalizing va with
  | nil => intro ra _; cases ra; exact .nil
  | @cons p q ps qs h t ih =>
    intro ra yk
    obtain ⟨pk, pd⟩ := p
    obtain ⟨qk, qv⟩ := q
    obtain ⟨h1, h2⟩ := h
    have h1' : pk = qk := h1
    subst h1'
    unfold KV at ra
    cases ra with
    | @cons _ w _ ws rw1 rws =>
      obtain ⟨wk, wv⟩ := w
      obtain ⟨h3, h4⟩ := rw1
      have h3' : pk = wk := h3
      subst h3'
      rw [List.all_cons]
      have hv := rb.val pk
      have hg := hl.get (k := pk)
      dsimp only
      cases hgl : getA ls pk with
      | none =>
        rw [hgl] at hg
        rw [show valV fs pk = none from hg] at hv
        refine (Bool.false_and _).symm ▸ .miss ?_
        cases hq : valueAt vb pk with
        | none => rfl
        | some z => rw [hq] at hv; exact hv.elim
      | some d2 =>
        rw [hgl] at hg
        obtain ⟨v2, e2, hd2⟩ := hg
        rw [e2] at hv
        obtain ⟨z, hz, rz⟩ := hv.some_of
        obtain ⟨as, r1⟩ := Dp.reads I pd qv wv ((Da.mono sm h2).dp (yk _ (List.mem_cons_self ..)).1) h4
        obtain ⟨p2, hp2, ep2⟩ := getA_mem hgl
        have y2 : Lay 60 d2 := ep2 ▸ yl p2 hp2
        obtain ⟨bs, r2⟩ := Dp.reads I d2 v2 z ((Da.mono sm hd2).dp y2.1) rz
        refine .hit hz (SeqAt.eqAt_reads _ _ _ _ _ _ _ _ r1 r2 (yk _ (List.mem_cons_self ..)).1 y2.1 ?_) (ih rws fun p hp => yk p (List.mem_cons_of_mem _ hp))
        have := (yk _ (List.mem_cons_self ..)).2
        have h5 : min pd.depth d2.depth ≤ pd.depth := Nat.min_le_left _ _
        have h6 : pd.depth ≤ 60 := this
        omega
def rEqKV (neg : Bool) : R2 := fun x y H Q => ∃ (F : Hp) (a b : Addr) (es fs : List (Key × V)) (ks ls : List (Key × PyData)), x = .ref a ∧ y = .ref b ∧ Same F H ∧ Rd H a (.dK es) ∧ Rd H b (.dK fs) ∧ KvOk F ks es ∧ KvOk F ls fs ∧ (∀ p ∈ ks, Lay 60 p.2) ∧ (∀ p ∈ ls, Lay 60 p.2) ∧ Q (.bl (eqvKV ks ls != neg)) H
theorem op_eqKV (hu : X.A.units + 64 < cLine) : OpR X (compareOp .Eq) (rEqKV false) := by
  intro pins s σ H x y v u Q I rx ry h
  obtain ⟨F, a, b, es, fs, ks, ls, rfl, rfl, sm, ea, eb, hk, hl, yk, yl, q⟩ := h
  obtain rfl : v = Value.ref a := rx
  obtain rfl : u = Value.ref b := ry
  obtain ⟨_, ya, va, ra, da⟩ := (show ObjOk X.prog X.w H s.heap a (.dK es) from ea.ok I.hok)
  obtain ⟨_, yb, vb, rb, db⟩ := (show ObjOk X.prog X.w H s.heap b (.dK fs) from eb.ok I.hok)
  refine PySem.W.keq_eq (knd := mixKind X.prog X.w) ya yb da db (by omega) (fun _ => hitsKV I sm (by show X.A.units + 1 + 60 < cLine; omega) hl rb yl hk ra yk) (fin_bl I q ?_)
  unfold eqvKV
  rw [← ra.length, ← rb.length, ← Paired.len hk, ← Paired.len hl]
  simp
theorem op_neKV (hu : X.A.units + 64 < cLine) : OpR X (compareOp .NotEq) (rEqKV true) := by
  intro pins s σ H x y v u Q I rx ry h
  obtain ⟨F, a, b, es, fs, ks, ls, rfl, rfl, sm, ea, eb, hk, hl, yk, yl, q⟩ := h
  obtain rfl : v = Value.ref a := rx
  obtain rfl : u = Value.ref b := ry
  obtain ⟨_, ya, va, ra, da⟩ := (show ObjOk X.prog X.w H s.heap a (.dK es) from ea.ok I.hok)
  obtain ⟨_, yb, vb, rb, db⟩ := (show ObjOk X.prog X.w H s.heap b (.dK fs) from eb.ok I.hok)
  refine PySem.W.keq_ne (knd := mixKind X.prog X.w) ya yb da db (by omega) (fun _ => hitsKV I sm (by show X.A.units + 1 + 60 < cLine; omega) hl rb yl hk ra yk) (fin_bl I q ?_)
  unfold eqvKV
  rw [← ra.length, ← rb.length, ← Paired.len hk, ← Paired.len hl]
  simp
def eqDT (neg : Bool) : AVal → AVal → TTA := fun x y s Q => onSome (dctOf s x) fun ks => onSome (dctOf s y) fun ls => ((∀ p ∈ ks, Lay 60 p.2) ∧ ∀ p ∈ ls, Lay 60 p.2) ∧ Q (eqvKV ks ls != neg) s
theorem o_eqD (hu : X.A.units + 64 < cLine) : OpT X B (compareOp .Eq) (eqDT false) := fun ad F H s σ x y u v Q r hx hy ⟨ks, e1, ls, e2, ⟨y1, y2⟩, q⟩ => by
  obtain ⟨a, es, rfl, h1, h2⟩ := dctOf_ok r hx e1
  obtain ⟨b, fs, rfl, h3, h4⟩ := dctOf_ok r hy e2
  exact ⟨_, _, q, op_eqKV hu, fun K k => ⟨F, a, b, es, fs, ks, ls, rfl, rfl, r.fh, h1, h3, h2, h4, y1, y2, k⟩⟩
theorem o_neD (hu : X.A.units + 64 < cLine) : OpT X B (compareOp .NotEq) (eqDT true) := fun ad F H s σ x y u v Q r hx hy ⟨ks, e1, ls, e2, ⟨y1, y2⟩, q⟩ => by
  obtain ⟨a, es, rfl, h1, h2⟩ := dctOf_ok r hx e1
  obtain ⟨b, fs, rfl, h3, h4⟩ := dctOf_ok r hy e2
  exact ⟨_, _, q, op_neKV hu, fun K k => ⟨F, a, b, es, fs, ks, ls, rfl, rfl, r.fh, h1, h3, h2, h4, y1, y2, k⟩⟩
/-! ### dict of a list of pairs -/
def pairD : PyData → Option (Key × PyData)
  | .tuple [k, d] => (keyOf k).map fun k => (k, d)
  | _ => none
def pairsD : List PyData → Option (List (Key × PyData))
  | [] => some []
  | p :: r => (pairD p).bind fun q => (pairsD r).map (q :: ·)
def mergeA {α : Type} (kvs more : List (Key × α)) : List (Key × α) := more.foldl (fun acc kv => putA acc kv.1 kv.2) kvs
def dictN (xs : List AVal) : TNA := fun s Q => one (fun x => onSome (listOf s x) fun ds => onSome (pairsD ds) fun kvs => Q (.dK (mergeA [] kvs)) s) xs
theorem merge_pair {R : PyData → V → Prop} : ∀ {more : List (Key × PyData)} {fs : List (Key × V)} {kvs : List (Key × PyData)} {es : List (Key × V)}, Paired (fun p q => p.1 = q.1 ∧ R p.2 q.2) more fs → Paired (fun p q => p.1 = q.1 ∧ R p.2 q.2) kvs es → Paired (fun p q => p.1 = q.1 ∧ R p.2 q.2) (mergeA kvs more) (mergeK es fs)
  | _, _, _, _, .nil, h => h
  | _, _, kvs, es, .cons (a := p) (b := q) h1 h2, h => by
    obtain ⟨q1, q2⟩ := q
    have e : p.1 = q1 := h1.1
    subst e
    unfold mergeA mergeK
    rw [List.foldl_cons, List.foldl_cons]
    exact merge_pair h2 (put_pair h h1.2)
theorem pairs_ok : ∀ {ds : List PyData} {vs : List V} {kvs : List (Key × PyData)}, pairsD ds = some kvs → DaAll F ds vs → ∃ (ps : List Addr) (fs : List (Key × V)), vs = ps.map V.ref ∧ KvOk F kvs fs ∧ Paired (fun p kv => F p = some (.tup [kV kv.1, kv.2])) ps fs
  | [], vs, kvs, e, h => by
    cases e
    obtain rfl := (show vs = [] from h)
    exact ⟨[], [], rfl, .nil, .nil⟩
  | d :: ds, vs, kvs, e, h => by
    obtain ⟨v, r, rfl, h1, h2⟩ := (show ∃ v r, vs = v :: r ∧ Da F d v ∧ DaAll F ds r from h)
    have e' : ((pairD d).bind fun q => (pairsD ds).map (q :: ·)) = some kvs := e
    cases hp : pairD d with
    | none => rw [hp] at e'; cases e'
    | some q =>
      rw [hp] at e'
      cases hr : pairsD ds with
      | none => rw [hr] at e'; cases e'
      | some l =>
        rw [hr] at e'
        cases e'
        obtain ⟨ps, fs, rfl, h3, h4⟩ := pairs_ok hr h2
        unfold pairD at hp
        split at hp
        · rename_i k d2
          cases hk : keyOf k with
          | none => rw [hk] at hp; cases hp
          | some k2 =>
            rw [hk] at hp
            cases hp
            obtain ⟨a, xs, rfl, h5, h6⟩ := (show ∃ a xs, v = .ref a ∧ F a = some (.tup xs) ∧ DaAll F [k, d2] xs from h1)
            obtain ⟨v1, r1, rfl, h7, h8⟩ := (show ∃ v r, xs = v :: r ∧ Da F k v ∧ DaAll F [d2] r from h6)
            obtain ⟨v2, r2, rfl, h9, h10⟩ := (show ∃ v r, r1 = v :: r ∧ Da F d2 v ∧ DaAll F [] r from h8)
            obtain rfl := (show r2 = [] from h10)
            have := keyOf_da hk h7
            subst this
            exact ⟨a :: ps, (k2, v2) :: fs, rfl, .cons ⟨rfl, h9⟩ h3, .cons h5 h4⟩
        · cases hp
theorem c_dict (hc : X.calm = true) : CalN X B (.type "dict") dictN := fun ad F H s σ xs us Q r hp t => by
  obtain ⟨x, u, rfl, rfl, hx, ds, e, kvs, ek, q⟩ := one_ok t hp
  obtain ⟨l, vs, rfl, h1, h2⟩ := hx.list r e
  obtain ⟨ps, fs, rfl, h3, h4⟩ := pairs_ok ek h2
  exact ⟨_, call_dictP hc, l, ps, fs, rfl, SqL.of h1, Paired.imp h4 fun p kv h => SqT.of (r.fh _ _ h), fun p hp => .here (c := .dK (mergeA [] kvs)) r hp ⟨_, upd_same, merge_pair (R := Da F) h3 .nil⟩ rfl q⟩
/-- d.clear() -/
def clearD (to : TEA) : TEA := fun s Q => to s fun x s1 => onDct s1 x fun n ds => Q (.d .none) ⟨s1.sl, s1.cs.set n (.dK [])⟩
theorem ea_dclear {o : Expr} {to : TEA} {apos cpos : Pos} (ho : EA X B o to) (hbase : attributeBase o "clear" X.env (eval o X.env) = eval o X.env := by rfl) (hline : (apos.endLine == cpos.line) = true := by rfl) : EA X B (.Call (.Attribute o "clear" apos) [] [] cpos) (clearD to) := ⟨fun ad F H s σ Q r t =>
  we_of (pe_dclear pe_we hbase hline) ((ho.run ad F H s σ _ r t).imp fun u H1 q => by
    obtain ⟨ad1, F1, x, s1, e1, k1, r1, hx, q⟩ := q
    obtain ⟨n, ds, p, es, hc, h1, rfl, h2, h3, q⟩ := onDct_ok r1 hx q
    exact ⟨.inr (.inr (.inl ⟨rfl, .inl ⟨es, h2⟩⟩)), p, es, rfl, rfl, h2, ad1, F1, .d .none, _, e1, k1, r1.put (c := .dK []) h1 hc rfl ⟨[], upd_same, .nil⟩, rfl, q⟩)⟩
/-! ### a tuple that is walked -/
def tupL (s : AS) : AVal → Option (List PyData)
  | .d (.tuple ds) => some ds
  | _ => none
def iterT (ta : TEA) : AS → (List PyData → AS → Prop) → Prop := fun s Q => ta s fun x s1 => onSome (tupL s1 x) fun ds => Q ds s1
theorem WE.szT {e : Expr} {Q : VK} (h : WE X e σ H Q) : WE X e σ H fun v H' => Q v H' ∧ ∀ l vs, H' l = some (.tup vs) → vs.length ≤ sizeLine := fun pins s I => thn (h pins s I) fun u s' ⟨v, H', I', r, k⟩ => ⟨v, H', I', r, k, fun l vs hl => (I'.hok l _ hl).1⟩
theorem walks_tup {F2 : Hp} {ds : List PyData} {l : Addr} {vs : List V} (h1 : F2 l = some (.tup vs)) (h2 : DaAll F2 ds vs) {K : PySem.W.Frag} : Walks (Itt K l) F2 ds := Walks0.w fun F3 H3 s1 s2 => ⟨fun i d e => by
  obtain ⟨v, hv, hd⟩ := h2.get e
  exact ⟨⟨vs, v, SqT.of (s2 _ _ (s1 _ _ h1)), hv⟩, fun x H4 y => ⟨y.1, (getV h2 e (y.2 vs (SqT.of (s2 _ _ (s1 _ _ h1))))).mono s1⟩⟩, vs, SqT.of (s2 _ _ (s1 _ _ h1)), by rw [h2.length]; exact Nat.le_refl _⟩
theorem ia_tup {tg e : Expr} {ta : TEA} (ha : EA X B e ta) : IA X B tg e (iterT ta) := ⟨fun ad F H s σ Q R r t k => wi_of (pi_tup pe_we) ((WE.szT (ha.run ad F H s σ _ r t)).imp fun u H1 q => by
  obtain ⟨⟨ad1, F1, x, s1, e1, k1, r1, hx, ds, ed, q⟩, hz⟩ := q
  unfold tupL at ed
  split at ed
  · cases ed
    obtain ⟨l, vs, rfl, h1, h2⟩ := hx
    have h1' := r1.fh _ _ h1
    exact ⟨l, rfl, ⟨vs, SqT.of h1'⟩, k _ ad1 F1 H1 s1 _ e1 k1 r1 (walks_tup h1 h2) (by rw [← h2.length]; exact hz l vs h1') q⟩
  · cases ed)⟩
/-! ### how they open -/
variable {m n : Nat} {g : TGA} {t : TSA} {D : DA} {kvs : List (Key × PyData)} {ds : List PyData} {od : Obj} {es : List (Key × V)}
theorem tupL_tup : tupL s (.d (.tuple ds)) = some ds := rfl
theorem dctOf_d {d : PyData} : dctOf s (.d d) = dctD d := rfl
theorem dctOf_r : dctOf s (.r n) = s.cs[n]?.bind dkC := rfl
theorem dkC_dK : dkC (.dK kvs) = some kvs := rfl
theorem dkC_dl : dkC (.dl od es kvs) = some kvs := rfl
theorem dkC_fz {d : PyData} : dkC (.fz d) = dctD d := rfl
theorem keysOf_dictD : keysOf (dictD kvs) = some (kvs.map fun p => keyD p.1) := by
  show some ((kvs.map fun p => (keyD p.1, p.2)).map (·.1)) = _
  rw [List.map_map]; rfl
theorem forDV_d {d : PyData} : forDV m g t D s (.d d) = onSome (keysOf d) fun ds => forW m (okG (fun _ => True) g) t D ds s := rfl
theorem forDV_r : forDV m g t D s (.r n) = onSome s.cs[n]? (forDC m n g t D s) := rfl
theorem forDC_dK : forDC m n g t D s (.dK kvs) = (n < m ∧ ∀ od es, forW m (okG (fun s => s.cs[n]? = some (.dl od es kvs)) g) t (D.unl n (.dl od es kvs) (.dK kvs)) (kvs.map fun p => keyD p.1) ⟨s.sl, s.cs.set n (.dl od es kvs)⟩) := rfl
theorem viewC_dl : viewC n (.dl od es kvs) = .dct (dkv kvs) := rfl
end
end Kr

/-! layer A16 -/
namespace Kr
open PySem L2
/-! ## [.. for x in a dict ..] -/
section
variable {X : Cx} {B : Bs} {ad : List Addr} {F H : Hp} {s : AS} {σ : St} {a : Addr} {es : List (Key × V)} {od : Obj}
theorem postN_unlock {Q : Cell → AS → Prop} {v : V} {H2 : Hp} (r : Rl B ad F H s σ) (hr : F a = some (.dK es)) (q : PostN (B.lk F a (.frz od (.dK es))) ad (sw F a (.frz od (.dK es))) σ Q v H2) : H2 a = some (.frz od (.dK es)) ∧ PostN B ad F σ Q v (upd H2 a (.dK es)) := by
  obtain ⟨ad2, F2, c, a2, p, H1, o, h1, h2, r2, rfl, hp, rfl, ok, hl, q⟩ := q
  obtain ⟨e1, e2, e3, e4⟩ := r.unlock hr (.inl rfl) (.inr ⟨od, rfl⟩) r2
  have hpa : p ≠ a := fun z => by subst z; rw [e2] at hp; cases hp
  have hap : a ≠ p := fun z => hpa z.symm
  have e5 : upd H1 p o a = some (.frz od (.dK es)) := by rw [upd_ne hap]; exact e2
  have e6 : upd (upd H1 p o) a (.dK es) = upd (sw H1 a (.dK es)) p o := by
    rw [sw_upd (ne_none e2)]
    funext b
    by_cases hb : b = a
    · subst hb; rw [upd_same, upd_ne hap, upd_same]
    · rw [upd_ne hb]
      by_cases hb2 : b = p
      · subst hb2; rw [upd_same, upd_same]
      · rw [upd_ne hb2, upd_ne hb2, upd_ne hb]
  refine ⟨e5, ad2, _, c, a2, p, sw H1 a (.dK es), o, h1, e3, e4, rfl, sw_none.mpr hp, e6, ?_, hl, q⟩
  have := ok.sw (o := .dK es) (IsDk.rd (.inr ⟨od, rfl⟩) e1) (.inl rfl) (fun _ => hpa) (fun q hq => by rw [live_ads hl] at hq; cases hq)
  rw [sw_upd (ne_none e5)] at this
  exact this
def keysV : AVal → Option (List PyData)
  | .d d => keysOf d
  | _ => none
def iterD (k : Nat) : TIO := fun s Q => onSome (s.sl[k]?.bind id) fun y => onSome (keysV y) fun ds => Q ds (fun _ => True) s
def HiD (X : Cx) (B : Bs) (tg iter : Expr) (ti : TIO) (ad : List Addr) (F H : Hp) (s : AS) (σ : St) : Prop := ∀ (Q : List PyData → (List Cell → Prop) → AS → Prop) (R : It → Hp → Prop), ti s Q → (∀ J ad2 F2 H2 s2 ds ok, Ext ad ad2 → Same F F2 → Rl B ad2 F2 H2 s2 σ → WalksO J ad2 F2 ds ok → ds.length ≤ sizeLine → Q ds ok s2 → R J H2) → WI X tg iter σ H R
theorem hiD {tg : Expr} {k : Nat} {x : Str} {p1 : Pos} {kvs : List (PyData × PyData)} (hN : X.N[k]? = some x) (hv : Vis X.env.scope x) (hd : (x == ("__debug__" : Str)) = false) (hcd : (x == ("__classdict__" : Str)) = false)
    (r : Rl B ad F H s σ) (hσ : σ[k]? = some (some (.ref a))) (hF : F a = some (.frz od (.dK es))) (hk : DaKV F kvs es) (hz : es.length ≤ sizeLine) (hy : s.sl[k]?.bind id = some (.d (.dict kvs))) : HiD X B tg (.Name x p1) (iterD k) ad F H s σ := by
  intro Q R t k
  obtain ⟨y, hy2, ds, hds, q⟩ := t
  rw [hy] at hy2
  cases hy2
  cases hds
  have hl : es.length = (kvs.map (·.1)).length := by rw [List.length_map]; exact daKV_len hk
  refine wi_of (pi_keys (pe_var hN hv hd hcd)) ⟨_, hσ, a, od, rfl, .inl ⟨es, r.fh _ _ hF, k (Itk a od es) ad F H s _ _ (Ext.refl _) (Same.refl _) r (fun B3 ad3 F3 H3 s3 σ3 _ k3 r3 _ => ?_) (by rw [← hl]; exact hz) q⟩⟩
  obtain ⟨w1, w2⟩ := walk_keys (F3 := F3) (r3.fh _ _ (k3 _ _ hF)) hl (fun i d k v => daKV_key hk)
  refine ⟨fun i d e => ⟨(w1 i d e).1, fun x H4 y => ?_⟩, w2⟩
  obtain ⟨rfl, hd⟩ := (w1 i d e).2 x H4 y
  exact ⟨F3, .refl r3.fh, hd⟩
/-- locked or not yet -/
theorem we_dict {k : Nat} {x : Str} {p1 : Pos} {tg e : Expr} {Q : Cell → AS → Prop} (hN : X.N[k]? = some x) (hv : Vis X.env.scope x) (hd : (x == ("__debug__" : Str)) = false) (hcd : (x == ("__classdict__" : Str)) = false) {y : AVal} (hy : s.sl[k]?.bind id = some y) (hds : ∃ ds, (keysV y) = some ds)
    (r : Rl B ad F H s σ) (main : ∀ (F0 H0 F1 H1 : Hp), Rl ⟨B.S, F0, H0, B.T⟩ ad F1 H1 s σ → HiD X ⟨B.S, F0, H0, B.T⟩ tg (.Name x p1) (iterD k) ad F1 H1 s σ → WE X e σ H1 (PostN ⟨B.S, F0, H0, B.T⟩ ad F1 σ Q)) : WE X e σ H (PostN B ad F σ Q) := by
  obtain ⟨ds, hds⟩ := hds
  obtain ⟨v, hv1, hvo⟩ := r.slt k y (slot_some hy)
  cases y with
  | s _ _ => cases hds
  | a _ _ _ => cases hds
  | r _ => cases hds
  | d z =>
    cases z with
    | dict kvs =>
      obtain ⟨a, es, rfl, hr, hkv⟩ := (show ∃ a es, v = .ref a ∧ Rd F a (.dK es) ∧ DaKV F kvs es from hvo)
      intro pins sh I
      have hz : es.length ≤ sizeLine := ((Rd.up r.fh hr).ok I.hok).1
      rcases hr with hr | ⟨od, hr⟩
      · refine we_of (pe_lock pe_we) ⟨a, .dK es, r.fh _ _ hr, trivial, fun od => ?_⟩ pins sh I
        rw [← sw_upd (ne_none (r.fh _ _ hr))]
        have r1 := r.lock (o := .frz od (.dK es)) (.inl hr) (.inr ⟨od, rfl⟩)
        exact (main _ _ _ _ r1 (hiD hN hv hd hcd r1 hv1 (sw_at (ne_none hr)) (DaKV.sw (.inl hr) (.inr ⟨od, rfl⟩) hkv) hz hy)).imp fun v H2 q => postN_unlock r hr q
      · exact main B.F0 B.H0 F H r (hiD hN hv hd hcd r hv1 hr hkv hz hy) pins sh I
    | _ => cases hds
theorem ws_dict {k : Nat} {x : Str} {p1 : Pos} {tg : Expr} {st : Stmt} {D : DA} (hN : X.N[k]? = some x) (hv : Vis X.env.scope x) (hd : (x == ("__debug__" : Str)) = false) (hcd : (x == ("__classdict__" : Str)) = false) {y : AVal} (hy : s.sl[k]?.bind id = some y) (hds : ∃ ds, (keysV y) = some ds)
    (r : Rl B ad F H s σ) (main : ∀ (F0 H0 F1 H1 : Hp), Rl ⟨B.S, F0, H0, B.T⟩ ad F1 H1 s σ → HiD X ⟨B.S, F0, H0, B.T⟩ tg (.Name x p1) (iterD k) ad F1 H1 s σ → WS X st (liftD ⟨B.S, F0, H0, B.T⟩ D) σ H1) : WS X st (liftD B D) σ H := by
  obtain ⟨ds, hds⟩ := hds
  obtain ⟨v, hv1, hvo⟩ := r.slt k y (slot_some hy)
  cases y with
  | s _ _ => cases hds
  | a _ _ _ => cases hds
  | r _ => cases hds
  | d z =>
    cases z with
    | dict kvs =>
      obtain ⟨a, es, rfl, hr, hkv⟩ := (show ∃ a es, v = .ref a ∧ Rd F a (.dK es) ∧ DaKV F kvs es from hvo)
      intro pins sh I
      have hz : es.length ≤ sizeLine := ((Rd.up r.fh hr).ok I.hok).1
      rcases hr with hr | ⟨od, hr⟩
      · refine ws_of (ps_lock ps_ws) ⟨a, .dK es, r.fh _ _ hr, trivial, fun od => ?_⟩ pins sh I
        refine ends_unlock r hr ?_
        rw [← sw_upd (ne_none (r.fh _ _ hr))]
        have r1 := r.lock (o := .frz od (.dK es)) (.inl hr) (.inr ⟨od, rfl⟩)
        exact main _ _ _ _ r1 (hiD hN hv hd hcd r1 hv1 (sw_at (ne_none hr)) (DaKV.sw (.inl hr) (.inr ⟨od, rfl⟩) hkv) hz hy)
      · exact main B.F0 B.H0 F H r (hiD hN hv hd hcd r hv1 hr hkv hz hy) pins sh I
    | _ => cases hds
end
section
variable {X : Cx} {B : Bs} {elt tg c : Expr} {scope : Scope} {pos spos py p1 : Pos} {y x : Str} {g : TGA} {tt : TTA} {te : TEA} {ks : List Nat}
theorem iterD_some {k : Nat} {s : AS} {Q : List PyData → (List Cell → Prop) → AS → Prop} (h : iterD k s Q) : ∃ y, s.sl[k]?.bind id = some y ∧ ∃ ds, (keysV y) = some ds := by
  obtain ⟨y, hy, ds, hds, _⟩ := h
  exact ⟨y, hy, ds, hds⟩
theorem en_lcD (kd : Nat) (own : List (Str × Nat)) (o : LcOk X scope own (.Name x p1)) (hg : ∀ s H0 C cl fp, GT (Blk X scope s H0 C cl fp) tg ks g) (he : ∀ s H0 C cl fp B', EA (Blk X scope s H0 C cl fp) B' elt te) (hk : ∀ k ∈ ks, k ∈ own.map (·.2) := by decide)
    (hN : X.N[kd]? = some x := by rfl) (hv : Vis X.env.scope x := by first | exact Or.inl rfl | exact Or.inr (Or.inl rfl) | exact Or.inr (Or.inr rfl)) (hd : (x == ("__debug__" : Str)) = false := by decide) (hcd : (x == ("__classdict__" : Str)) = false := by decide) :
    EN X B (.ListComp elt [⟨tg, .Name x p1, [], 0⟩] scope pos) (lcN (iterD kd) g yesA te (own.map (·.2))) := ⟨fun ad F H s σ Q r t => by
  obtain ⟨y, hy, hds⟩ := iterD_some t
  refine we_dict (tg := tg) (p1 := p1) hN hv hd hcd hy hds r fun F0 H0 F1 H1 r1 hi => ?_
  exact we_of (pe_lc (g := gB X scope tg) (tt := tYes) (te := eB X scope elt) o.calm o.nd pi_wi (blkOk_by o.ok) (fun s H0 C cl fp => ⟨fun pins s' σ H v u Q I r h => h s H0 C cl fp pins s' u I r⟩) (fun _ _ _ _ _ => pts_nil) (fun s H0 C cl fp => ⟨fun pins s' σ H Q I h => h s H0 C cl fp pins s' I⟩) o.fs)
    (lc_coreB hg hk (fun B' ad F H s σ Q r t => tYes_ok r t) (fun σ H Q Q' h k => k _ _ h) he hi r1 t fun _ _ h => h)⟩
theorem en_lcIfD (kd : Nat) (own : List (Str × Nat)) (o : LcOk X scope own (.Name x p1)) (hg : ∀ s H0 C cl fp, GT (Blk X scope s H0 C cl fp) tg ks g) (ht : ∀ s H0 C cl fp B', ET (Blk X scope s H0 C cl fp) B' c tt) (he : ∀ s H0 C cl fp B', EA (Blk X scope s H0 C cl fp) B' elt te) (hk : ∀ k ∈ ks, k ∈ own.map (·.2) := by decide)
    (hN : X.N[kd]? = some x := by rfl) (hv : Vis X.env.scope x := by first | exact Or.inl rfl | exact Or.inr (Or.inl rfl) | exact Or.inr (Or.inr rfl)) (hd : (x == ("__debug__" : Str)) = false := by decide) (hcd : (x == ("__classdict__" : Str)) = false := by decide) :
    EN X B (.ListComp elt [⟨tg, .Name x p1, [c], 0⟩] scope pos) (lcN (iterD kd) g tt te (own.map (·.2))) := ⟨fun ad F H s σ Q r t => by
  obtain ⟨y, hy, hds⟩ := iterD_some t
  refine we_dict (tg := tg) (p1 := p1) hN hv hd hcd hy hds r fun F0 H0 F1 H1 r1 hi => ?_
  exact we_of (pe_lc (g := gB X scope tg) (tt := tB' X scope c) (te := eB X scope elt) o.calm o.nd pi_wi (blkOk_by o.ok) (fun s H0 C cl fp => ⟨fun pins s' σ H v u Q I r h => h s H0 C cl fp pins s' u I r⟩) (fun s H0 C cl fp => pts_one ⟨fun pins s' σ H Q I h => h s H0 C cl fp pins s' I⟩) (fun s H0 C cl fp => ⟨fun pins s' σ H Q I h => h s H0 C cl fp pins s' I⟩) o.fs)
    (lc_coreB hg hk (fun B' ad F H s σ Q r t s0 H0 C cl fp => (ht s0 H0 C cl fp B').run ad F H s σ Q r t) (fun σ H Q Q' h k s0 H0 C cl fp => (h s0 H0 C cl fp).imp k) he hi r1 t fun _ _ h => h)⟩
theorem sa_setLcIfDF (k kd : Nat) (own : List (Str × Nat)) (o : LcOk X scope own (.Name x p1)) (hg : ∀ s H0 C cl fp, GT (Blk X scope s H0 C cl fp) tg ks g) (ht : ∀ s H0 C cl fp B', ET (Blk X scope s H0 C cl fp) B' c tt) (he : ∀ s H0 C cl fp B', EA (Blk X scope s H0 C cl fp) B' elt te)
    (hk : ∀ k ∈ ks, k ∈ own.map (·.2) := by decide) (hy : X.N[k]? = some y := by rfl) (hyl : X.env.scope.names.lookup y = some .local := by rfl)
    (hsw : swapsWith (.ListComp elt [⟨tg, .Name x p1, [c], 0⟩] scope pos) (some (.Name y py)) spos.line X.env = pure true := by exact sw_true rfl rfl rfl (by decide +kernel))
    (hN : X.N[kd]? = some x := by rfl) (hv : Vis X.env.scope x := by first | exact Or.inl rfl | exact Or.inr (Or.inl rfl) | exact Or.inr (Or.inr rfl)) (hd : (x == ("__debug__" : Str)) = false := by decide) (hcd : (x == ("__classdict__" : Str)) = false := by decide) :
    SA X B (.Assign [.Name y py] (.ListComp elt [⟨tg, .Name x p1, [c], 0⟩] scope pos) spos) (setA k (frzA (lcN (iterD kd) g tt te (own.map (·.2))))) := ⟨fun D s h ad F H σ r => by
  have h' := h
  unfold setA frzA lcN at h'
  obtain ⟨z, hz, hds⟩ := iterD_some h'
  refine ws_dict (tg := tg) (p1 := p1) hN hv hd hcd hz hds r fun F0 H0 F1 H1 r1 hi => ?_
  exact ws_of (ps_setLc (g := gB X scope tg) (tt := tB' X scope c) (te := eB X scope elt) o.calm o.nd hy hyl hsw pi_wi (blkOk_by o.ok) (fun s H0 C cl fp => ⟨fun pins s' σ H v u Q I r h => h s H0 C cl fp pins s' u I r⟩) (fun s H0 C cl fp => pts_one ⟨fun pins s' σ H Q I h => h s H0 C cl fp pins s' I⟩) (fun s H0 C cl fp => ⟨fun pins s' σ H Q I h => h s H0 C cl fp pins s' I⟩) o.fs)
    (lc_coreB (B := ⟨B.S, F0, H0, B.T⟩) (Q := fun c s1 => onSome (frzC c) fun d => D.nx ⟨s1.sl.set k (some (.d d)), s1.cs⟩) hg hk (fun B' ad F H s σ Q r t s0 H0 C cl fp => (ht s0 H0 C cl fp B').run ad F H s σ Q r t) (fun σ H Q Q' h k s0 H0 C cl fp => (h s0 H0 C cl fp).imp k) he hi r1 h fun v H' p => by
      obtain ⟨ad1, F1, y, s1, e1, k1, r1, hv, q⟩ := PostN.frz (Q := fun x s1 => D.nx ⟨s1.sl.set k (some x), s1.cs⟩) p
      exact ⟨ad1, F1, _, r1.set hv, q⟩)⟩
theorem keysV_d {d : PyData} : keysV (.d d) = keysOf d := rfl
end
end Kr

/-! layer A17 -/
namespace Kr
open PySem L2
/-! ## a list handed in is walked, told for good or a cell that stands still -/
def WalksH (B : Bs) (J : It) (F2 : Hp) (ds : List PyData) (ok : AS → Prop) : Prop := ∀ ad3 F3 H3 s3 σ3, Same F2 F3 → Rl B ad3 F3 H3 s3 σ3 → ok s3 →
  (∀ (i : Nat) d, ds[i]? = some d → J.go i H3 ∧ ∀ x H4, J.yld i H3 x H4 → ∃ F4, Gr F3 H3 F4 H4 ∧ Da F4 d x) ∧ J.stop ds.length H3
abbrev TIH := AS → (List PyData → (AS → Prop) → AS → Prop) → Prop
structure IH (X : Cx) (B : Bs) (tg iter : Expr) (t : TIH) : Prop where
  run : ∀ ad F H s σ Q (R : It → Hp → Prop), Rl B ad F H s σ → t s Q → (∀ J ad2 F2 H2 s2 ds ok, Same F F2 → Rl B ad2 F2 H2 s2 σ → WalksH B J F2 ds ok → ds.length ≤ sizeLine → Q ds ok s2 → R J H2) → WI X tg iter σ H R
def DA.okN (D : DA) (ok : AS → Prop) : DA := { D with nx := fun s => ok s ∧ D.nx s }
def forHA (m : Nat) (ti : TIH) (g : TGA) (t : TSA) : TSA := fun D s => ti s fun ds ok s1 => forW m (okG ok g) t (D.okN ok) ds s1
section
variable {X : Cx} {B : Bs} {tg iter : Expr} {body : List Stmt} {t : TSA} {g : TGA} {ks : List Nat} {pos : Pos} {ti : TIH}
theorem sa_forH (hp : PassesOwn (model X.prog X.w) X.A X.env X.xe) (hc : X.calm = true) (hi : IH X B tg iter ti) (hg : GT X tg ks g) (hb : ∀ F, SS X (B.fl F) body t) (hs : ∀ x, foldedSetIterable iter X.env x = pure x := by intro _; rfl) :
    SA X B (.For tg iter body [] pos) (forHA B.S.length ti g t) := ⟨fun D s h ad F H σ r => ws_of (ps_for hp hc pi_wi pg_wg pss_wss hs) (hi.run ad F H s σ _ _ r h fun J ad2 F2 H2 s2 ds ok k2 r2 w hz q => by
  refine ⟨fun i m σ' H' => m = ds.length - i ∧ i ≤ ds.length ∧ ∃ ad' F' s', Same F2 F' ∧ Rl B ad' F' H' s' σ' ∧ forW B.S.length (okG ok g) t (D.okN ok) (ds.drop i) s', ⟨ds.length, by simp, Nat.zero_le _, ad2, F2, s2, Same.refl _, r2, q⟩, ?_⟩
  rintro i m σ' H' ⟨rfl, hi', ad', F', s', s1, r', q'⟩
  by_cases hlt : i < ds.length
  · have e : ds[i]? = some ds[i] := List.getElem?_eq_getElem hlt
    rw [drop_get e] at q'
    obtain ⟨w1, w2⟩ := w ad' F' H' s' σ' s1 r' q'.1
    obtain ⟨go, yl⟩ := w1 i _ e
    refine .inr ⟨go, fun σ3 H3 => ∃ ad3 F3 s3, Same F2 F3 ∧ Rl B ad3 F3 H3 s3 σ3 ∧ forW B.S.length (okG ok g) t (D.okN ok) (ds.drop (i + 1)) s3, fun σ3 H3 p' => ⟨ds.length - (i + 1), by omega, rfl, hlt, p'⟩, fun x H4 y => ?_⟩
    obtain ⟨F4, g4, hd⟩ := yl x H4 y
    have r4 := r'.gr g4
    refine (hg.run B ad' F4 H4 s' σ' (.d ds[i]) x _ r4 hd q'.2).mono2 ?_
    rintro σ5 H5 ⟨rfl, k5, s5, r5, q5⟩
    intro pins sh I
    refine thn ((hb F4).run _ s5 q5 ad' F4 H5 σ5 r5.floor pins sh I) fun f s6 z => ?_
    cases f with
    | next =>
      obtain ⟨σ2, H2, I2, ad2, F2', s2, r2', s3, wk, w3⟩ := z
      obtain ⟨ad9, r9⟩ := (r5.unfloor r2').weakX wk
      exact ⟨σ2, H2, I2, ad9, F2', s3, s1.trans (g4.ff.trans r2'.ff), r9, w3⟩
    | brk =>
      obtain ⟨σ2, H2, I2, ad2, F2', s2, r2', w3⟩ := z
      exact ⟨σ2, H2, I2, ad2, F2', s2, r5.unfloor r2', w3.2⟩
    | cont =>
      obtain ⟨σ2, H2, I2, ad2, F2', s2, r2', s3, wk, w3⟩ := z
      obtain ⟨ad9, r9⟩ := (r5.unfloor r2').weakX wk
      exact ⟨σ2, H2, I2, ad9, F2', s3, s1.trans (g4.ff.trans r2'.ff), r9, w3⟩
    | ret u =>
      obtain ⟨v, σ2, H2, I2, rv, ad2, F2', x2, s2, σ3, r2', hv, w3⟩ := z
      exact ⟨v, σ2, H2, I2, rv, ad2, F2', x2, s2, σ3, r5.unfloor r2', hv, w3⟩
  · have e : i = ds.length := by omega
    subst e
    rw [List.drop_length] at q'
    exact .inl ⟨(w ad' F' H' s' σ' s1 r' q'.1).2, ad', F', s', r', q'.2⟩)⟩
/-- the list a slot holds -/
def ihC (m n : Nat) (f : List PyData → List PyData) (s : AS) (Q : List PyData → (AS → Prop) → AS → Prop) : Cell → Prop
  | .lst ds => n < m ∧ Q (f ds) (fun s => s.cs[n]? = some (.lst ds)) s
  | .fz (.list ds) => Q (f ds) (fun _ => True) s
  | _ => False
def ihV (m : Nat) (f : List PyData → List PyData) (s : AS) (Q : List PyData → (AS → Prop) → AS → Prop) : AVal → Prop
  | .d (.list ds) => Q (f ds) (fun _ => True) s
  | .r n => onSome s.cs[n]? (ihC m n f s Q)
  | _ => False
def iterH (m : Nat) (f : List PyData → List PyData) (ta : TEA) : TIH := fun s Q => ta s fun x s1 => ihV m f s1 Q x
variable {e : Expr} {ta : TEA} {p : Pos}
/-- what is common -/
theorem ihV_ok {f : List PyData → List PyData} {ad : List Addr} {F H : Hp} {s : AS} {σ : St} {x : AVal} {u : V} {Q : List PyData → (AS → Prop) → AS → Prop} (r : Rl B ad F H s σ) (hx : VOk ad F x u) (q : ihV B.S.length f s Q x) :
    ∃ a vs ds ok, u = .ref a ∧ H a = some (.lst vs) ∧ vs.length = ds.length ∧ Q (f ds) ok s ∧ ∀ ad3 F3 H3 s3 σ3, Same F F3 → Rl B ad3 F3 H3 s3 σ3 → ok s3 → ∃ ws, H3 a = some (.lst ws) ∧ DaAll F3 ds ws := by
  have fz : ∀ {ds : List PyData}, Da F (.list ds) u → Q (f ds) (fun _ => True) s → ∃ a vs ds ok, u = .ref a ∧ H a = some (.lst vs) ∧ vs.length = ds.length ∧ Q (f ds) ok s ∧ ∀ ad3 F3 H3 s3 σ3, Same F F3 → Rl B ad3 F3 H3 s3 σ3 → ok s3 → ∃ ws, H3 a = some (.lst ws) ∧ DaAll F3 ds ws := fun {ds} hd q => by
    obtain ⟨l, vs, rfl, h1, h2⟩ := hd
    exact ⟨l, vs, ds, _, rfl, r.fh _ _ h1, h2.length, q, fun ad3 F3 H3 s3 σ3 k3 r3 _ => ⟨vs, r3.fh _ _ (k3 _ _ h1), h2.mono k3⟩⟩
  cases x with
  | s _ _ => exact q.elim
  | a _ _ _ => exact q.elim
  | d y =>
    cases y with
    | list ds => exact fz hx q
    | _ => exact q.elim
  | r n =>
    obtain ⟨c, hc, q⟩ := q
    obtain ⟨a, ha, rfl⟩ := hx
    obtain ⟨n0, l0, ok⟩ := r.cel n a c ha hc
    cases c with
    | lst ds =>
      obtain ⟨vs, h1, h2⟩ := ok
      obtain ⟨hn, q⟩ := q
      refine ⟨a, vs, ds, _, rfl, h1, h2.length, q, fun ad3 F3 H3 s3 σ3 k3 r3 o3 => ?_⟩
      obtain ⟨ad', e1, _⟩ := r.pre
      obtain ⟨ad'', e2, _⟩ := r3.pre
      have h4 : ad3[n]? = some a := by
        rw [e2, List.getElem?_append_left hn]
        rw [e1, List.getElem?_append_left hn] at ha
        exact ha
      obtain ⟨_, _, ws, h5, h6⟩ := r3.cel n a _ h4 o3
      exact ⟨ws, h5, h6⟩
    | fz y =>
      cases y with
      | list ds => exact fz ok q
      | _ => exact q.elim
    | _ => exact q.elim
theorem ih_list (ha : EA X B e ta) : IH X B tg e (iterH B.S.length id ta) := ⟨fun ad F H s σ Q R r t k => wi_of (pi_list pe_we) ((WE.sz (ha.run ad F H s σ _ r t)).imp fun u H1 q => by
  obtain ⟨⟨ad1, F1, x, s1, e1, k1, r1, hx, q⟩, hz⟩ := q
  obtain ⟨a, vs, ds, ok, rfl, h1, hl, q, w⟩ := ihV_ok r1 hx q
  refine ⟨a, rfl, ⟨vs, SqL.of h1⟩, k _ ad1 F1 H1 s1 ds ok k1 r1 (fun ad3 F3 H3 s3 σ3 k3 r3 o3 => ?_) (by rw [← hl]; exact hz a vs h1) q⟩
  obtain ⟨ws, g1, g2⟩ := w ad3 F3 H3 s3 σ3 k3 r3 o3
  exact ⟨fun i d e => by
    obtain ⟨v, hv, hd⟩ := g2.get e
    exact ⟨⟨ws, v, SqL.of g1, hv⟩, fun x H4 y => ⟨F3, by rw [y.1]; exact .refl r3.fh, getV g2 e (y.2 ws (SqL.of g1))⟩⟩, ws, SqL.of g1, by rw [g2.length]; exact Nat.le_refl _⟩)⟩
theorem ih_enum {elts : List Expr} {kk : Nat} {tpos : Pos} (hm : X.mg "enumerate" = none) (ha : EA X B e ta) (hg : Gl X "enumerate" := by rfl) (l : starEach [e] X.env = [(false, eval e X.env)] := by rfl) : IH X B (.Tuple elts kk tpos) (.Call (.Name "enumerate" p) [e] [] pos) (iterH B.S.length enumsD ta) := ⟨fun ad F H s σ Q R r t k =>
  wi_of (pi_enum hg hm (pa_cons pe_we pa_nil l) l) ((WE.sz (ha.run ad F H s σ _ r t)).imp fun u H1 q => by
    obtain ⟨⟨ad1, F1, x, s1, e1, k1, r1, hx, q⟩, hz⟩ := q
    obtain ⟨a, vs, ds, ok, rfl, h1, hl, q, w⟩ := ihV_ok r1 hx q
    refine ⟨a, vs, rfl, SqL.of h1, k _ ad1 F1 H1 s1 _ ok k1 r1 (fun ad3 F3 H3 s3 σ3 k3 r3 o3 => ?_) (by have := hz a vs h1; rw [hl] at this; simpa [enumsD] using this) q⟩
    obtain ⟨ws, g1, g2⟩ := w ad3 F3 H3 s3 σ3 k3 r3 o3
    refine ⟨fun i d e => ?_, ws, SqL.of g1, by simp [enumsD, g2.length]⟩
    unfold enumsD at e
    rw [List.getElem?_mapIdx] at e
    cases hc : ds[i]? with
    | none => rw [hc] at e; simp at e
    | some d0 =>
      rw [hc] at e
      have e' : PyData.tuple [.int (i : Nat), d0] = d := by simpa using e
      subst e'
      obtain ⟨v, hv, hd⟩ := g2.get hc
      refine ⟨⟨ws, v, SqL.of g1, hv⟩, fun x H4 y => ?_⟩
      obtain ⟨T, x0, rfl, nT, rfl, hx⟩ := y
      have hx0 := getV g2 hc (hx ws (SqL.of g1))
      exact ⟨upd F3 T (.tup [.int (i : Nat), x0]), (Gr.refl r3.fh).shut nT, T, _, rfl, upd_same, daAll_cons rfl (daAll_cons (hx0.mono (same_upd (r3.fh.free nT))) daAll_nil)⟩)⟩
variable {m n : Nat} {f : List PyData → List PyData} {s : AS} {Q : List PyData → (AS → Prop) → AS → Prop} {ds : List PyData}
theorem ihV_d : ihV m f s Q (.d (.list ds)) = Q (f ds) (fun _ => True) s := rfl
theorem ihV_r : ihV m f s Q (.r n) = onSome s.cs[n]? (ihC m n f s Q) := rfl
theorem ihC_lst : ihC m n f s Q (.lst ds) = (n < m ∧ Q (f ds) (fun s => s.cs[n]? = some (.lst ds)) s) := rfl
theorem ihC_fz : ihC m n f s Q (.fz (.list ds)) = Q (f ds) (fun _ => True) s := rfl
end
end Kr

/-! layer A18 -/
namespace Kr
open PySem L2
/-! ## trees that change -/
def Tr.put (t : Tr) : List Nat → Tr → Tr
  | [], u => u
  | i :: p, u => match t.at p with
    | some (.nd k a xs) => t.put p (.nd k a (xs.set i u))
    | _ => t
theorem cnt_nd {k : Kd} {a : Addr} {xs : List Tr} (q : Addr) : (Tr.nd k a xs).addrs.count q = (if a = q then 1 else 0) + k.more.count q + (Tr.addrsL xs).count q := by
  show (a :: (k.more ++ Tr.addrsL xs)).count q = _
  rw [List.count_cons, List.count_append]
  simp only [beq_iff_eq]
  omega
theorem cntL_cons {t : Tr} {ts : List Tr} (q : Addr) : (Tr.addrsL (t :: ts)).count q = t.addrs.count q + (Tr.addrsL ts).count q := by
  show (t.addrs ++ Tr.addrsL ts).count q = _
  rw [List.count_append]
theorem cntL_nil (q : Addr) : (Tr.addrsL []).count q = 0 := rfl
theorem cntL_app {ts us : List Tr} (q : Addr) : (Tr.addrsL (ts ++ us)).count q = (Tr.addrsL ts).count q + (Tr.addrsL us).count q := by
  induction ts with
  | nil => simp [Tr.addrsL]
  | cons t ts ih => rw [List.cons_append, cntL_cons, cntL_cons, ih]; omega
theorem cntL_leafs (ds : List PyData) (q : Addr) : (Tr.addrsL (ds.map .d)).count q = 0 := by
  induction ds with
  | nil => rfl
  | cons d ds ih => rw [List.map_cons, cntL_cons, ih]; rfl
theorem addrsL_leafs (ds : List PyData) : Tr.addrsL (ds.map .d) = [] := by
  induction ds with
  | nil => rfl
  | cons d ds ih => show [] ++ _ = _; rw [ih]; rfl
theorem cntL_get {ts : List Tr} {i : Nat} {t : Tr} (h : ts[i]? = some t) (q : Addr) : t.addrs.count q ≤ (Tr.addrsL ts).count q := by
  induction ts generalizing i with
  | nil => simp at h
  | cons u ts ih =>
    rw [cntL_cons]
    cases i with
    | zero => simp at h; subst h; omega
    | succ i => have := ih (i := i) (by simpa using h); omega
theorem cntL_set {ts : List Tr} {i : Nat} {t u : Tr} (h : ts[i]? = some t) (q : Addr) : (Tr.addrsL (ts.set i u)).count q + t.addrs.count q = (Tr.addrsL ts).count q + u.addrs.count q := by
  induction ts generalizing i with
  | nil => simp at h
  | cons w ts ih =>
    cases i with
    | zero => simp at h; subst h; rw [List.set_cons_zero, cntL_cons, cntL_cons]; omega
    | succ i => rw [List.set_cons_succ, cntL_cons, cntL_cons]; have := ih (i := i) (by simpa using h); omega
theorem cntL_erase {ts : List Tr} {i : Nat} {t : Tr} (h : ts[i]? = some t) (q : Addr) : (Tr.addrsL (ts.eraseIdx i)).count q + t.addrs.count q = (Tr.addrsL ts).count q := by
  induction ts generalizing i with
  | nil => simp at h
  | cons w ts ih =>
    cases i with
    | zero => simp at h; subst h; rw [List.eraseIdx_cons_zero, cntL_cons]; omega
    | succ i => rw [List.eraseIdx_cons_succ, cntL_cons, cntL_cons]; have := ih (i := i) (by simpa using h); omega
theorem cntT_at {t : Tr} : ∀ {pt : List Nat} {u : Tr}, t.at pt = some u → ∀ q, u.addrs.count q ≤ t.addrs.count q
  | [], u, e, q => by cases e; exact Nat.le_refl _
  | i :: p, u, e, q => by
    unfold Tr.at at e
    split at e
    · rename_i k a xs hp
      have h1 := cntT_at hp q
      have h2 := cntL_get e q
      rw [cnt_nd] at h1
      omega
    · cases e
theorem cnt_put {t : Tr} : ∀ {pt : List Nat} {u0 u : Tr}, t.at pt = some u0 → ∀ q, (t.put pt u).addrs.count q + u0.addrs.count q = t.addrs.count q + u.addrs.count q
  | [], u0, u, e, q => by cases e; show u.addrs.count q + _ = _; omega
  | i :: p, u0, u, e, q => by
    unfold Tr.at at e
    unfold Tr.put
    split at e
    · rename_i k a xs hp
      try rw [hp]
      have h1 := cnt_put (u := .nd k a (xs.set i u)) hp q
      have h2 := cntL_set (u := u) e q
      rw [cnt_nd, cnt_nd] at h1
      try dsimp only
      omega
    · cases e
theorem root_put {t : Tr} : ∀ {pt : List Nat} {u0 u : Tr}, t.at pt = some u0 → u.root = u0.root → (t.put pt u).root = t.root
  | [], u0, u, e, h => by cases e; exact h
  | i :: p, u0, u, e, h => by
    unfold Tr.at at e
    unfold Tr.put
    split at e
    · rename_i k a xs hp
      try rw [hp]
      exact root_put hp rfl
    · cases e
theorem TrAll.set {F H : Hp} {ts : List Tr} {vs : List V} {i : Nat} {u : Tr} {w : V} (h : TrAll F H ts vs) (hw : vs[i]? = some w) (hu : TrOk F H u w) : TrAll F H (ts.set i u) vs := by
  induction ts generalizing vs i with
  | nil => simpa using h
  | cons t ts ih =>
    obtain ⟨v, r, rfl, h1, h2⟩ := (show ∃ v r, vs = v :: r ∧ TrOk F H t v ∧ TrAll F H ts r from h)
    cases i with
    | zero => simp at hw; subst hw; exact ⟨v, r, rfl, hu, h2⟩
    | succ i => exact ⟨v, r, rfl, h1, ih h2 (by simpa using hw)⟩
theorem TrAll.monoBut {F H H2 : Hp} {ts : List Tr} {vs : List V} {i : Nat} {u : Tr} (h : TrAll F H ts vs) (e : ∀ (j : Nat) (t : Tr), j ≠ i → ts[j]? = some t → ∀ q ∈ t.addrs, ∀ o, H q = some o → H2 q = some o) {w : V} (hw : vs[i]? = some w) (hu : TrOk F H2 u w) : TrAll F H2 (ts.set i u) vs := by
  induction ts generalizing vs i with
  | nil => obtain rfl := (show vs = [] from h); simp at hw
  | cons t ts ih =>
    obtain ⟨v, r, rfl, h1, h2⟩ := (show ∃ v r, vs = v :: r ∧ TrOk F H t v ∧ TrAll F H ts r from h)
    cases i with
    | zero =>
      simp at hw; subst hw
      refine ⟨v, r, rfl, hu, h2.mono (Same.refl _) fun q hq o ho => ?_⟩
      have key : ∀ (us : List Tr) (q : Addr), q ∈ Tr.addrsL us → ∃ (j : Nat) (t : Tr), us[j]? = some t ∧ q ∈ t.addrs := by
        intro us q hq
        induction us with
        | nil => cases hq
        | cons t us ih =>
          rcases List.mem_append.mp (show q ∈ t.addrs ++ Tr.addrsL us from hq) with h | h
          · exact ⟨0, t, rfl, h⟩
          · obtain ⟨j, u, h1, h2⟩ := ih h
            exact ⟨j + 1, u, by simpa using h1, h2⟩
      obtain ⟨j, t', hj, hq'⟩ := key ts q hq
      exact e (j + 1) t' (by omega) (by simpa using hj) q hq' o ho
    | succ i =>
      refine ⟨v, r, rfl, h1.mono (Same.refl _) fun q hq o ho => e 0 t (by omega) rfl q hq o ho, ih h2 (fun j t' hj ht => e (j + 1) t' (by omega) (by simpa using ht)) (by simpa using hw)⟩
theorem TrOk.put {F H H2 : Hp} {t : Tr} {v : V} (h : TrOk F H t v) (nd : ∀ q, t.addrs.count q ≤ 1) : ∀ {pt : List Nat} {u0 u : Tr} {q : Addr}, t.at pt = some u0 → u0.root = some q → u.root = some q → TrOk F H2 u (.ref q) → (∀ b o, b ∉ u0.addrs → H b = some o → H2 b = some o) → TrOk F H2 (t.put pt u) v
  | [], u0, u, q, e, h0, h1, hu, hH => by
    cases e
    cases t with
    | d _ => cases h0
    | nd k a xs => cases h0; rw [h.node.1]; exact hu
  | i :: p, u0, u, q, e, h0, h1, hu, hH => by
    unfold Tr.at at e
    unfold Tr.put
    split at e
    · rename_i k a xs hp
      try rw [hp]
      obtain ⟨w, hw⟩ := h.at hp
      obtain ⟨_, vs, g1, g2, g3⟩ := hw.node
      obtain ⟨z, hz, hz2⟩ := g3.get e
      have hzq : z = .ref q := by
        cases u0 with
        | d _ => cases h0
        | nd k0 a0 xs0 => cases h0; exact hz2.node.1
      subst hzq
      have ndn : ∀ b, (Tr.nd k a xs).addrs.count b ≤ 1 := fun b => Nat.le_trans (cntT_at hp b) (nd b)
      have off : ∀ b, b ∈ u0.addrs → (if a = b then 1 else 0) + k.more.count b = 0 ∧ (Tr.addrsL xs).count b = u0.addrs.count b := fun b hb => by
        have c1 := ndn b
        rw [cnt_nd] at c1
        have c2 := cntL_get e b
        have c3 := List.count_pos_iff.mpr hb
        omega
      have ha : a ∉ u0.addrs := fun z => by have := (off a z).1; simp at this
      refine h.put nd hp rfl rfl (TrOk.of (vs := vs) (hH a _ ha g1) ?_ ?_) fun b o hb ho => hH b o (fun z => hb ?_) ho
      · rw [List.length_set]
        refine Kd.side_mono (F := F) g2 fun b hb o ho => hH b o (fun z => ?_) ho
        have := (off b z).1
        have c := List.count_pos_iff.mpr hb
        omega
      · refine g3.monoBut (fun j t' hj ht b hb o ho => hH b o (fun z => ?_) ho) hz hu
        have c1 := (off b z).2
        have c2 := cntL_set (u := .d .none) e b
        have c3 := cntL_get (ts := xs.set i (.d .none)) (i := j) (t := t') (by rw [List.getElem?_set_ne (fun z => hj z.symm)]; exact ht) b
        have c4 := List.count_pos_iff.mpr hb
        have c5 : (Tr.d .none).addrs.count b = 0 := rfl
        omega
      · have c2 := cntL_get e b
        have c3 := List.count_pos_iff.mpr z
        refine List.count_pos_iff.mp ?_
        rw [cnt_nd]
        omega
    · cases e
theorem flat_count_set {cs : List Cell} {n : Nat} {c d : Cell} (h : cs[n]? = some c) (q : Addr) : ((cs.set n d).flatMap Cell.ads).count q + c.ads.count q = (cs.flatMap Cell.ads).count q + d.ads.count q := by
  induction cs generalizing n with
  | nil => simp at h
  | cons e cs ih =>
    cases n with
    | zero => simp at h; subst h; rw [List.set_cons_zero, List.flatMap_cons, List.flatMap_cons, List.count_append, List.count_append]; omega
    | succ n => rw [List.set_cons_succ, List.flatMap_cons, List.flatMap_cons, List.count_append, List.count_append]; have := ih (n := n) (by simpa using h); omega
theorem flat_count_get {cs : List Cell} {n : Nat} {c : Cell} (h : cs[n]? = some c) (q : Addr) : c.ads.count q ≤ (cs.flatMap Cell.ads).count q := by
  have := flat_count_set (d := .gone) h q
  have e : (Cell.gone).ads.count q = 0 := rfl
  omega
/-- trees that stand in no cell -/
structure Loose (B : Bs) (ad : List Addr) (F H : Hp) (cs : List Cell) (ls : List Tr) : Prop where
  cnt : ∀ q, (Tr.addrsL ls).count q + (cs.flatMap Cell.ads).count q ≤ 1
  off : ∀ q ∈ Tr.addrsL ls, ∀ i : Nat, ad[i]? = some q → cs[i]? = some Cell.gone
  fr : ∀ q ∈ Tr.addrsL ls, F q = none ∧ H q ≠ none
  own : ∀ q ∈ Tr.addrsL ls, q ∈ B.S ∨ q ∈ B.T ∨ B.H0 q = none
section
variable {B : Bs} {ad : List Addr} {F H : Hp} {s : AS} {σ : St} {x : AVal} {v : V} {n : Nat} {pt : List Nat} {k k' : Kd} {q p : Addr} {xs ys ls : List Tr} {t : Tr} {vs ws : List V} {cs : List Cell}
theorem nodup_cnt {l : List Addr} : l.Nodup ↔ ∀ q, l.count q ≤ 1 := List.nodup_iff_count
theorem Loose.nil (r : Rl B ad F H s σ) : Loose B ad F H s.cs [] := ⟨fun q => by rw [cntL_nil]; have := nodup_cnt.mp r.inn.nd q; omega, (fun _ h => nomatch h), (fun _ h => nomatch h), (fun _ h => nomatch h)⟩
theorem NodeAt.mem (N : NodeAt ad F H s v n pt k q xs t p vs) : q ∈ t.addrs := by
  have := cntT_at N.here q
  rw [cnt_nd, if_pos rfl] at this
  exact List.count_pos_iff.mp (by omega)
theorem side_upd {o : HO} {m : Nat} (h : k'.side H q m) (hm : q ∉ k'.more) : k'.side (upd H q o) q m := by
  cases k' with
  | obj C dx fs => exact ⟨by rw [upd_ne (fun z => hm (by simp [Kd.more, z]))]; exact h.1, h.2⟩
  | _ => exact h
/-- a node of a tree changes; loose trees go into it -/
theorem Rl.mutT (r : Rl B ad F H s σ) (L : Loose B ad F H s.cs ls) (N : NodeAt ad F H s v n pt k q xs t p vs) (hm : k'.more = k.more) (hc : ∀ b, (Tr.addrsL ys).count b ≤ (Tr.addrsL xs).count b + (Tr.addrsL ls).count b) (hw : TrAll F H ys ws) (hs : k'.side H q ys.length) :
    Rl B ad F (upd H q (k'.ho ws)) ⟨s.sl, s.cs.set n (.tr (t.put pt (.nd k' q ys)))⟩ σ := by
  have hqt := N.mem
  have hqc : q ∈ s.cs.flatMap Cell.ads := mem_ads N.cell hqt
  have tot := fun b => nodup_cnt.mp r.inn.nd b
  have tcnt : ∀ b, t.addrs.count b ≤ (s.cs.flatMap Cell.ads).count b := fun b => flat_count_get N.cell b
  have ndt : ∀ b, t.addrs.count b ≤ 1 := fun b => Nat.le_trans (tcnt b) (tot b)
  have ndn : ∀ b, (Tr.nd k q xs).addrs.count b ≤ 1 := fun b => Nat.le_trans (cntT_at N.here b) (ndt b)
  have hq1 : 1 ≤ (s.cs.flatMap Cell.ads).count q := List.count_pos_iff.mpr hqc
  have hql := L.cnt q
  have hqn := ndn q
  rw [cnt_nd, if_pos rfl] at hqn
  have hqy : q ∉ Tr.addrsL ys := fun z => by
    have := List.count_pos_iff.mpr z
    have := hc q
    omega
  have hqm : q ∉ k'.more := fun z => by
    rw [hm] at z
    have := List.count_pos_iff.mpr z
    omega
  obtain ⟨hFq, hHq⟩ := r.inn.fr q hqc
  have up : ∀ b, b ≠ q → upd H q (k'.ho ws) b = H b := fun b hb => upd_ne hb
  have cput : ∀ b, (t.put pt (.nd k' q ys)).addrs.count b ≤ t.addrs.count b + (Tr.addrsL ls).count b := fun b => by
    have h1 := cnt_put (u := .nd k' q ys) N.here b
    rw [cnt_nd, cnt_nd, hm] at h1
    have := hc b
    omega
  have hu : TrOk F (upd H q (k'.ho ws)) (.nd k' q ys) (.ref q) := TrOk.of upd_same (side_upd hs hqm) (hw.mono (Same.refl _) fun b hb o ho => by rw [up b (fun z => hqy (z ▸ hb))]; exact ho)
  have htree : TrOk F (upd H q (k'.ho ws)) (t.put pt (.nd k' q ys)) (.ref p) := N.tree.put ndt N.here rfl rfl hu fun b o hb ho => by
    rw [up b (fun z => hb (z ▸ List.mem_cons_self ..))]; exact ho
  have hroot : (t.put pt (.nd k' q ys)).root = some p := by
    rw [root_put (u := .nd k' q ys) N.here rfl]
    exact (r.cel n p _ N.root N.cell).2.2.1
  have hnl : n < s.cs.length := (List.getElem?_eq_some_iff.mp N.cell).1
  have memN : ∀ b, b ∈ (s.cs.set n (.tr (t.put pt (.nd k' q ys)))).flatMap Cell.ads → b ∈ s.cs.flatMap Cell.ads ∨ b ∈ Tr.addrsL ls := fun b hb => by
    have h1 := flat_count_set (d := .tr (t.put pt (.nd k' q ys))) N.cell b
    have h2 := cput b
    have h3 := List.count_pos_iff.mpr hb
    have h4 : (Cell.tr (t.put pt (.nd k' q ys))).ads = (t.put pt (.nd k' q ys)).addrs := rfl
    have h5 : (Cell.tr t).ads = t.addrs := rfl
    rw [h4, h5] at h1
    by_cases h6 : 0 < (s.cs.flatMap Cell.ads).count b
    · exact .inl (List.count_pos_iff.mp h6)
    · have := tcnt b
      exact .inr (List.count_pos_iff.mp (by omega))
  have inn : Inn B ad F (upd H q (k'.ho ws)) (s.cs.set n (.tr (t.put pt (.nd k' q ys)))) := by
    refine ⟨nodup_cnt.mpr fun b => ?_, fun b hb i hi => ?_, fun b hb => ?_, fun b hb => (memN b hb).elim (r.inn.own b) (L.own b), r.inn.old⟩
    · have h1 := flat_count_set (d := .tr (t.put pt (.nd k' q ys))) N.cell b
      have h2 := cput b
      have h3 := L.cnt b
      have h4 : (Cell.tr (t.put pt (.nd k' q ys))).ads = (t.put pt (.nd k' q ys)).addrs := rfl
      have h5 : (Cell.tr t).ads = t.addrs := rfl
      rw [h4, h5] at h1
      omega
    · by_cases hin : i = n
      · subst hin
        rw [N.root] at hi
        cases hi
        exact .inr ⟨_, List.getElem?_set_self hnl, hroot⟩
      · rw [List.getElem?_set_ne (fun z => hin z.symm)]
        rcases memN b hb with hb | hb
        · exact r.inn.off b hb i hi
        · exact .inl (L.off b hb i hi)
    · have : F b = none ∧ H b ≠ none := (memN b hb).elim (r.inn.fr b) (L.fr b)
      refine ⟨this.1, ?_⟩
      by_cases hbq : b = q
      · subst hbq; exact ne_none upd_same
      · rw [up b hbq]; exact this.2
  refine ⟨r.ff, same_mut r.fh hFq, fun b o hb ht e => ?_, fun b hb => ?_, r.new, r.pre, r.nd, by show ad.length = (s.cs.set n _).length; rw [List.length_set]; exact r.len, fun i b c h1 h2 => ?_, r.sln, r.slt, inn⟩
  · rw [up b (fun z => by
      subst z
      rcases r.inn.own b hqc with z | z | z
      · exact hb z
      · exact ht z
      · rw [z] at e; cases e)]
    exact r.hh b o hb ht e
  · by_cases hbq : b = q
    · subst hbq; exact ne_none upd_same
    · rw [up b hbq]; exact r.al b hb
  · by_cases hin : i = n
    · subst hin
      have h2 : (s.cs.set i (.tr (t.put pt (.nd k' q ys))))[i]? = some c := h2
      rw [List.getElem?_set_self hnl] at h2
      cases h2
      rw [N.root] at h1
      cases h1
      refine ⟨?_, (fun z => nomatch z), hroot, htree⟩
      by_cases hbq : p = q
      · subst hbq; exact ne_none upd_same
      · rw [up p hbq]; exact r.mem (List.mem_of_getElem? N.root)
    · have g2 : (s.cs.set n (.tr (t.put pt (.nd k' q ys))))[i]? = some c := h2
      rw [List.getElem?_set_ne (fun z => hin z.symm)] at g2
      obtain ⟨n0, l, ok⟩ := r.cel i b c h1 g2
      have n0' : upd H q (k'.ho ws) b ≠ none := by
        by_cases hbq : b = q
        · subst hbq; exact ne_none upd_same
        · rw [up b hbq]; exact n0
      by_cases hbq : b = q
      · subst hbq
        rcases r.inn.off b hqc i h1 with e | ⟨t', e, er⟩
        · rw [g2] at e; cases e
          exact ⟨n0', (fun z => nomatch z), trivial⟩
        · exfalso
          have hm2 : b ∈ (Cell.tr t').ads := by
            cases t' with
            | d _ => cases er
            | nd _ _ _ => cases er; exact List.mem_cons_self ..
          exact hin ((flat_nd.mp r.inn.nd).2 i n _ _ b e N.cell hm2 hqt)
      · refine ⟨n0', l, ok.mono (Ext.refl _) (Same.refl _) (fun o ho => by rw [up b hbq]; exact ho) fun b' hb' o ho => ?_⟩
        rw [up b' (fun z => by
          subst z
          exact hin ((flat_nd.mp r.inn.nd).2 i n _ _ b' g2 N.cell hb' hqt))]
        exact ho
/-- a new node of loose trees -/
theorem Rl.newT (r : Rl B ad F H s σ) (L : Loose B ad F H s.cs ls) (hp : H p = none) (hm : k.more = []) (hw : TrAll F H ls ws) (hs : k.side H p ls.length) : Rl B (ad ++ [p]) F (upd H p (k.ho ws)) ⟨s.sl, s.cs ++ [.tr (.nd k p ls)]⟩ σ := by
  obtain ⟨f1, f2, f3⟩ := r.fresh hp
  have f4 : p ∉ s.cs.flatMap Cell.ads := fun z => (r.inn.fr p z).2 hp
  have f5 : p ∉ Tr.addrsL ls := fun z => (L.fr p z).2 hp
  have hFp : F p = none := r.fh.free hp
  have up : ∀ b, b ≠ p → upd H p (k.ho ws) b = H b := fun b hb => upd_ne hb
  have hads : (s.cs ++ [Cell.tr (.nd k p ls)]).flatMap Cell.ads = s.cs.flatMap Cell.ads ++ p :: Tr.addrsL ls := by
    rw [List.flatMap_append]
    show _ ++ ((p :: (k.more ++ Tr.addrsL ls)) ++ []) = _
    rw [hm, List.append_nil]; rfl
  have memN : ∀ b, b ∈ (s.cs ++ [Cell.tr (.nd k p ls)]).flatMap Cell.ads → b = p ∨ b ∈ s.cs.flatMap Cell.ads ∨ b ∈ Tr.addrsL ls := fun b hb => by
    rw [hads] at hb
    rcases List.mem_append.mp hb with hb | hb
    · exact .inr (.inl hb)
    · rcases List.mem_cons.mp hb with hb | hb
      · exact .inl hb
      · exact .inr (.inr hb)
  have hlen := r.len
  have inn : Inn B (ad ++ [p]) F (upd H p (k.ho ws)) (s.cs ++ [.tr (.nd k p ls)]) := by
    refine ⟨nodup_cnt.mpr fun b => ?_, fun b hb i hi => ?_, fun b hb => ?_, fun b hb => ?_, r.inn.old⟩
    · rw [hads, List.count_append, List.count_cons]
      have := L.cnt b
      by_cases e : p = b
      · subst e
        have h1 := List.count_eq_zero.mpr f4
        have h2 := List.count_eq_zero.mpr f5
        simp [h1, h2]
      · simp [e]; omega
    · by_cases hil : i < ad.length
      · rw [List.getElem?_append_left hil] at hi
        rw [List.getElem?_append_left (by omega)]
        rcases memN b hb with rfl | hb | hb
        · exact absurd (List.mem_of_getElem? hi) f3
        · exact r.inn.off b hb i hi
        · exact .inl (L.off b hb i hi)
      · have hi2 : i = ad.length := by
          have := (List.getElem?_eq_some_iff.mp hi).1
          simp at this; omega
        subst hi2
        rw [List.getElem?_append_right (Nat.le_refl _)] at hi
        have e : b = p := by have := List.mem_of_getElem? hi; simpa using this
        subst e
        exact .inr ⟨.nd k b ls, by rw [hlen, List.getElem?_append_right (Nat.le_refl _)]; simp, rfl⟩
    · by_cases e : b = p
      · subst e; exact ⟨hFp, ne_none upd_same⟩
      · have : F b = none ∧ H b ≠ none := (memN b hb).elim (fun z => absurd z e) fun h => h.elim (r.inn.fr b) (L.fr b)
        exact ⟨this.1, by rw [up b e]; exact this.2⟩
    · rcases memN b hb with rfl | hb | hb
      · exact .inr (.inr f1)
      · exact r.inn.own b hb
      · exact L.own b hb
  refine ⟨r.ff, same_mut r.fh hFp, fun b u hb ht e => ?_, fun b hb => ?_, r.new, ?_, ?_, by show (ad ++ [p]).length = (s.cs ++ [_]).length; simp [hlen], fun i b c h1 h2 => ?_, r.sln, fun k x hx => ?_, inn⟩
  · rw [up b (ne_of_none e f1)]; exact r.hh b u hb ht e
  · rw [up b (fun z => r.al b hb (z ▸ hp))]; exact r.al b hb
  · obtain ⟨ad', e, h1⟩ := r.pre
    refine ⟨ad' ++ [p], by rw [e]; simp, fun b hb => ?_⟩
    rcases List.mem_append.mp hb with hb | hb
    · exact h1 b hb
    · rw [List.mem_singleton] at hb; subst hb; exact f1
  · rw [List.nodup_append]
    exact ⟨r.nd, List.nodup_cons.mpr ⟨(fun z => nomatch z), List.nodup_nil⟩, fun b hb q hq e => by
      rw [List.mem_singleton] at hq; subst hq; subst e; exact f3 hb⟩
  · by_cases hi : i < ad.length
    · rw [List.getElem?_append_left hi] at h1
      have h2 : (s.cs ++ [Cell.tr (.nd k p ls)])[i]? = some c := h2
      rw [List.getElem?_append_left (by omega)] at h2
      obtain ⟨n0, l, ok⟩ := r.cel i b c h1 h2
      have hb : b ≠ p := fun z => by subst z; exact n0 hp
      exact ⟨by rw [up b hb]; exact n0, l, ok.mono ⟨[p], rfl⟩ (Same.refl _) (fun o' e => by rw [up b hb]; exact e) fun b' hb' o ho => by rw [up b' (fun z => f4 (z ▸ mem_ads h2 hb'))]; exact ho⟩
    · have hi2 : i = ad.length := by
        have := (List.getElem?_eq_some_iff.mp h1).1
        simp at this; omega
      subst hi2
      rw [List.getElem?_append_right (Nat.le_refl _)] at h1
      have h2 : (s.cs ++ [Cell.tr (.nd k p ls)])[ad.length]? = some c := h2
      rw [List.getElem?_append_right (by omega)] at h2
      have e1 : p = b := by simpa using h1
      have e2 : Cell.tr (.nd k p ls) = c := by simpa [hlen] using h2
      subst e1; subst e2
      refine ⟨ne_none upd_same, (fun z => nomatch z), rfl, TrOk.of upd_same (side_upd hs (by rw [hm]; exact fun z => nomatch z)) (hw.mono (Same.refl _) fun b hb o ho => ?_)⟩
      rw [up b (fun z => f5 (z ▸ hb))]; exact ho
  · obtain ⟨v, h1, h2⟩ := r.slt k x hx
    exact ⟨v, h1, h2.mono ⟨[p], rfl⟩ (Same.refl _)⟩
end
end Kr

/-! layer A19 -/
namespace Kr
open PySem L2
/-! ## cells that go into trees -/
def grabC (f : Nat → Addr) (cs : List Cell) (j : Nat) : Cell → Option (Tr × List Cell)
  | .tr t => some (t, cs.set j .gone)
  | .lst ds => some (.nd .lst (f j) (ds.map .d), cs.set j .gone)
  | .dK kvs => some (.nd (.dct (kvs.map (·.1))) (f j) (kvs.map fun p => .d p.2), cs.set j .gone)
  | .fz x => some (.d x, cs)
  | _ => none
def grab (f : Nat → Addr) (cs : List Cell) : AVal → Option (Tr × List Cell)
  | .d x => some (.d x, cs)
  | .r j => (cs[j]?).bind (grabC f cs j)
  | _ => none
def grabs (f : Nat → Addr) : List Cell → List AVal → Option (List Tr × List Cell)
  | cs, [] => some ([], cs)
  | cs, x :: xs => (grab f cs x).bind fun r => (grabs f r.2 xs).map fun q => (r.1 :: q.1, q.2)
def AdF (ad : List Addr) (f : Nat → Addr) : Prop := ∀ (i : Nat) p, ad[i]? = some p → f i = p
theorem adF (ad : List Addr) : AdF ad (fun i => (ad[i]?).getD 0) := fun i p h => by show (ad[i]?).getD 0 = p; rw [h]; rfl
section
variable {B : Bs} {ad : List Addr} {F H : Hp} {s : AS} {σ : St} {x : AVal} {v : V} {n j : Nat} {pt : List Nat} {k k' : Kd} {q p : Addr} {xs ys ls ts : List Tr} {t : Tr} {vs ws : List V} {cs cs2 : List Cell} {c : Cell} {f : Nat → Addr} {sl : List (Option AVal)}
theorem Rl.dropC (r : Rl B ad F H ⟨sl, cs⟩ σ) (j : Nat) : Rl B ad F H ⟨sl, cs.set j .gone⟩ σ := by
  have sub : ∀ b, b ∈ (cs.set j .gone).flatMap Cell.ads → b ∈ cs.flatMap Cell.ads := fun b hb => (flat_set (c := .gone) rfl).subset hb
  refine ⟨r.ff, r.fh, r.hh, r.al, r.new, r.pre, r.nd, by show ad.length = (cs.set j .gone).length; rw [List.length_set]; exact r.len, fun i p c h1 h2 => ?_, r.sln, r.slt, ⟨r.inn.nd.sublist (flat_set rfl), fun b hb i hi => ?_, fun b hb => r.inn.fr b (sub b hb), fun b hb => r.inn.own b (sub b hb), r.inn.old⟩⟩
  · have h2 : (cs.set j .gone)[i]? = some c := h2
    by_cases e : i = j
    · subst e
      have hl : i < cs.length := by
        have := (List.getElem?_eq_some_iff.mp h2).1
        simpa using this
      rw [List.getElem?_set_self hl] at h2
      cases h2
      exact ⟨r.mem (List.mem_of_getElem? h1), (fun z => nomatch z), trivial⟩
    · rw [List.getElem?_set_ne (fun z => e z.symm)] at h2
      exact r.cel i p c h1 h2
  · by_cases e : i = j
    · subst e
      have hl : i < cs.length := by
        have := (List.getElem?_eq_some_iff.mp hi).1
        have := r.len
        simp only at this
        omega
      exact .inl (List.getElem?_set_self hl)
    · rw [List.getElem?_set_ne (fun z => e z.symm)]
      exact r.inn.off b (sub b hb) i hi
theorem gone_set (h : cs[n]? = some .gone) : (cs.set j .gone)[n]? = some .gone := by
  by_cases e : n = j
  · subst e; exact List.getElem?_set_self (List.getElem?_eq_some_iff.mp h).1
  · rw [List.getElem?_set_ne (fun z => e z.symm)]; exact h
theorem trAll_leafs {ds : List PyData} (h : DaAll F ds vs) : TrAll F H (ds.map .d) vs := by
  induction ds generalizing vs with
  | nil => exact h
  | cons d ds ih =>
    obtain ⟨v, r, rfl, h1, h2⟩ := (show ∃ v r, vs = v :: r ∧ Da F d v ∧ DaAll F ds r from h)
    exact ⟨v, r, rfl, h1, ih h2⟩
theorem kv_zip {kvs : List (Key × PyData)} {es : List (Key × V)} (h : KvOk F kvs es) : es = (kvs.map (·.1)).zip (es.map (·.2)) ∧ TrAll F H (kvs.map fun p => .d p.2) (es.map (·.2)) := by
  unfold KvOk at h
  induction h with
  | nil => exact ⟨rfl, rfl⟩
  | cons h t ih =>
    rename_i a b l1 l2
    refine ⟨?_, b.2, l2.map (·.2), rfl, h.2, ih.2⟩
    show b :: l2 = (a.1, b.2) :: (l1.map (·.1)).zip (l2.map (·.2))
    rw [← ih.1, h.1]
theorem grabC_ok (r : Rl B ad F H ⟨sl, cs⟩ σ) (L : Loose B ad F H cs ls) (hf : AdF ad f) (hp : ad[j]? = some p) (hc : cs[j]? = some c) (e : grabC f cs j c = some (t, cs2)) : Rl B ad F H ⟨sl, cs2⟩ σ ∧ Loose B ad F H cs2 (ls ++ [t]) ∧ TrOk F H t (.ref p) := by
  obtain ⟨n0, l, ok⟩ := r.cel j p c hp hc
  have hfj := hf j p hp
  have one : ∀ (k : Kd) (ts : List Tr), Tr.addrsL ts = [] → k.more = [] → c.live = true → t = .nd k (f j) ts → cs2 = cs.set j .gone → TrOk F H t (.ref p) → Rl B ad F H ⟨sl, cs2⟩ σ ∧ Loose B ad F H cs2 (ls ++ [t]) ∧ TrOk F H t (.ref p) := by
    intro k ts h0 hm hl et e2 ht
    subst e2
    have hads : t.addrs = [p] := by
      subst et
      show f j :: (k.more ++ Tr.addrsL ts) = _
      rw [h0, hm, hfj]; rfl
    have hca : c.ads = [] := live_ads hl
    have hpc : p ∉ cs.flatMap Cell.ads := fun z => by
      rcases r.inn.off p z j hp with e | ⟨t', e, _⟩
      · have e : cs[j]? = some .gone := e
        rw [hc] at e; cases e; cases hl
      · have e : cs[j]? = some (.tr t') := e
        rw [hc] at e; cases e; cases hl
    have hpl : p ∉ Tr.addrsL ls := fun z => by
      have e := L.off p z j hp
      rw [hc] at e; cases e; cases hl
    have hLa : ∀ b, b ∈ Tr.addrsL (ls ++ [t]) → b ∈ Tr.addrsL ls ∨ b = p := fun b hb => by
      have h1 := List.count_pos_iff.mpr hb
      rw [cntL_app, cntL_cons, cntL_nil, hads] at h1
      by_cases h2 : 0 < (Tr.addrsL ls).count b
      · exact .inl (List.count_pos_iff.mp h2)
      · refine .inr ?_
        have : 0 < [p].count b := by omega
        simpa using List.count_pos_iff.mp this
    refine ⟨r.dropC j, ⟨fun b => ?_, fun b hb i hi => ?_, fun b hb => ?_, fun b hb => ?_⟩, ht⟩
    · have h1 := flat_count_set (d := .gone) hc b
      have h2 := L.cnt b
      have h3 : (Cell.gone).ads.count b = 0 := rfl
      rw [hca] at h1
      have h4 : ([] : List Addr).count b = 0 := rfl
      rw [cntL_app, cntL_cons, cntL_nil, hads]
      by_cases e : p = b
      · subst e
        have := List.count_eq_zero.mpr hpc
        have := List.count_eq_zero.mpr hpl
        simp
        omega
      · have : [p].count b = 0 := List.count_eq_zero.mpr (by simpa using fun z => e z.symm)
        omega
    · rcases hLa b hb with hb | hb
      · exact gone_set (L.off b hb i hi)
      · subst hb
        have := nodup_get r.nd hi hp
        subst this
        exact List.getElem?_set_self (List.getElem?_eq_some_iff.mp hc).1
    · rcases hLa b hb with hb | hb
      · exact L.fr b hb
      · subst hb; exact ⟨l hl, n0⟩
    · rcases hLa b hb with hb | hb
      · exact L.own b hb
      · subst hb; exact (r.inS (List.mem_of_getElem? hp)).elim .inl fun z => .inr (.inr z)
  cases c with
  | lst ds =>
    cases e
    obtain ⟨vs, h1, h2⟩ := ok
    exact one .lst _ (addrsL_leafs ds) rfl rfl rfl rfl (by rw [hfj]; exact TrOk.of h1 trivial (trAll_leafs h2))
  | dK kvs =>
    cases e
    obtain ⟨es, h1, h2⟩ := ok
    obtain ⟨z1, z2⟩ := kv_zip (H := H) h2
    have hz : Tr.addrsL (kvs.map fun p => Tr.d p.2) = [] := by
      have := addrsL_leafs (kvs.map (·.2))
      rw [List.map_map] at this
      exact this
    have h1' : H p = some ((Kd.dct (kvs.map (·.1))).ho (es.map (·.2))) := by
      show H p = some (.dK ((kvs.map (·.1)).zip (es.map (·.2))))
      rw [← z1]; exact h1
    exact one (.dct _) _ hz rfl rfl rfl rfl (by rw [hfj]; exact TrOk.of (vs := es.map (·.2)) h1' (by show (kvs.map (·.1)).length = (kvs.map _).length; simp) z2)
  | fz y =>
    cases e
    refine ⟨r, ⟨fun b => ?_, fun b hb => ?_, fun b hb => ?_, fun b hb => ?_⟩, ok⟩
    · rw [cntL_app, cntL_cons, cntL_nil]; have := L.cnt b; have : (Tr.d y).addrs.count b = 0 := rfl; omega
    all_goals
      have hb : b ∈ Tr.addrsL ls := by
        have h1 := List.count_pos_iff.mpr hb
        rw [cntL_app, cntL_cons, cntL_nil] at h1
        have : (Tr.d y).addrs.count b = 0 := rfl
        exact List.count_pos_iff.mp (by omega)
    · exact L.off b hb
    · exact L.fr b hb
    · exact L.own b hb
  | tr t' =>
    cases e
    obtain ⟨hr, ht⟩ := ok
    have hLa : ∀ b, b ∈ Tr.addrsL (ls ++ [t]) → b ∈ Tr.addrsL ls ∨ b ∈ t.addrs := fun b hb => by
      have h1 := List.count_pos_iff.mpr hb
      rw [cntL_app, cntL_cons, cntL_nil] at h1
      by_cases h2 : 0 < (Tr.addrsL ls).count b
      · exact .inl (List.count_pos_iff.mp h2)
      · exact .inr (List.count_pos_iff.mp (by omega))
    refine ⟨r.dropC j, ⟨fun b => ?_, fun b hb i hi => ?_, fun b hb => ?_, fun b hb => ?_⟩, ht⟩
    · have h1 := flat_count_set (d := .gone) hc b
      have h2 := L.cnt b
      have h3 : (Cell.gone).ads.count b = 0 := rfl
      have h4 : (Cell.tr t).ads = t.addrs := rfl
      rw [h4] at h1
      rw [cntL_app, cntL_cons, cntL_nil]
      omega
    · rcases hLa b hb with hb | hb
      · exact gone_set (L.off b hb i hi)
      · rcases r.inn.off b (mem_ads hc hb) i hi with e | ⟨t', e, er⟩
        · exact gone_set e
        · have hm2 : b ∈ (Cell.tr t').ads := by
            cases t' with
            | d _ => cases er
            | nd _ _ _ => cases er; exact List.mem_cons_self ..
          have := (flat_nd.mp r.inn.nd).2 i j _ _ b e hc hm2 hb
          subst this
          exact List.getElem?_set_self (List.getElem?_eq_some_iff.mp hc).1
    · rcases hLa b hb with hb | hb
      · exact L.fr b hb
      · exact r.inn.fr b (mem_ads hc hb)
    · rcases hLa b hb with hb | hb
      · exact L.own b hb
      · exact r.inn.own b (mem_ads hc hb)
  | _ => cases e
theorem grab_ok (r : Rl B ad F H ⟨sl, cs⟩ σ) (L : Loose B ad F H cs ls) (hf : AdF ad f) (hv : VOk ad F x v) (e : grab f cs x = some (t, cs2)) : Rl B ad F H ⟨sl, cs2⟩ σ ∧ Loose B ad F H cs2 (ls ++ [t]) ∧ TrOk F H t v := by
  cases x with
  | s _ _ => cases e
  | a _ _ _ => cases e
  | d y =>
    cases e
    refine ⟨r, ⟨fun b => ?_, fun b hb => ?_, fun b hb => ?_, fun b hb => ?_⟩, hv⟩
    · rw [cntL_app, cntL_cons, cntL_nil]; have := L.cnt b; have : (Tr.d y).addrs.count b = 0 := rfl; omega
    all_goals
      have hb : b ∈ Tr.addrsL ls := by
        have h1 := List.count_pos_iff.mpr hb
        rw [cntL_app, cntL_cons, cntL_nil] at h1
        have : (Tr.d y).addrs.count b = 0 := rfl
        exact List.count_pos_iff.mp (by omega)
    · exact L.off b hb
    · exact L.fr b hb
    · exact L.own b hb
  | r m =>
    obtain ⟨p, hp, rfl⟩ := hv
    have e' : (cs[m]?).bind (grabC f cs m) = some (t, cs2) := e
    cases hc : cs[m]? with
    | none => rw [hc] at e'; cases e'
    | some c => rw [hc] at e'; exact grabC_ok r L hf hp hc e'
theorem grabs_ok (hf : AdF ad f) : ∀ {xs : List AVal} {vs : List V} {cs cs2 : List Cell} {ls ts : List Tr}, Rl B ad F H ⟨sl, cs⟩ σ → Loose B ad F H cs ls → Paired (VOk ad F) xs vs → grabs f cs xs = some (ts, cs2) → Rl B ad F H ⟨sl, cs2⟩ σ ∧ Loose B ad F H cs2 (ls ++ ts) ∧ TrAll F H ts vs
  | [], _, cs, cs2, ls, ts, r, L, .nil, e => by cases e; rw [List.append_nil]; exact ⟨r, L, rfl⟩
  | x :: xs, _, cs, cs2, ls, ts, r, L, .cons h t, e => by
    have e' : (grab f cs x).bind (fun r => (grabs f r.2 xs).map fun q => (r.1 :: q.1, q.2)) = some (ts, cs2) := e
    cases hg : grab f cs x with
    | none => rw [hg] at e'; cases e'
    | some g =>
      obtain ⟨u, cs1⟩ := g
      rw [hg] at e'
      cases hq : grabs f cs1 xs with
      | none =>
        have e'' : (grabs f cs1 xs).map (fun q => (u :: q.1, q.2)) = some (ts, cs2) := e'
        rw [hq] at e''; cases e''
      | some g2 =>
        obtain ⟨us, cs3⟩ := g2
        have e'' : (grabs f cs1 xs).map (fun q => (u :: q.1, q.2)) = some (ts, cs2) := e'
        rw [hq] at e''
        cases e''
        obtain ⟨r1, L1, t1⟩ := grab_ok r L hf h hg
        obtain ⟨r2, L2, t2⟩ := grabs_ok hf r1 L1 t hq
        rw [List.append_assoc] at L2
        exact ⟨r2, L2, _, _, rfl, t1, t2⟩
theorem grab_len (e : grab f cs x = some (t, cs2)) : cs2.length = cs.length := by
  cases x with
  | s _ _ => cases e
  | a _ _ _ => cases e
  | d y => cases e; rfl
  | r m =>
    have e' : (cs[m]?).bind (grabC f cs m) = some (t, cs2) := e
    cases hc : cs[m]? with
    | none => rw [hc] at e'; cases e'
    | some c =>
      rw [hc] at e'
      have e' : grabC f cs m c = some (t, cs2) := e'
      cases c <;> cases e' <;> simp
theorem grabs_len : ∀ {xs : List AVal} {cs cs2 : List Cell} {ts : List Tr}, grabs f cs xs = some (ts, cs2) → cs2.length = cs.length ∧ ts.length = xs.length
  | [], cs, cs2, ts, e => by cases e; exact ⟨rfl, rfl⟩
  | x :: xs, cs, cs2, ts, e => by
    have e' : (grab f cs x).bind (fun r => (grabs f r.2 xs).map fun q => (r.1 :: q.1, q.2)) = some (ts, cs2) := e
    cases hg : grab f cs x with
    | none => rw [hg] at e'; cases e'
    | some g =>
      obtain ⟨u, cs1⟩ := g
      rw [hg] at e'
      have e'' : (grabs f cs1 xs).map (fun q => (u :: q.1, q.2)) = some (ts, cs2) := e'
      cases hq : grabs f cs1 xs with
      | none => rw [hq] at e''; cases e''
      | some g2 =>
        obtain ⟨us, cs3⟩ := g2
        rw [hq] at e''
        cases e''
        obtain ⟨h1, h2⟩ := grabs_len hq
        exact ⟨h1.trans (grab_len hg), by simp [h2]⟩
/-! ## slots that spoke of such a cell -/
def Cell.isGone : Cell → Bool
  | .gone => true
  | _ => false
def mvA (f : Nat → Addr) (cs : List Cell) (j n : Nat) (pt : List Nat) : AVal → AVal
  | .r i => if i = j ∧ (cs[j]?).map Cell.isGone = some true then .a (f j) n pt else .r i
  | .a p i pt' => if i = j ∧ (cs[j]?).map Cell.isGone = some true then .a p n (pt' ++ pt) else .a p i pt'
  | x => x
def mvS (f : Nat → Addr) (cs : List Cell) (n : Nat) (pt : List Nat) (x : AVal) (sl : List (Option AVal)) : List (Option AVal) := match x with
  | .r j => sl.map (Option.map (mvA f cs j n pt))
  | _ => sl
def mvL (f : Nat → Addr) (cs : List Cell) (n : Nat) : Nat → List AVal → List (Option AVal) → List (Option AVal)
  | _, [], sl => sl
  | i, x :: xs, sl => mvL f cs n (i + 1) xs (mvS f cs n [i] x sl)
theorem mvA_ok {ccs : List Cell} (hf : AdF ad f) {y : AVal} (h : VOk ad F y v) : VOk ad F (mvA f ccs j n pt y) v := by
  cases y with
  | d _ => exact h
  | s _ _ => exact h
  | a p i pt' =>
    show VOk ad F (if i = j ∧ _ then .a p n (pt' ++ pt) else .a p i pt') v
    split
    · exact h
    · exact h
  | r i =>
    show VOk ad F (if i = j ∧ _ then .a (f j) n pt else .r i) v
    split
    · rename_i e
      obtain ⟨p, hp, rfl⟩ := h
      show V.ref p = .ref (f j)
      rw [← e.1, hf i p hp]
    · exact h
theorem Rl.mvS {ccs : List Cell} (hf : AdF ad f) (r : Rl B ad F H ⟨sl, cs⟩ σ) (x : AVal) : Rl B ad F H ⟨mvS f ccs n pt x sl, cs⟩ σ := by
  unfold Kr.mvS
  split
  · rename_i j
    refine ⟨r.ff, r.fh, r.hh, r.al, r.new, r.pre, r.nd, r.len, r.cel, by rw [List.length_map]; exact r.sln, fun k y hy => ?_, r.inn⟩
    have hy : (sl.map (Option.map (mvA f ccs j n pt)))[k]? = some (some y) := hy
    rw [List.getElem?_map] at hy
    cases h : sl[k]? with
    | none => rw [h] at hy; cases hy
    | some o =>
      rw [h] at hy
      cases o with
      | none => cases hy
      | some z =>
        cases hy
        obtain ⟨v, h1, h2⟩ := r.slt k z h
        exact ⟨v, h1, mvA_ok hf h2⟩
  · exact r
theorem Rl.mvL {ccs : List Cell} (hf : AdF ad f) : ∀ (xs : List AVal) (i : Nat) {sl : List (Option AVal)}, Rl B ad F H ⟨sl, cs⟩ σ → Rl B ad F H ⟨mvL f ccs n i xs sl, cs⟩ σ
  | [], _, _, r => r
  | x :: xs, i, _, r => Rl.mvL hf xs (i + 1) (r.mvS hf x)
end
/-! ## displays -/
def dspT (k : Kd) (tl : TLA) : TEA := fun s Q => tl s fun xs s1 => xs.length ≤ sizeLine ∧ ∀ f : Nat → Addr, onSome (grabs f s1.cs xs) fun r => Q (.r s1.cs.length) ⟨mvL f r.2 s1.cs.length 0 xs s1.sl, r.2 ++ [.tr (.nd k (f s1.cs.length) r.1)]⟩
section
variable {X : Cx} {B : Bs} {ad : List Addr} {F H : Hp} {s : AS} {σ : St} {x y : AVal} {u v : V} {a b c e o : Expr} {es : List Expr} {pos p2 : Pos} {ta tb tc : TEA} {tl : TLA}
theorem AdF.of_snoc {ad : List Addr} {p : Addr} {f : Nat → Addr} (h : AdF (ad ++ [p]) f) : AdF ad f ∧ f ad.length = p := ⟨fun i q hi => h i q (by rw [List.getElem?_append_left (List.getElem?_eq_some_iff.mp hi).1]; exact hi), h _ _ (by simp)⟩
theorem dsp_post {k : Kd} {xs : List AVal} {vs : List V} {Q : VQ} {p : Addr} (hm : k.more = []) (hside : ∀ n, k.side H p n) (r : Rl B ad F H s σ) (hv : Paired (VOk ad F) xs vs) (hp : H p = none) (q : ∀ f : Nat → Addr, onSome (grabs f s.cs xs) fun r => Q (.r s.cs.length) ⟨mvL f r.2 s.cs.length 0 xs s.sl, r.2 ++ [.tr (.nd k (f s.cs.length) r.1)]⟩) : Post B ad F σ Q (.ref p) (upd H p (k.ho vs)) := by
  have hff := adF (ad ++ [p])
  obtain ⟨hf, hfp⟩ := hff.of_snoc
  obtain ⟨⟨ts, cs2⟩, hg, q⟩ := q _
  obtain ⟨r1, L1, t1⟩ := grabs_ok hf r (Loose.nil r) hv hg
  rw [List.nil_append] at L1
  have hl := (grabs_len hg).1
  have r2 := (r1.mvL (n := s.cs.length) (ccs := cs2) hf xs 0).newT (k := k) L1 hp hm t1 (hside _)
  rw [← r.len, hfp, r.len] at q
  exact ⟨_, F, .r s.cs.length, _, ⟨[p], rfl⟩, Same.refl _, r2, ⟨p, by rw [← r.len]; simp, rfl⟩, q⟩
theorem ea_tupT {x1} (h : EL X B es tl) : EA X B (.Tuple es x1 pos) (dspT .tup tl) := ⟨fun ad F H s σ Q r t => we_of (pe_tup pa_wa) ((h.run ad F H s σ _ r t).imp fun vs H1 q => by
  obtain ⟨ad1, F1, xs, s1, e1, k1, r1, hvs, hln, hz, q⟩ := q
  exact ⟨by rw [← Paired.len hvs]; exact hz, fun p hp => (dsp_post (k := .tup) rfl (fun _ => trivial) r1 hvs hp q).up e1 k1⟩)⟩
theorem ea_lstT (h : EL X B es tl) : EA X B (.List es pos) (dspT .lst tl) := ⟨fun ad F H s σ Q r t => we_of (pe_lst pa_wa) ((h.run ad F H s σ _ r t).imp fun vs H1 q => by
  obtain ⟨ad1, F1, xs, s1, e1, k1, r1, hvs, hln, hz, q⟩ := q
  exact ⟨by rw [← Paired.len hvs]; exact hz, fun p hp => (dsp_post (k := .lst) rfl (fun _ => trivial) r1 hvs hp q).up e1 k1⟩)⟩
/-! ## a list cell seen as a tree -/
def asTC (f : Nat → Addr) (cs : List Cell) (n : Nat) : Cell → List Cell
  | .lst ds => cs.set n (.tr (.nd .lst (f n) (ds.map .d)))
  | _ => cs
def asT (f : Nat → Addr) (cs : List Cell) : AVal → List Cell
  | .r n => ((cs[n]?).map (asTC f cs n)).getD cs
  | _ => cs
theorem Rl.asT {f : Nat → Addr} {cs : List Cell} {sl : List (Option AVal)} (r : Rl B ad F H ⟨sl, cs⟩ σ) (hf : AdF ad f) (x : AVal) : Rl B ad F H ⟨sl, asT f cs x⟩ σ := by
  cases x with
  | d _ => exact r
  | s _ _ => exact r
  | a _ _ _ => exact r
  | r n =>
    show Rl B ad F H ⟨sl, ((cs[n]?).map (asTC f cs n)).getD cs⟩ σ
    cases hc : cs[n]? with
    | none => exact r
    | some c =>
      cases c with
      | lst ds =>
        have hnl := (List.getElem?_eq_some_iff.mp hc).1
        have hal : n < ad.length := by have := r.len; simp only at this; omega
        have hp : ad[n]? = some ad[n] := List.getElem?_eq_getElem hal
        generalize ad[n] = p at hp
        obtain ⟨n0, l, vs, h1, h2⟩ := r.cel n p _ hp hc
        have hfn := hf n p hp
        have hads : (Tr.nd .lst (f n) (ds.map .d)).addrs = [p] := by
          show f n :: ([] ++ Tr.addrsL (ds.map .d)) = _
          rw [addrsL_leafs, hfn]; rfl
        show Rl B ad F H ⟨sl, cs.set n (.tr (.nd .lst (f n) (ds.map .d)))⟩ σ
        have hpc : p ∉ cs.flatMap Cell.ads := fun z => by
          rcases r.inn.off p z n hp with e | ⟨t', e, _⟩
          · have e : cs[n]? = some .gone := e
            rw [hc] at e; cases e
          · have e : cs[n]? = some (.tr t') := e
            rw [hc] at e; cases e
        have cnt : ∀ b, ((cs.set n (.tr (.nd .lst (f n) (ds.map .d)))).flatMap Cell.ads).count b = (cs.flatMap Cell.ads).count b + [p].count b := fun b => by
          have h := flat_count_set (d := .tr (.nd .lst (f n) (ds.map .d))) hc b
          have h3 : (Cell.tr (.nd .lst (f n) (ds.map .d))).ads = [p] := hads
          have h4 : (Cell.lst ds).ads.count b = 0 := rfl
          rw [h3, h4] at h
          omega
        have mem : ∀ b, b ∈ (cs.set n (.tr (.nd .lst (f n) (ds.map .d)))).flatMap Cell.ads → b ∈ cs.flatMap Cell.ads ∨ b = p := fun b hb => by
          have h := List.count_pos_iff.mpr hb
          rw [cnt] at h
          by_cases h2 : 0 < (cs.flatMap Cell.ads).count b
          · exact .inl (List.count_pos_iff.mp h2)
          · have : 0 < [p].count b := by omega
            exact .inr (by simpa using List.count_pos_iff.mp this)
        refine ⟨r.ff, r.fh, r.hh, r.al, r.new, r.pre, r.nd, by show ad.length = (cs.set n _).length; rw [List.length_set]; exact r.len, fun i b c h3 h4 => ?_, r.sln, r.slt, ⟨nodup_cnt.mpr fun b => ?_, fun b hb i hi => ?_, fun b hb => ?_, fun b hb => ?_, r.inn.old⟩⟩
        · have h4 : (cs.set n (.tr (.nd .lst (f n) (ds.map .d))))[i]? = some c := h4
          by_cases e : i = n
          · subst e
            rw [List.getElem?_set_self hnl] at h4
            cases h4
            rw [hp] at h3
            cases h3
            exact ⟨n0, (fun z => nomatch z), congrArg some hfn, by rw [hfn]; exact TrOk.of h1 trivial (trAll_leafs h2)⟩
          · rw [List.getElem?_set_ne (fun z => e z.symm)] at h4
            exact r.cel i b c h3 h4
        · rw [cnt]
          have := nodup_cnt.mp r.inn.nd b
          simp only at this
          by_cases e : p = b
          · subst e
            have := List.count_eq_zero.mpr hpc
            simp
            omega
          · have : [p].count b = 0 := List.count_eq_zero.mpr (by simpa using fun z => e z.symm)
            omega
        · by_cases e : i = n
          · subst e
            rw [hp] at hi
            cases hi
            exact .inr ⟨_, List.getElem?_set_self hnl, congrArg some hfn⟩
          · rw [List.getElem?_set_ne (fun z => e z.symm)]
            rcases mem b hb with hb | hb
            · exact r.inn.off b hb i hi
            · subst hb
              exact absurd (nodup_get r.nd hi hp) e
        · rcases mem b hb with hb | hb
          · exact r.inn.fr b hb
          · subst hb; exact ⟨l rfl, n0⟩
        · rcases mem b hb with hb | hb
          · exact r.inn.own b hb
          · subst hb; exact (r.inS (List.mem_of_getElem? hp)).elim .inl fun z => .inr (.inr z)
      | _ => exact r
/-! ## lists in trees change -/
def treeC : Cell → Option Tr
  | .tr t => some t
  | _ => none
def treeAt (cs : List Cell) (n : Nat) : Option Tr := (cs[n]?).bind treeC
theorem treeAt_of {cs : List Cell} {n : Nat} {t : Tr} (h : cs[n]? = some (.tr t)) : treeAt cs n = some t := by unfold treeAt; rw [h]; rfl
/-- a list node of a tree -/
def onT (s : AS) (x : AVal) (k : Nat → List Nat → Addr → List Tr → Tr → Prop) : Prop := onSome (nodeAt s x) fun N => N.2.2.1 = .lst ∧ onSome (treeAt s.cs N.1) fun t => k N.1 N.2.1 N.2.2.2.1 N.2.2.2.2 t
theorem onT_ok {k : Nat → List Nat → Addr → List Tr → Tr → Prop} (r : Rl B ad F H s σ) (hx : VOk ad F x u) (h : onT s x k) : ∃ n pt q ts t p vs, NodeAt ad F H s u n pt .lst q ts t p vs ∧ k n pt q ts t := by
  obtain ⟨⟨n, pt, kd, q, ts⟩, hn, hk, t, ht, h⟩ := h
  have hk : kd = .lst := hk
  subst hk
  obtain ⟨t', p, vs, N⟩ := nodeAt_ok r hx hn
  have : t' = t := by
    have := treeAt_of N.cell
    rw [show treeAt s.cs n = some t from ht] at this
    exact (Option.some.inj this).symm
  subst this
  exact ⟨n, pt, q, ts, t', p, vs, N, h⟩
def putT (s : AS) (n : Nat) (pt : List Nat) (q : Addr) (t : Tr) (ys : List Tr) : AS := ⟨s.sl, s.cs.set n (.tr (t.put pt (.nd .lst q ys)))⟩
theorem Post.putT {Q : VQ} {d : PyData} {n : Nat} {pt : List Nat} {q p : Addr} {ts ys ls : List Tr} {t : Tr} {vs ws : List V} (r : Rl B ad F H s σ) (L : Loose B ad F H s.cs ls) (N : NodeAt ad F H s u n pt .lst q ts t p vs) (hc : ∀ b, (Tr.addrsL ys).count b ≤ (Tr.addrsL ts).count b + (Tr.addrsL ls).count b) (hw : TrAll F H ys ws) (hv : Da F d v) (h : Q (.d d) (putT s n pt q t ys)) : Post B ad F σ Q v (upd H q (.lst ws)) :=
  ⟨ad, F, .d d, _, Ext.refl _, Same.refl _, r.mutT (k' := .lst) L N rfl hc hw trivial, hv, h⟩
theorem TrAll.append {F H : Hp} : ∀ {ts us : List Tr} {vs ws : List V}, TrAll F H ts vs → TrAll F H us ws → TrAll F H (ts ++ us) (vs ++ ws)
  | [], _, _, _, h, h' => by obtain rfl := (show _ = [] from h); exact h'
  | t :: ts, us, vs, ws, h, h' => by
    obtain ⟨v, r, rfl, h1, h2⟩ := (show ∃ v r, vs = v :: r ∧ TrOk F H t v ∧ TrAll F H ts r from h)
    exact ⟨v, r ++ ws, rfl, h1, TrAll.append h2 h'⟩
def appendT (x : AVal) (xs : List AVal) : TEA := fun s Q => one (fun y => ∀ f : Nat → Addr, onSome (grab f (asT f s.cs x) y) fun r => onT ⟨s.sl, r.2⟩ x fun n pt q ts t => ts.length < sizeLine ∧ Q (.d .none) (putT ⟨mvS f r.2 n (ts.length :: pt) y s.sl, r.2⟩ n pt q t (ts ++ [r.1]))) xs
theorem m_appendT : MtA X B "list.append" appendT := fun ad F H s σ x xs u us Q r hx hp t => by
  obtain ⟨y, w, rfl, rfl, hy, t⟩ := one_ok t hp
  have hf := adF ad
  obtain ⟨⟨tr, cs2⟩, hg, t⟩ := t _
  have r0 := r.asT hf x
  obtain ⟨r1, L1, t1⟩ := grab_ok r0 (Loose.nil r0) hf hy hg
  obtain ⟨n, pt, q, ts, t0, p, vs, N, hz, qq⟩ := onT_ok r1 hx t
  have r2 := r1.mvS (ccs := cs2) (n := n) (pt := ts.length :: pt) hf y
  have hval := N.val
  subst hval
  have N2 : NodeAt ad F H ⟨mvS (fun i => (ad[i]?).getD 0) cs2 n (ts.length :: pt) y s.sl, cs2⟩ (.ref q) n pt .lst q ts t0 p vs := ⟨N.cell, N.root, N.here, rfl, N.ho, N.side, N.kids, N.tree⟩
  refine ⟨_, mt_append, q, vs, w, rfl, rfl, N.ho, by rw [N.kids.length]; exact hz, Post.putT (d := .none) r2 L1 N2 (fun b => ?_) (N.kids.append (us := [tr]) (ws := [w]) (show ∃ v r, [w] = v :: r ∧ TrOk F H tr v ∧ TrAll F H [] r from ⟨w, [], rfl, t1, rfl⟩)) rfl qq⟩
  rw [cntL_app, List.nil_append]
  exact Nat.le_refl _
def clearT (x : AVal) (xs : List AVal) : TEA := fun s Q => onT s x fun n pt q ts t => Q (.d .none) (putT s n pt q t [])
theorem m_clearT : MtA X B "list.clear" (fun x xs s Q => xs = [] ∧ clearT x xs s Q) := fun ad F H s σ x xs u us Q r hx hp t => by
  obtain ⟨rfl, t⟩ := t
  cases hp
  obtain ⟨n, pt, q, ts, t0, p, vs, N, qq⟩ := onT_ok r hx t
  have hval := N.val
  subst hval
  exact ⟨_, mt_clear, q, vs, rfl, rfl, N.ho, Post.putT (d := .none) (ys := []) (ws := []) r (Loose.nil r) N (fun b => Nat.zero_le _) (show TrAll F H [] [] from rfl) rfl qq⟩
def extendT (x : AVal) (xs : List AVal) : TEA := fun s Q => one (fun y => onT s x fun n pt q ts t => onSome (listOf s y) fun es => ts.length + es.length ≤ sizeLine ∧ Q (.d .none) (putT s n pt q t (ts ++ es.map .d))) xs
theorem m_extendT : MtA X B "list.extend" extendT := fun ad F H s σ x xs u us Q r hx hp t => by
  obtain ⟨y, w, rfl, rfl, hy, t⟩ := one_ok t hp
  obtain ⟨n, pt, q, ts, t0, p, vs, N, es, he, hz, qq⟩ := onT_ok r hx t
  have hval := N.val
  subst hval
  obtain ⟨l, ws, rfl, h1, h2⟩ := hy.list r he
  refine ⟨_, mt_extend, q, l, vs, ws, rfl, rfl, N.ho, h1, by rw [N.kids.length, h2.length]; exact hz, Post.putT (d := .none) r (Loose.nil r) N (fun b => ?_) (N.kids.append (trAll_leafs h2)) rfl qq⟩
  rw [cntL_app, cntL_leafs]
  omega
/-! ## x[i] = v -/
/-- in a list: a cell or a node -/
def onL (s : AS) (x : AVal) (k : (List PyData → Option (List PyData)) → Prop) : Prop := False
def putLC (D : DA) (s : AS) (n : Nat) (i : Int) (d : PyData) : Cell → Prop
  | .lst ds => onSome (ixN ds.length i) fun j => D.nx ⟨s.sl, s.cs.set n (.lst (ds.set j d))⟩
  | .tr (.nd .lst q ts) => onSome (ixN ts.length i) fun j => D.nx (putT s n [] q (.nd .lst q ts) (ts.set j (.d d)))
  | _ => False
def putLV (D : DA) (s : AS) (i : Int) (d : PyData) : AVal → Prop
  | .r n => onSome s.cs[n]? (putLC D s n i d)
  | .a p n pt => onT s (.a p n pt) fun n pt q ts t => onSome (ixN ts.length i) fun j => D.nx (putT s n pt q t (ts.set j (.d d)))
  | _ => False
def putL (tv to ti : TEA) : TSA := fun D s => tv s fun v s1 => to s1 fun x s2 => ti s2 fun y s3 => onSome y.int? fun i => onSome v.data? fun d => putLV D s3 i d x
theorem DaAll.setAt {ds : List PyData} {d : PyData} {w : V} (hd : Da F d w) : ∀ {ds : List PyData} {vs : List V} (j : Nat), DaAll F ds vs → DaAll F (ds.set j d) (vs.set j w)
  | [], _, j, h => by obtain rfl := (show _ = [] from h); exact daAll_nil
  | d0 :: ds, _, j, h => by
    obtain ⟨v0, r, rfl, h1, h2⟩ := (show ∃ v r, _ = v :: r ∧ Da F d0 v ∧ DaAll F ds r from h)
    cases j with
    | zero => exact daAll_cons hd h2
    | succ j => exact daAll_cons h1 (DaAll.setAt (ds := ds) hd j h2)
theorem TrAll.setAt {d : PyData} {w : V} (hd : Da F d w) : ∀ {ts : List Tr} {vs : List V} (j : Nat), TrAll F H ts vs → TrAll F H (ts.set j (.d d)) (vs.set j w)
  | [], _, j, h => by obtain rfl := (show _ = [] from h); exact rfl
  | t :: ts, vs, j, h => by
    obtain ⟨v0, r, rfl, h1, h2⟩ := (show ∃ v r, vs = v :: r ∧ TrOk F H t v ∧ TrAll F H ts r from h)
    cases j with
    | zero => exact ⟨w, r, rfl, hd, h2⟩
    | succ j => exact ⟨v0, r.set j w, rfl, h1, TrAll.setAt hd j h2⟩
theorem ixN_lt {n : Nat} {i : Int} {j : Nat} (h : ixN n i = some j) : j < n := by
  unfold ixN at h
  split at h
  · split at h
    · cases h; omega
    · cases h
  · split at h
    · cases h; omega
    · cases h
theorem sa_putL (hv : EA X B c tc) (ho : EA X B o ta) (hi : EA X B e tb) (hs : swapsWithSole [.Subscript o e p2] c pos.line X.env = pure false := by rfl) (hw : swappedStores [.Subscript o e p2] c X.env = pure none := by rfl)
    (h1 : (assignEach [.Subscript o e p2] X.env).map (·.2) = [assign (.Subscript o e p2) X.env] := by rfl)
    (ha : ∀ v, assign (.Subscript o e p2) X.env v = (do
      let ov ← holding [v] (eval o X.env)
      let iv ← holding [v, ov] (eval e X.env)
      standAt p2
      holding [v, ov, iv] (setItem ov iv v)
      release [v, ov, iv] []) := by intro _; rfl) : SA X B (.Assign [.Subscript o e p2] c pos) (putL tc ta tb) := ⟨fun D s h ad F H σ r =>
  ws_of (ps_asg pe_we (pg_sub pe_we pe_we set_list ha) hs hw h1) ((hv.run ad F H s σ _ r h).imp fun w H1 q => by
    obtain ⟨ad1, F1, v, s1, e1, k1, r1, hv1, q⟩ := q
    refine (ho.run ad1 F1 H1 s1 σ _ r1 q).imp fun u H2 q => ?_
    obtain ⟨ad2, F2, x, s2, e2, k2, r2, hx, q⟩ := q
    refine (hi.run ad2 F2 H2 s2 σ _ r2 q).imp fun z H3 q => ?_
    obtain ⟨ad3, F3, y, s3, e3, k3, r3, hy, i, ei, d, ed, qq⟩ := q
    have := AVal.int?_of ei
    subst this
    have := AVal.data?_of ed
    subst this
    obtain rfl : z = .int i := hy
    have hd : Da F3 d w := Da.mono (k2.trans k3) hv1
    have hx3 := hx.mono e3 k3
    have node : ∀ {n pt q ts t p vs}, NodeAt ad3 F3 H3 s3 u n pt .lst q ts t p vs → (onSome (ixN ts.length i) fun j => D.nx (putT s3 n pt q t (ts.set j (.d d)))) → rSetL u (.int i) w H3 fun H3 => (liftD B D).nx σ H3 := fun {n pt q ts t p vs} N h => by
      obtain ⟨j, hj, h⟩ := h
      have hval := N.val
      subst hval
      refine ⟨q, vs, i, j, rfl, rfl, N.ho, by rw [N.kids.length]; exact hj, ad3, F3, _, r3.mutT (k' := .lst) (Loose.nil r3) N rfl (fun b => ?_) (N.kids.setAt hd j) trivial, h⟩
      have hjl := ixN_lt hj
      have hg : ts[j]? = some ts[j] := List.getElem?_eq_getElem hjl
      have := cntL_set (u := .d d) hg b
      have : (Tr.d d).addrs.count b = 0 := rfl
      omega
    cases x with
    | d _ => exact qq.elim
    | s _ _ => exact qq.elim
    | a p n pt =>
      obtain ⟨n', pt', q', ts, t0, p', vs, N, h⟩ := onT_ok (k := fun n pt q ts t => onSome (ixN ts.length i) fun j => D.nx (putT s3 n pt q t (ts.set j (.d d)))) r3 hx3 qq
      exact node N h
    | r n =>
      obtain ⟨c, hc, qq⟩ := qq
      obtain ⟨p, hp, rfl⟩ := hx3
      cases c with
      | lst ds =>
        obtain ⟨j, hj, qq⟩ := qq
        obtain ⟨_, _, vs, g1, g2⟩ := r3.cel n p _ hp hc
        exact ⟨p, vs, i, j, rfl, rfl, g1, by rw [g2.length]; exact hj, ad3, F3, _, r3.put (c := .lst (ds.set j d)) hp hc rfl ⟨_, upd_same, DaAll.setAt (ds := ds) hd j g2⟩, qq⟩
      | tr t => cases t with
        | d _ => exact qq.elim
        | nd k q0 ts => cases k with
          | lst =>
            obtain ⟨_, _, g1, g2⟩ := r3.cel n p _ hp hc
            cases g1
            obtain ⟨_, vs, g3, g4, g5⟩ := g2.node
            exact node (n := n) (pt := []) (q := p) (ts := ts) (t := .nd .lst p ts) (p := p) (vs := vs) ⟨hc, hp, rfl, rfl, g3, g4, g5, g2⟩ qq
          | tup => exact qq.elim
          | dct _ => exact qq.elim
          | obj _ _ _ => exact qq.elim
      | _ => exact qq.elim)⟩
end
section
variable {f : Nat → Addr} {cs : List Cell} {j n i : Nat} {pt : List Nat} {p : Addr} {K : PySem.W.Frag} {ns : List Int} {d : PyData} {sl : List (Option AVal)}
theorem mvA_r : mvA f cs j n pt (.r i) = if i = j ∧ (cs[j]?).map Cell.isGone = some true then .a (f j) n pt else .r i := rfl
theorem mvA_a {pt' : List Nat} : mvA f cs j n pt (.a p i pt') = if i = j ∧ (cs[j]?).map Cell.isGone = some true then .a p n (pt' ++ pt) else .a p i pt' := rfl
theorem mvA_d : mvA f cs j n pt (.d d) = .d d := rfl
theorem mvA_s : mvA f cs j n pt (.s K ns) = .s K ns := rfl
theorem mvS_r : mvS f cs n pt (.r j) sl = sl.map (Option.map (mvA f cs j n pt)) := rfl
theorem mvS_d : mvS f cs n pt (.d d) sl = sl := rfl
theorem mvS_a {m : Nat} {pt' : List Nat} : mvS f cs n pt (.a p m pt') sl = sl := rfl
theorem gone_gone : Cell.isGone .gone = true := rfl
theorem gone_fz : Cell.isGone (.fz d) = false := rfl
theorem gone_tr {t : Tr} : Cell.isGone (.tr t) = false := rfl
theorem gone_lst {ds : List PyData} : Cell.isGone (.lst ds) = false := rfl
theorem at_nil {t : Tr} : t.at [] = some t := rfl
theorem at_cons {t : Tr} : t.at (i :: pt) = match t.at pt with | some (.nd _ _ xs) => xs[i]? | _ => none := rfl
theorem put_nil {t u : Tr} : t.put [] u = u := rfl
theorem put_cons {t u : Tr} : t.put (i :: pt) u = match t.at pt with | some (.nd k a xs) => t.put pt (.nd k a (xs.set i u)) | _ => t := rfl
end
end Kr

/-! layer A20 -/
namespace Kr
open PySem L2
/-! ## a tree is told for good -/
theorem kv_zipD {F : Hp} : ∀ {ks : List Key} {ds : List PyData} {vs : List V}, DaAll F ds vs → KvOk F (ks.zip ds) (ks.zip vs)
  | [], _, _, _ => .nil
  | k :: ks, [], vs, h => by obtain rfl := (show vs = [] from h); exact .nil
  | k :: ks, d :: ds, vs, h => by
    obtain ⟨v, r, rfl, h1, h2⟩ := (show ∃ v r, vs = v :: r ∧ Da F d v ∧ DaAll F ds r from h)
    exact .cons ⟨rfl, h1⟩ (kv_zipD h2)
mutual
theorem TrOk.da {F H F2 : Hp} (s : Same F F2) : ∀ {t : Tr} {v : V} {d : PyData}, TrOk F H t v → (∀ b ∈ t.addrs, F2 b = H b) → t.data? = some d → Da F2 d v
  | .d x, v, d, h, _, e => by cases e; exact Da.mono s h
  | .nd k a xs, v, d, h, hb, e => by
    obtain ⟨h0, vs, h1, _, h3⟩ := h.node
    subst h0
    have hb' : ∀ b ∈ a :: (k.more ++ Tr.addrsL xs), F2 b = H b := hb
    have ha := hb' a (List.mem_cons_self ..)
    have hk : ∀ b ∈ Tr.addrsL xs, F2 b = H b := fun b z => hb' b (List.mem_cons_of_mem _ (List.mem_append_right _ z))
    cases k with
    | lst =>
      have e' : (Tr.datas? xs).map PyData.list = some d := e
      cases hd : Tr.datas? xs with
      | none => rw [hd] at e'; cases e'
      | some ds => rw [hd] at e'; cases e'; exact ⟨a, vs, rfl, ha.trans h1, TrAll.da s h3 hk hd⟩
    | tup =>
      have e' : (Tr.datas? xs).map PyData.tuple = some d := e
      cases hd : Tr.datas? xs with
      | none => rw [hd] at e'; cases e'
      | some ds => rw [hd] at e'; cases e'; exact ⟨a, vs, rfl, ha.trans h1, TrAll.da s h3 hk hd⟩
    | dct ks =>
      have e' : (Tr.datas? xs).map (fun ds => dictD (ks.zip ds)) = some d := e
      cases hd : Tr.datas? xs with
      | none => rw [hd] at e'; cases e'
      | some ds => rw [hd] at e'; cases e'; exact ⟨a, ks.zip vs, rfl, .inl (ha.trans h1), daKV_of (kv_zipD (TrAll.da s h3 hk hd))⟩
    | obj _ _ _ => cases e
theorem TrAll.da {F H F2 : Hp} (s : Same F F2) : ∀ {ts : List Tr} {vs : List V} {ds : List PyData}, TrAll F H ts vs → (∀ b ∈ Tr.addrsL ts, F2 b = H b) → Tr.datas? ts = some ds → DaAll F2 ds vs
  | [], vs, ds, h, _, e => by cases e; exact h
  | t :: ts, vs, ds, h, hb, e => by
    obtain ⟨v, r, rfl, h1, h2⟩ := (show ∃ v r, vs = v :: r ∧ TrOk F H t v ∧ TrAll F H ts r from h)
    have hb' : ∀ b ∈ t.addrs ++ Tr.addrsL ts, F2 b = H b := hb
    unfold Tr.datas? at e
    split at e
    · rename_i y ys h3 h4
      cases e
      exact daAll_cons (TrOk.da s h1 (fun b z => hb' b (List.mem_append_left _ z)) h3) (TrAll.da s h2 (fun b z => hb' b (List.mem_append_right _ z)) h4)
    · cases e
end
def Cell.plain : Cell → Bool
  | .gone => false
  | .tr _ => false
  | _ => true
section
variable {X : Cx} {B : Bs} {ad : List Addr} {F H : Hp} {s : AS} {σ : St} {x y : AVal} {u v : V} {a b c e o : Expr} {es : List Expr} {pos p2 : Pos} {ta tb tc : TEA} {tl : TLA}
theorem Rl.freezeT {n : Nat} {p : Addr} {t : Tr} {d : PyData} (r : Rl B ad F H s σ) (hp : ad[n]? = some p) (hc : s.cs[n]? = some (.tr t)) (hd : t.data? = some d) (hn : B.S.length ≤ n) (hT : B.T = []) (hpl : (s.cs.take B.S.length).all Cell.plain = true) :
    ∃ F2, Same F F2 ∧ Da F2 d (.ref p) ∧ Rl B ad F2 H ⟨s.sl, s.cs.set n (.fz d)⟩ σ := by
  let F2 : Hp := fun b => if b ∈ t.addrs then H b else F b
  have fin : ∀ b, b ∈ t.addrs → F2 b = H b := fun b hb => if_pos hb
  have fout : ∀ b, b ∉ t.addrs → F2 b = F b := fun b hb => if_neg hb
  have sF : Same F F2 := fun b o e => by
    by_cases hb : b ∈ t.addrs
    · rw [(r.inn.fr b (mem_ads hc hb)).1] at e; cases e
    · rw [fout b hb]; exact e
  have hpl := List.all_eq_true.mp hpl
  have new0 : ∀ b ∈ t.addrs, B.H0 b = none := fun b hb => by
    rcases r.inn.own b (mem_ads hc hb) with z | z | z
    · exfalso
      obtain ⟨i, hi⟩ := List.mem_iff_getElem?.mp z
      have hil := (List.getElem?_eq_some_iff.mp hi).1
      obtain ⟨ad', e, _⟩ := r.pre
      have hia : ad[i]? = some b := by rw [e, List.getElem?_append_left hil]; exact hi
      have inT : ∀ c', s.cs[i]? = some c' → c' ∈ s.cs.take B.S.length := fun c' hc' => List.mem_of_getElem? (by rw [List.getElem?_take_of_lt hil]; exact hc')
      rcases r.inn.off b (mem_ads hc hb) i hia with e2 | ⟨t', e2, _⟩
      · have := hpl _ (inT _ e2); cases this
      · have := hpl _ (inT _ e2); cases this
    · rw [hT] at z; cases z
    · exact z
  obtain ⟨n0, _, hroot, htr⟩ := r.cel n p _ hp hc
  have hda : Da F2 d (.ref p) := htr.da sF (fun b hb => fin b hb) hd
  have hpt : p ∈ t.addrs := by
    cases t with
    | d _ => cases hroot
    | nd _ _ _ => cases hroot; exact List.mem_cons_self ..
  have sub : ∀ b, b ∈ (s.cs.set n (.fz d)).flatMap Cell.ads → b ∈ s.cs.flatMap Cell.ads ∧ b ∉ t.addrs := fun b hb => by
    have h1 := flat_count_set (d := .fz d) hc b
    have h2 := List.count_pos_iff.mpr hb
    have h3 := nodup_cnt.mp r.inn.nd b
    have h4 : (Cell.tr t).ads = t.addrs := rfl
    have h5 : (Cell.fz d).ads.count b = 0 := rfl
    rw [h4, h5] at h1
    refine ⟨List.count_pos_iff.mp (by omega), fun z => ?_⟩
    have := List.count_pos_iff.mpr z
    omega
  refine ⟨F2, sF, hda, r.ff.trans sF, fun b o e => ?_, r.hh, r.al, fun b e n => ?_, r.pre, r.nd, by show ad.length = (s.cs.set n _).length; rw [List.length_set]; exact r.len, fun i b c h1 h2 => ?_, r.sln, fun k x hx => ?_, ⟨r.inn.nd.sublist (flat_set rfl), fun b hb i hi => ?_, fun b hb => ?_, fun b hb => r.inn.own b (sub b hb).1, r.inn.old⟩⟩
  · by_cases hb : b ∈ t.addrs
    · rw [fin b hb] at e; exact e
    · rw [fout b hb] at e; exact r.fh b o e
  · by_cases hb : b ∈ t.addrs
    · exact absurd (new0 b hb) n
    · rw [fout b hb]; exact r.new b e n
  · have h2 : (s.cs.set n (.fz d))[i]? = some c := h2
    by_cases e : i = n
    · subst e
      rw [List.getElem?_set_self (List.getElem?_eq_some_iff.mp hc).1] at h2
      cases h2
      rw [hp] at h1
      cases h1
      exact ⟨n0, (fun z => nomatch z), hda⟩
    · rw [List.getElem?_set_ne (fun z => e z.symm)] at h2
      obtain ⟨g1, g2, g3⟩ := r.cel i b c h1 h2
      refine ⟨g1, fun z => ?_, g3.mono (Ext.refl _) sF (fun o e => e) fun _ _ o e => e⟩
      rw [fout b (fun hb => ?_)]
      · exact g2 z
      · rcases r.inn.off b (mem_ads hc hb) i h1 with e2 | ⟨t', e2, _⟩
        · rw [h2] at e2; cases e2; cases z
        · rw [h2] at e2; cases e2; cases z
  · obtain ⟨v, h1, h2⟩ := r.slt k x hx
    exact ⟨v, h1, h2.mono (Ext.refl _) sF⟩
  · obtain ⟨hb1, hb2⟩ := sub b hb
    have hin : i ≠ n := fun z => by
      subst z
      rw [hp] at hi
      cases hi
      exact hb2 hpt
    rw [List.getElem?_set_ne (fun z => hin z.symm)]
    exact r.inn.off b hb1 i hi
  · obtain ⟨hb1, hb2⟩ := sub b hb
    exact ⟨by rw [fout b hb2]; exact (r.inn.fr b hb1).1, (r.inn.fr b hb1).2⟩
def fzTC (m n : Nat) (s : AS) (Q : VQ) : Cell → Prop
  | .fz d => Q (.d d) s
  | .lst ds => m ≤ n ∧ Q (.d (.list ds)) ⟨s.sl, s.cs.set n (.fz (.list ds))⟩
  | .dK ds => m ≤ n ∧ Q (.d (dictD ds)) ⟨s.sl, s.cs.set n (.fz (dictD ds))⟩
  | .tr t => (m ≤ n ∧ (s.cs.take m).all Cell.plain = true) ∧ onSome t.data? fun d => Q (.d d) ⟨s.sl, s.cs.set n (.fz d)⟩
  | _ => False
def fzTV (m : Nat) (s : AS) (Q : VQ) : AVal → Prop
  | .d x => Q (.d x) s
  | .r n => onSome s.cs[n]? (fzTC m n s Q)
  | _ => False
def fzT (m k : Nat) : TEA := fun s Q => onSome (s.sl[k]?.bind id) (fzTV m s Q)
theorem ea_fzT (k : Nat) {x : Str} (hT : B.T = []) (hN : X.N[k]? = some x := by rfl) (hv : Vis X.env.scope x := by first | exact Or.inl rfl | exact Or.inr (Or.inl rfl) | exact Or.inr (Or.inr rfl)) (hd : (x == ("__debug__" : Str)) = false := by decide)
    (hcd : (x == ("__classdict__" : Str)) = false := by decide) : EA X B (.Name x pos) (fzT B.S.length k) := ⟨fun ad F H s σ Q r t => by
  obtain ⟨y, e, q⟩ := t
  obtain ⟨v, h1, h2⟩ := r.slt k y (slot_some e)
  refine we_of (pe_var hN hv hd hcd) ⟨v, h1, ?_⟩
  cases y with
  | d y => exact .here r h2 q
  | s _ _ => exact q.elim
  | a _ _ _ => exact q.elim
  | r n =>
    obtain ⟨c, hc, q⟩ := q
    obtain ⟨a, ha, rfl⟩ := h2
    obtain ⟨n0, l, ok⟩ := r.cel n a c ha hc
    cases c with
    | fz d => exact .here (x := .d d) r ok q
    | lst ds =>
      obtain ⟨hm, q⟩ := q
      obtain ⟨o, ho, hda⟩ := ok.frz rfl (l rfl) (d := .list ds) rfl
      exact ⟨ad, upd F a o, .d (.list ds), _, Ext.refl _, same_upd (l rfl), r.freeze ha hc rfl hm ho hda, hda, q⟩
    | dK ds =>
      obtain ⟨hm, q⟩ := q
      obtain ⟨o, ho, hda⟩ := ok.frz rfl (l rfl) (d := dictD ds) rfl
      exact ⟨ad, upd F a o, .d (dictD ds), _, Ext.refl _, same_upd (l rfl), r.freeze ha hc rfl hm ho hda, hda, q⟩
    | tr t =>
      obtain ⟨⟨hm, hpl⟩, d, hd, q⟩ := q
      obtain ⟨F2, sF, hda, r2⟩ := r.freezeT ha hc hd hm hT hpl
      exact ⟨ad, F2, .d d, _, Ext.refl _, sF, r2, hda, q⟩
    | _ => exact q.elim⟩
/-! ## a def to which no trees are handed -/
def bodyT0 (k : Nat) (t : Nat → TSA) : SpT := fun xs cs P => cs.flatMap Cell.ads = [] ∧ t cs.length (retD cs.length P) ⟨xs.map some ++ List.replicate k none, cs⟩
end
section
variable {P : Program} {w : World} {K : PySem.W.Frag} {mg : Str → Option Value} {base : Heap}
theorem okA0 {x qual : Str} {st : Stmt} {f : Addr} {fd : FuncData} {N ps : List Str} {k : Nat} {t : Nat → TSA} (Fn : Fun K x qual st f fd) (S : FnScope N ps (defScope st))
    (hbody : ∀ (cdv : Value) (A : Around) (outer : List Env) (s : Shared) (H : Hp) (E : XK) (B : Bs), B.T = [] → Room k (A.deeper (PyProof.Rows.envOfC qual (defScope st) s.heap.objs.size f cdv)) → SS (cxOf CX0 P w K mg base N qual (defScope st) f cdv A outer s H E).nox B (defBody st) (t B.S.length)) :
    FnOk P w K mg base CX0 (k + 1) f fd ps (spA ps.length (bodyT0 (N.length - ps.length) t)) :=
  okW Fn S (fun vs H Q E ⟨F, ad, cs, xs, P, hl, _⟩ => hl) fun cdv A outer s H vs Q E hr ⟨F, ad, cs, xs, P, hl, r, hp, ⟨h0, ht⟩, q⟩ => by
    have hsl : Rl (Bs.at ad F H (cs.flatMap Cell.ads)) ad F H ⟨xs.map some ++ List.replicate (N.length - ps.length) none, cs⟩ (start N vs) := by
      refine ⟨r.ff, r.fh, r.hh, r.al, r.new, r.pre, r.nd, r.len, r.cel, ?_, ?_, r.inn⟩
      · unfold L2.start
        simp [Paired.len hp, hl]
      · unfold L2.start
        rw [hl]
        exact paired_slots hp
    have hm : cs.length = ad.length := r.len.symm
    intro pins sh I
    have ht' : t ad.length (retD cs.length P) ⟨xs.map some ++ List.replicate (N.length - ps.length) none, cs⟩ := by rw [← hm]; exact ht
    refine thn ((hbody cdv A outer s H E (Bs.at ad F H (cs.flatMap Cell.ads)) h0 hr).run _ _ ht' ad F H _ hsl pins sh I) fun fl s' z => ?_
    cases fl with
    | next =>
      obtain ⟨σ2, H2, I2, ad2, F2, s2, r2, h2⟩ := z
      exact ⟨σ2, H2, I2, q .non H2 (ret_post hm r2 (x := .d .none) rfl h2)⟩
    | brk => obtain ⟨σ2, H2, I2, ad2, F2, s2, r2, h2⟩ := z; exact h2.elim
    | cont => obtain ⟨σ2, H2, I2, ad2, F2, s2, r2, h2⟩ := z; exact h2.elim
    | ret u =>
      obtain ⟨v, σ2, H2, I2, rv, ad2, F2, x2, s2, σ3, r2, hv, h2⟩ := z
      exact ⟨v, σ2, H2, I2, rv, q v H2 (ret_post hm r2 hv h2)⟩
end
section
variable {X : Cx} {B : Bs} {ad : List Addr} {F H : Hp} {s : AS} {σ : St} {x y : AVal} {u v : V} {a b c e o : Expr} {es : List Expr} {pos p p2 : Pos} {ta tb tc : TEA} {tl : TLA} {k n : Nat} {f : Addr} {fd : FuncData} {ps : List Str} {t : SpT}
/-! ## a, b = f(..): the tuple told is taken apart -/
def two2 (g1 g2 : TGA) : List AVal → AS → (AS → Prop) → Prop := fun xs s Q => match xs with
  | [x, y] => g1 x s fun s1 => g2 y s1 Q
  | _ => False
theorem sa_callU2 {x : Str} {t1 t2 : Expr} {ks1 ks2 : List Nat} {g1 g2 : TGA} {kk : Nat} {tp : Pos} (G : FnOk X.prog X.w X.K X.mg X.base CX0 k f fd ps (spA n t)) (hr : Room k X.A) (hm : X.mg x = some (.ref f)) (hk : PySem.W.keepIn X.K (.ref f) = true) (hb : Binds X.K fd ps []) (ha : EL X B (e :: es) tl) (hc : X.calm = true) (h1 : GT X t1 ks1 g1) (h2 : GT X t2 ks2 g2)
    (hn : (e :: es).length = n := by rfl) (hg : Gl X x := by rfl) (hdb : (x == ("__debug__" : Str)) = false := by decide) (l : Pl X e es pos := by exact ⟨rfl, rfl⟩)
    (hs : swapsWithSole [.Tuple [t1, t2] kk tp] (.Call (.Name x p) (e :: es) [] pos) p2.line X.env = pure false := by rfl) (hw : swappedStores [.Tuple [t1, t2] kk tp] (.Call (.Name x p) (e :: es) [] pos) X.env = pure none := by rfl)
    (ha1 : (assignEach [.Tuple [t1, t2] kk tp] X.env).map (·.2) = [assign (.Tuple [t1, t2] kk tp) X.env] := by rfl)
    (hs1 : (assignEach [t1, t2] X.env).map (·.2) = assign t1 X.env :: (assignEach [t2] X.env).map (·.2) := by rfl) (hs2 : (assignEach [t2] X.env).map (·.2) = assign t2 X.env :: (assignEach [] X.env).map (·.2) := by rfl)
    (hnn : (assignEach [t1, t2] X.env).length = 2 := by rfl) (hst : (assignEach [t1, t2] X.env).findIdx? (·.1) = none := by rfl) :
    SA X B (.Assign [.Tuple [t1, t2] kk tp] (.Call (.Name x p) (e :: es) [] pos) p2) (callU t tl (two2 g1 g2)) := ⟨fun D s h ad F H σ r =>
  ws_asg (we_of (pe_call G hr hg hm hk hb .nil pass0 pa_wa hdb l.he l.hpl) ((ha.run ad F H s σ _ r h).imp fun vs H1 q => by
    obtain ⟨ad1, F1, xs, s1, e1, k1, r1, hv, hxl, q⟩ := q
    show spA n t (vs ++ []) H1 _ E0
    rw [List.append_nil]
    have fin : ∀ (ad2 : List Addr) (F2 H2 : Hp) (s2 : AS) (ys : List AVal) (ws : List V) (q0 : Addr), Rl B ad2 F2 H2 s2 σ → H2 q0 = some (.tup ws) → Paired (VOk ad2 F2) ys ws → two2 g1 g2 ys s2 D.nx → WG X (.Tuple [t1, t2] kk tp) (.ref q0) σ H2 (liftD B D).nx := by
      intro ad2 F2 H2 s2 ys ws q0 r2 hH hp ht
      match ys, ws, hp, ht with
      | [y1, y2], _, .cons (b := v1) p1 (.cons (b := v2) p2 .nil), ht =>
        refine wg_unp hc (pgs_cons pg_wg (pgs_cons pg_wg pgs_nil hs2) hs1) hnn hst (.inl hH) rfl ⟨v1, [v2], rfl, ?_⟩
        refine (h1.run B ad2 F2 H2 s2 σ y1 v1 _ r2 p1 ht).mono2 ?_
        rintro σ1 H3 ⟨rfl, k1, s3, r3, t3⟩
        refine ⟨v2, [], rfl, (h2.run B ad2 F2 H3 s3 σ1 y2 v2 _ r3 p2 t3).mono2 ?_⟩
        rintro σ2 H4 ⟨rfl, k2, s4, r4, t4⟩
        exact ⟨rfl, ad2, F2, s4, r4, t4⟩
    refine call_post (by rw [← Paired.len hv, hxl]; exact hn) r1 hv q (fun F2 H2 y v s2 r2 k2 hd hp => ?_) (fun F2 H2 H3 c p o s2 _ _ _ _ _ _ hP => hP.elim) (fun F2 H2 t p s2 _ _ _ hP => hP.elim) (fun F2 H2 k n p s2 _ _ _ _ hP => hP.elim) (fun F2 H2 ex new ad' ys ws p s2 r2 hl2 k2 hl' he' hpt hys ⟨zs, hz, hP⟩ => ?_)
    · cases y with
      | tuple ds =>
        obtain ⟨a, ws, rfl, g1, g2⟩ := hd
        exact fin ad1 F2 H2 s2 _ ws a r2 (r2.fh _ _ g1) (pairedD g2) hp
      | _ => exact hp.elim
    · rw [← hl'] at hz
      have hz' : backs (refsOf xs).length (refsOf xs) s2.cs.length ys = some zs := by rw [hl'] at hz; exact hz
      exact fin (ad1 ++ ex) F2 H2 _ zs ws p r2 hpt (backs_ok hl' he' hl2 hys hz') hP)) hs hw ha1⟩
/-! ## further list words -/
def insertA (x : AVal) (xs : List AVal) : TEA := fun s Q => two (fun y z => onLst s x fun n ds => onSome y.int? fun i => onSome z.data? fun d => (ds.length < sizeLine ∧ 0 ≤ i ∧ i < 2 ^ 63) ∧ Q (.d .none) ⟨s.sl, s.cs.set n (.lst (ds.take i.toNat ++ [d] ++ ds.drop i.toNat))⟩) xs
theorem m_insert : MtA X B "list.insert" insertA := fun ad F H s σ x xs u us Q r hx hp t => by
  obtain ⟨y, z, w, w', rfl, rfl, hy, hz, t⟩ := two_ok t hp
  obtain ⟨n, ds, p, vs, hc, h1, rfl, h2, h3, i, ei, d, ed, ⟨hl, h0, h63⟩, q⟩ := onLst_ok r hx t
  have := AVal.data?_of ed
  subst this
  have := AVal.int?_of ei
  subst this
  obtain rfl : w = .int i := hy
  exact ⟨_, mt_insert, p, vs, i, w', rfl, rfl, h2, by rw [h3.length]; exact hl, h0, h63, .putL (d := .none) r hc h1 (((h3.take _).snoc hz).append (h3.drop _)) rfl q⟩
def revN (ta : TEA) : TNA := fun s Q => ta s fun x s1 => onSome (listOf s1 x) fun ds => Q (.lst ds.reverse) s1
theorem DaAll.rev : ∀ {ds : List PyData} {vs : List V}, DaAll F ds vs → DaAll F ds.reverse vs.reverse
  | [], _, h => by obtain rfl := (show _ = [] from h); exact daAll_nil
  | d :: ds, _, h => by
    obtain ⟨v, r, rfl, h1, h2⟩ := (show ∃ v r, _ = v :: r ∧ Da F d v ∧ DaAll F ds r from h)
    rw [List.reverse_cons, List.reverse_cons]
    exact (DaAll.rev h2).snoc h1
theorem en_rev {kk : Nat} {p1 p2 p3 : Pos} (ha : EA X B a ta) : EN X B (.Subscript a (.Slice none none (some (.UnaryOp .USub (.Constant (.int 1) kk p1) p2)) p3) pos) (revN ta) := ⟨fun ad F H s σ Q r t =>
  we_of (pe_revL pe_we) ((ha.run ad F H s σ _ r t).imp fun v H1 q => by
    obtain ⟨ad1, F1, x, s1, e1, k1, r1, hv, ds, hds, q⟩ := q
    obtain ⟨l, vs, rfl, h1, h2⟩ := hv.list r1 hds
    exact ⟨l, vs, rfl, SqL.of h1, fun p hp => (PostN.here (c := .lst ds.reverse) r1 hp ⟨_, upd_same, h2.rev⟩ rfl q).up e1 k1⟩)⟩
/-- list(range(n)) -/
def listR1 (ta : TEA) : TNA := fun s Q => ta s fun x s1 => onSome x.int? fun n => (0 ≤ n ∧ n ≤ 16777216) ∧ Q (.lst (intsD 0 n)) s1
theorem daAll_rg {a b : Int} : DaAll F (intsD a b) (rgV a b) := by
  unfold intsD rgV
  generalize (b - a).toNat = n
  have key : ∀ l : List Nat, DaAll F (l.map fun i : Nat => PyData.int (a + (i : Int))) (l.map fun i => V.int (a + (i : Nat))) := by
    intro l
    induction l with
    | nil => exact daAll_nil
    | cons x l ih => exact daAll_cons rfl ih
  exact key _
theorem en_listR1 {p1 p2 : Pos} (hm : X.mg "list" = none) (hm2 : X.mg "range" = none) (hc : X.calm = true) (ha : EA X B a ta) (hg : Gl X "list" := by rfl) (hg2 : Gl X "range" := by rfl)
    (na : starEach [a] X.env = (false, eval a X.env) :: starEach [] X.env := by rfl) (nb : starEach [.Call (.Name "range" p1) [a] [] p2] X.env = (false, eval (.Call (.Name "range" p1) [a] [] p2) X.env) :: starEach [] X.env := by rfl) : EN X B (.Call (.Name "list" p) [.Call (.Name "range" p1) [a] [] p2] [] pos) (listR1 ta) := ⟨fun ad F H s σ Q r t =>
  we_of (pe_listRg hc hg hm (prg_1 hg2 hm2 pe_we na) nb) ((ha.run ad F H s σ _ r t).imp fun v H1 q => by
    obtain ⟨ad1, F1, x, s1, e1, k1, r1, hv, n, hn, ⟨h0, h1⟩, q⟩ := q
    have := AVal.int?_of hn
    subst this
    exact ⟨n, hv, RgOk.of_le (Int.le_refl _) h1 (by omega) h0, fun q0 hq0 => (PostN.here (c := .lst (intsD 0 n)) r1 hq0 ⟨_, upd_same, daAll_rg⟩ rfl q).up e1 k1⟩)⟩
/-- a sign, some times or not at all -/
def repZ (x : Str) (n : Int) : Str := if n < 1 then Str.empty else repS x n
theorem op_repZ : OpR X (binaryOp .Mult) (fun x y H Q => ∃ z n, x = V.str z ∧ y = V.int n ∧ -1000 ≤ n ∧ n ≤ 1000 ∧ z.length = 1 ∧ Q (.str (repZ z n)) H) := by
  intro pins s σ H x y v u Q I rx ry h
  obtain ⟨z, n, rfl, rfl, h0, h2, hz, q⟩ := h
  by_cases h1 : 1 ≤ n
  · refine op_repS pins s σ H _ _ v u Q I rx ry ⟨z, n, rfl, rfl, h1, h2, hz, ?_⟩
    unfold repZ at q
    rw [if_neg (by omega)] at q
    exact q
  · obtain ⟨t, rfl⟩ := rx
    obtain ⟨t', rfl⟩ := ry
    refine PySem.P.mul_str_none (by omega) (by omega) ?_
    unfold repZ at q
    rw [if_pos (by omega)] at q
    exact ⟨.str _, H, I.tok _, ⟨_, rfl⟩, q⟩
def mulX : AVal → AVal → TEA := fun x y s Q => match x with
  | .d (.str z) => onSome y.int? fun n => (-1000 ≤ n ∧ n ≤ 1000 ∧ z.length = 1) ∧ Q (.d (.str (repZ z n))) s
  | x => mulA x y s Q
theorem o_mulX : OpA X B (binaryOp .Mult) mulX := fun ad F H s σ x y u v Q r hx hy t => by
  unfold mulX at t
  split at t
  · rename_i z
    obtain ⟨n, en, ⟨h1, h2, h3⟩, q⟩ := t
    have := AVal.int?_of en
    subst this
    exact ⟨_, op_repZ, z, n, hx, hy, h1, h2, h3, .here (x := .d (.str (repZ z n))) r rfl q⟩
  · exact o_mul ad F H s σ _ y u v Q r hx hy t
theorem mulX_int {i : Int} {s : AS} {Q : VQ} : mulX (.d (.int i)) y s Q = onSome y.int? fun j => CMul i j ∧ Q (.d (.int (i * j))) s := rfl
theorem mulX_str {z : Str} {s : AS} {Q : VQ} : mulX (.d (.str z)) y s Q = onSome y.int? fun n => (-1000 ≤ n ∧ n ≤ 1000 ∧ z.length = 1) ∧ Q (.d (.str (repZ z n))) s := rfl
theorem mulX_lst {ds : List PyData} {s : AS} {Q : VQ} : mulX (.d (.list ds)) y s Q = onSome y.int? fun n => (-(2 ^ 63) ≤ n ∧ n < 2 ^ 63 ∧ ds.length * n.toNat ≤ sizeLine) ∧ Q (.d (.list (repL n ds))) s := mulA_lst
theorem mulX_r {m : Nat} {s : AS} {Q : VQ} : mulX (.r m) y s Q = onSome (listOf s (.r m)) fun ds => onSome y.int? fun n => (-(2 ^ 63) ≤ n ∧ n < 2 ^ 63 ∧ ds.length * n.toNat ≤ sizeLine) ∧ Q (.d (.list (repL n ds))) s := rfl
end
/-! ## statements one behind the other, opened up to a test -/
section
variable {t u : TSA} {D : DA} {s : AS} {te tf tg : TEA} {g : TGA} {k m : Nat}
theorem cutA (J : AS → Prop) (h1 : ∀ M, (∀ s', J s' → M s') → t ⟨M, D.rt, D.bk, D.ct⟩ s) (h2 : ∀ s', J s' → u D s') : seqA t u D s := h1 (u D) h2
theorem seq_set : seqA (setA k te) u D s = te s fun x s1 => u D ⟨s1.sl.set k (some x), s1.cs⟩ := rfl
theorem seq_drop : seqA (dropA te) u D s = te s fun _ s1 => u D s1 := rfl
theorem seq_asg : seqA (asgA te g) u D s = te s fun x s1 => g x s1 (u D) := rfl
theorem seq_next : seqA nextA u D s = u D s := rfl
theorem seq_callU {t : SpT} {tl : TLA} {gg : List AVal → AS → (AS → Prop) → Prop} : seqA (callU t tl gg) u D s = tl s fun xs s1 => callW t xs s1 (resU (refsOf xs) fun ys s2 => gg ys s2 (u D)) := rfl
theorem seq_putS : seqA (putS te tf tg) u D s = te s fun v s1 => tf s1 fun x s2 => tg s2 fun y s3 => onDct s3 x fun n ds => onSome y.key? fun k => onSome v.data? fun d => ds.length < sizeLine ∧ u D ⟨s3.sl, s3.cs.set n (.dK (putA ds k d))⟩ := rfl
theorem seq_putL : seqA (putL te tf tg) u D s = te s fun v s1 => tf s1 fun x s2 => tg s2 fun y s3 => onSome y.int? fun i => onSome v.data? fun d => putLV ⟨u D, D.rt, D.bk, D.ct⟩ s3 i d x := rfl
theorem seq_for {ti : AS → (List PyData → AS → Prop) → Prop} : seqA (forA m ti g t) u D s = ti s fun ds s1 => forW m g t ⟨u D, D.rt, D.bk, D.ct⟩ ds s1 := rfl
theorem seq_forD : seqA (forDA m k g t) u D s = onSome (s.sl[k]?.bind id) (forDV m g t ⟨u D, D.rt, D.bk, D.ct⟩ s) := rfl
theorem seq_forH {ti : TIH} : seqA (forHA m ti g t) u D s = forHA m ti g t ⟨u D, D.rt, D.bk, D.ct⟩ s := rfl
theorem seq_aug {gg : Int → Int → Int} : seqA (augS gg te tf tg) u D s = augS gg te tf tg ⟨u D, D.rt, D.bk, D.ct⟩ s := rfl
theorem seq_seq {t' : TSA} : seqA (seqA t t') u D s = seqA t (seqA t' u) D s := rfl
end
/-! ## == [] of a list of trees -/
def emptyC : Cell → Option Bool
  | .lst ds => some ds.isEmpty
  | .fz (.list ds) => some ds.isEmpty
  | .tr (.nd .lst _ ts) => some ts.isEmpty
  | _ => none
def emptyV (s : AS) : AVal → Option Bool
  | .r n => (s.cs[n]?).bind emptyC
  | .d (.list ds) => some ds.isEmpty
  | _ => none
def nilTT (neg : Bool) (ta : TEA) : TTA := fun s Q => ta s fun x s1 => onSome (emptyV s1 x) fun b => Q (b != neg) s1
section
variable {X : Cx} {B : Bs} {ad : List Addr} {F H : Hp} {s : AS} {σ : St} {x y : AVal} {u v : V} {a : Expr} {pos : Pos} {ta : TEA}
theorem emptyV_ok {b : Bool} (r : Rl B ad F H s σ) (h : VOk ad F x v) (e : emptyV s x = some b) : ∃ l vs, v = .ref l ∧ H l = some (.lst vs) ∧ vs.isEmpty = b := by
  have da : ∀ {ds : List PyData} {vs : List V}, DaAll F ds vs → vs.isEmpty = ds.isEmpty := fun {ds vs} h => by
    have := h.length
    cases ds <;> cases vs <;> simp at this ⊢
  cases x with
  | s _ _ => cases e
  | a _ _ _ => cases e
  | d x =>
    cases x with
    | list ds => cases e; obtain ⟨a, xs, rfl, h1, h2⟩ := h; exact ⟨a, xs, rfl, r.fh _ _ h1, da h2⟩
    | _ => cases e
  | r n =>
    obtain ⟨a, h1, rfl⟩ := h
    have e' : (s.cs[n]?).bind emptyC = some b := e
    cases hc : s.cs[n]? with
    | none => rw [hc] at e'; cases e'
    | some c =>
      rw [hc] at e'
      have e' : emptyC c = some b := e'
      obtain ⟨_, _, ok⟩ := r.cel n a c h1 hc
      cases c with
      | lst ds => cases e'; obtain ⟨vs, g1, g2⟩ := ok; exact ⟨a, vs, rfl, g1, da g2⟩
      | fz y => cases y with
        | list ds => cases e'; obtain ⟨a', xs, e2, g1, g2⟩ := ok; cases e2; exact ⟨a, xs, rfl, r.fh _ _ g1, da g2⟩
        | _ => cases e'
      | tr t => cases t with
        | d _ => cases e'
        | nd k q ts => cases k with
          | lst =>
            cases e'
            obtain ⟨g1, g2⟩ := ok
            cases g1
            obtain ⟨_, vs, g3, _, g4⟩ := g2.node
            refine ⟨_, vs, rfl, g3, ?_⟩
            have := g4.length
            cases ts <;> cases vs <;> simp at this ⊢
          | _ => cases e'
      | _ => cases e'
theorem nil_runT (neg : Bool) (hu : X.A.units + 64 < cLine) (ha : EA X B a ta) {lp : Pos} {Q : Bool → AS → Prop} {K : Bool → VK} (r : Rl B ad F H s σ) (t : nilTT neg ta s Q) (hK : ∀ b H', PostT B ad F σ Q b H' → K b (.bl b) H') :
    WE X a σ H fun u H1 => WE X (.List [] lp) σ H1 fun v H2 => rAny X (compareOp (if neg then .NotEq else .Eq)) u v H2 fun w H3 => ∃ b, w = .bl b ∧ K b w H3 :=
  (ha.run ad F H s σ _ r t).imp fun u H1 q => by
    obtain ⟨ad1, F1, x, s1, e1, k1, r1, v1, b, ed, q⟩ := q
    refine we_nil fun p hp => ?_
    have r2 := r1.gr ((Gr.refl r1.fh).open' (o := .lst []) hp)
    obtain ⟨l, vs, rfl, h1, h2⟩ := emptyV_ok r1 v1 ed
    have hlp : l ≠ p := ne_of_none h1 hp
    have g1 : upd H1 p (.lst []) l = some (.lst vs) := by rw [upd_ne hlp]; exact h1
    have g2 : upd H1 p (.lst []) p = some (.lst []) := upd_same
    have fin : ∃ b, V.bl ((vs.isEmpty) != neg) = .bl b ∧ K b (.bl ((vs.isEmpty) != neg)) (upd H1 p (.lst [])) := ⟨_, rfl, hK _ _ ⟨ad1, F1, s1, e1, k1, r2, by rw [h2]; exact q⟩⟩
    cases vs with
    | nil =>
      have d1 : Dp X.K (upd H1 p (.lst [])) (.ref l) (.list []) := .lst (SqL.of g1) .nil
      have d2 : Dp X.K (upd H1 p (.lst [])) (.ref p) (.list []) := .lst (SqL.of g2) .nil
      cases neg with
      | false => exact ⟨_, op_eqD hu, _, _, d1, d2, rfl, rfl, fin⟩
      | true => exact ⟨_, op_neD hu, _, _, d1, d2, rfl, rfl, fin⟩
    | cons w ws =>
      cases neg with
      | false => exact ⟨_, op_eqLen hu, l, p, _, [], rfl, rfl, SqL.of g1, SqL.of g2, by simp, fin⟩
      | true => exact ⟨_, op_neLen hu, l, p, _, [], rfl, rfl, SqL.of g1, SqL.of g2, by simp, fin⟩
theorem et_eqNilT (hu : X.A.units + 64 < cLine) (ha : EA X B a ta) {lp : Pos} : ET X B (.Compare a [.Eq] [.List [] lp] pos) (nilTT false ta) := ⟨fun ad F H s σ Q r t =>
  wt_of (pt_cmpR (op_any _) pe_we pe_we (nomark _)) (nil_runT false hu ha r t (K := fun b w H3 => PostT B ad F σ Q b H3) fun _ _ h => h)⟩
theorem et_neNilT (hu : X.A.units + 64 < cLine) (ha : EA X B a ta) {lp : Pos} : ET X B (.Compare a [.NotEq] [.List [] lp] pos) (nilTT true ta) := ⟨fun ad F H s σ Q r t =>
  wt_of (pt_cmpR (op_any _) pe_we pe_we (nomark _)) (nil_runT true hu ha r t (K := fun b w H3 => PostT B ad F σ Q b H3) fun _ _ h => h)⟩
theorem emptyV_r {n : Nat} : emptyV s (.r n) = (s.cs[n]?).bind emptyC := rfl
theorem emptyC_l {ds : List PyData} : emptyC (.lst ds) = some ds.isEmpty := rfl
theorem emptyC_t {q : Addr} {ts : List Tr} : emptyC (.tr (.nd .lst q ts)) = some ts.isEmpty := rfl
end
end Kr

/-! layer A21 -/
namespace Kr
open PySem L2
theorem hu65 {k : Nat} {A : Around} (h : Room k A) : A.units + 65 < cLine := by have := h.un; omega
/-! ## is None, is True -/
def noneV : AVal → Option Bool
  | .d .none => some true
  | .d _ => some false
  | .r _ => some false
  | .a _ _ _ => some false
  | .s _ _ => none
def isNT (neg : Bool) : AVal → AVal → TTA := fun x y s Q => y = .d .none ∧ onSome (noneV x) fun b => Q (b != neg) s
def isBT (neg : Bool) : AVal → AVal → TTA := fun x y s Q => onSome x.bool? fun b => onSome y.bool? fun c => Q (decide (b = c) != neg) s
section
variable {X : Cx} {B : Bs} {ad : List Addr} {F H : Hp} {s : AS} {σ : St} {x y : AVal} {u v : V}
theorem noneV_ok {b : Bool} (h : VOk ad F x v) (e : noneV x = some b) : decide (v = .non) = b := by
  cases x with
  | s _ _ => cases e
  | a _ _ _ => cases e; obtain rfl := (show v = .ref _ from h); rfl
  | r n => cases e; obtain ⟨a, _, rfl⟩ := h; rfl
  | d d =>
    cases d with
    | none => cases e; obtain rfl := (show v = .non from h); rfl
    | bool _ => cases e; obtain rfl := (show v = .bl _ from h); rfl
    | int _ => cases e; obtain rfl := (show v = .int _ from h); rfl
    | str _ => cases e; obtain rfl := (show v = .str _ from h); rfl
    | list _ => cases e; obtain ⟨a, xs, rfl, _⟩ := h; rfl
    | tuple _ => cases e; obtain ⟨a, xs, rfl, _⟩ := h; rfl
    | dict _ => cases e; obtain ⟨a, xs, rfl, _⟩ := h; rfl
theorem o_isN : OpT X B (compareOp .Is) (isNT false) := fun ad F H s σ x y u v Q r hx hy ⟨ey, b, eb, q⟩ => by
  subst ey
  obtain rfl := (show v = .non from hy)
  refine ⟨_, _, q, op_isN, fun K k => ⟨rfl, ?_⟩⟩
  rw [noneV_ok hx eb]
  simpa using k
theorem o_notN : OpT X B (compareOp .IsNot) (isNT true) := fun ad F H s σ x y u v Q r hx hy ⟨ey, b, eb, q⟩ => by
  subst ey
  obtain rfl := (show v = .non from hy)
  refine ⟨_, _, q, op_notN, fun K k => ⟨rfl, ?_⟩⟩
  rw [noneV_ok hx eb]
  simpa using k
theorem o_isB : OpT X B (compareOp .Is) (isBT false) := fun ad F H s σ x y u v Q r hx hy ⟨b, eb, c, ec, q⟩ => by
  have := AVal.bool?_of eb
  subst this
  have := AVal.bool?_of ec
  subst this
  exact ⟨_, _, q, op_isBl, fun K k => ⟨b, c, hx, hy, by simpa using k⟩⟩
theorem o_notB : OpT X B (compareOp .IsNot) (isBT true) := fun ad F H s σ x y u v Q r hx hy ⟨b, eb, c, ec, q⟩ => by
  have := AVal.bool?_of eb
  subst this
  have := AVal.bool?_of ec
  subst this
  exact ⟨_, _, q, op_notBl, fun K k => ⟨b, c, hx, hy, by simpa using k⟩⟩
theorem noneV_none : noneV (.d .none) = some true := rfl
theorem noneV_list {ds : List PyData} : noneV (.d (.list ds)) = some false := rfl
theorem noneV_r {n : Nat} : noneV (.r n) = some false := rfl
/-! ## in a list of lists -/
def inDT (neg : Bool) : AVal → AVal → TTA := fun x y s Q => onSome (dataOf s x) fun d => onSome (dataOf s y) fun e => match e with
  | .list ds => (SeqAt.shaped d = true ∧ SeqAt.shaped (.list ds) = true) ∧ Q ((ds.any fun z => PyData.eqv z d) != neg) s
  | _ => False
theorem o_inD (hu : X.A.units + 65 < cLine) : OpT X B (compareOp .In) (inDT false) := fun ad F H s σ x y u v Q r hx hy ⟨d, e1, e, e2, t⟩ => by
  cases e with
  | list ds =>
    obtain ⟨⟨h1, h2⟩, q⟩ := t
    exact ⟨_, _, q, op_inD hu, fun K k => ⟨d, ds, hx.dp r e1 (SeqAt.canLay_of_shaped h1), hy.dp r e2 (SeqAt.canLay_of_shaped h2), h1, h2, by simpa using k⟩⟩
  | _ => exact t.elim
theorem o_notInD (hu : X.A.units + 65 < cLine) : OpT X B (compareOp .NotIn) (inDT true) := fun ad F H s σ x y u v Q r hx hy ⟨d, e1, e, e2, t⟩ => by
  cases e with
  | list ds =>
    obtain ⟨⟨h1, h2⟩, q⟩ := t
    exact ⟨_, _, q, op_notInD hu, fun K k => ⟨d, ds, hx.dp r e1 (SeqAt.canLay_of_shaped h1), hy.dp r e2 (SeqAt.canLay_of_shaped h2), h1, h2, by simpa using k⟩⟩
  | _ => exact t.elim
theorem inDT_list {neg : Bool} {d e : PyData} {ds : List PyData} {Q : Bool → AS → Prop} (e1 : dataOf s x = some d) (e2 : dataOf s y = some (.list ds)) : inDT neg x y s Q = ((SeqAt.shaped d = true ∧ SeqAt.shaped (.list ds) = true) ∧ Q ((ds.any fun z => PyData.eqv z d) != neg) s) := by
  unfold inDT onSome
  rw [e1, e2]
  simp
/-! ## tuples told for good: t + u, t[i:], t[:i] -/
def tupD : AVal → Option (List PyData)
  | .d (.tuple ds) => some ds
  | _ => none
theorem tupD_of {ds : List PyData} (e : tupD x = some ds) : x = .d (.tuple ds) := by
  cases x with
  | d x => cases x with
    | tuple es => cases e; rfl
    | _ => cases e
  | _ => cases e
def tcatA : AVal → AVal → TEA := fun x y s Q => onSome (tupD x) fun ds => onSome (tupD y) fun es => ds.length + es.length ≤ sizeLine ∧ Q (.d (.tuple (ds ++ es))) s
theorem o_tcat : OpA X B (binaryOp .Add) tcatA := fun ad F H s σ x y u v Q r hx hy ⟨ds, e1, es, e2, hz, q⟩ => by
  have := tupD_of e1
  subst this
  have := tupD_of e2
  subst this
  obtain ⟨a, xs, rfl, h1, h2⟩ := (show ∃ a xs, u = .ref a ∧ F a = some (.tup xs) ∧ DaAll F ds xs from hx)
  obtain ⟨b, ys, rfl, h3, h4⟩ := (show ∃ a xs, v = .ref a ∧ F a = some (.tup xs) ∧ DaAll F es xs from hy)
  refine ⟨_, op_catA, a, b, xs, ys, rfl, rfl, SqT.of (r.fh _ _ h1), SqT.of (r.fh _ _ h3), by rw [h2.length, h4.length]; exact hz, fun z => ?_, fun _ z => ?_, fun _ _ p hp => .newD (d := .tuple (ds ++ es)) r hp ⟨p, _, rfl, upd_same, (h2.append h4).mono (same_upd (r.fh.free hp))⟩ q⟩
  · subst z
    have : ds = [] := List.eq_nil_of_length_eq_zero (by rw [← h2.length]; rfl)
    subst this
    exact .here (x := .d (.tuple es)) r ⟨b, ys, rfl, h3, h4⟩ q
  · subst z
    have : es = [] := List.eq_nil_of_length_eq_zero (by rw [← h4.length]; rfl)
    subst this
    rw [List.append_nil] at q
    exact .here (x := .d (.tuple ds)) r ⟨a, xs, rfl, h1, h2⟩ q
def tslA (lo hi : Option Int) (x : AVal) : TEA := fun s Q => onSome (tupD x) fun ds => Q (.d (.tuple (cutD ds lo hi))) s
theorem tslA_ok {lo hi : Option Int} {Q : VQ} (r : Rl B ad F H s σ) (hx : VOk ad F x u) (t : tslA lo hi x s Q) : rAnySl X u lo hi H (Post B ad F σ Q) := by
  obtain ⟨ds, e1, q⟩ := t
  have := tupD_of e1
  subst this
  obtain ⟨a, xs, rfl, h1, h2⟩ := (show ∃ a xs, u = .ref a ∧ F a = some (.tup xs) ∧ DaAll F ds xs from hx)
  refine ⟨_, sl_tupA, a, xs, rfl, SqT.of (r.fh _ _ h1), fun ⟨z1, z2⟩ => ?_, fun _ p hp => .newD (d := .tuple (cutD ds lo hi)) r hp ⟨p, _, rfl, upd_same, (h2.cut lo hi).mono (same_upd (r.fh.free hp))⟩ q⟩
  have e : cutD ds lo hi = ds := by
    unfold cutD
    rw [h2.length] at z1 z2
    rw [z1, z2, List.drop_zero, Nat.sub_zero, List.take_length]
  rw [e] at q
  exact .here (x := .d (.tuple ds)) r ⟨a, xs, rfl, h1, h2⟩ q
def tslHi (ta tb : TEA) : TEA := fun s Q => ta s fun x s1 => tb s1 fun y s2 => onSome y.int? fun i => tslA none (some i) x s2 Q
def tslLo (ta tb : TEA) : TEA := fun s Q => ta s fun x s1 => tb s1 fun y s2 => onSome y.int? fun i => tslA (some i) none x s2 Q
theorem ea_tslHi {a b : Expr} {pos p2 : Pos} {ta tb : TEA} (ha : EA X B a ta) (hb : EA X B b tb) : EA X B (.Subscript a (.Slice none (some b) none p2) pos) (tslHi ta tb) := ⟨fun ad F H s σ Q r t =>
  we_of (pe_slice sl_any pe_we po_none (po_some pe_we)) (we2 (R := fun u v H2 => ∃ i, v = .int i ∧ rAnySl X u none (some i) H2 (Post B ad F σ Q)) (K := fun _ _ => True) ha hb r t fun ad2 F2 H2 s2 x y u v e k r2 hu hv ⟨i, ei, t2⟩ => by
    have := AVal.int?_of ei
    subst this
    exact ⟨i, hv, slUp (tslA_ok r2 hu t2) fun _ _ h => h.up e k⟩)⟩
theorem ea_tslLo {a b : Expr} {pos p2 : Pos} {ta tb : TEA} (ha : EA X B a ta) (hb : EA X B b tb) : EA X B (.Subscript a (.Slice (some b) none none p2) pos) (tslLo ta tb) := ⟨fun ad F H s σ Q r t =>
  we_of (pe_slice sl_any pe_we (po_some pe_we) po_none) (we2 (R := fun u v H2 => ∃ i, v = .int i ∧ rAnySl X u (some i) none H2 (Post B ad F σ Q)) (K := fun _ _ => True) ha hb r t fun ad2 F2 H2 s2 x y u v e k r2 hu hv ⟨i, ei, t2⟩ => by
    have := AVal.int?_of ei
    subst this
    exact ⟨i, hv, slUp (tslA_ok r2 hu t2) fun _ _ h => h.up e k⟩)⟩
theorem tupD_t {ds : List PyData} : tupD (.d (.tuple ds)) = some ds := rfl
end
end Kr

/-! layer A22 -/
namespace Kr
open PySem L2
/-! ## sorted of a list of any data that are alike -/
section
variable {X : Cx} {B : Bs} {ad : List Addr} {F H : Hp} {s : AS} {σ : St} {x y : AVal} {u v : V}
def rSortedD (X : Cx) : List V → Hp → VK → Prop := fun vs H Q => ∃ (a : Addr) (xs : List V) (ds : List PyData) (Rr : V → PyData → Prop), vs = [V.ref a] ∧ SqL X.K H a xs ∧ Paired (fun x d => Rr x d ∧ Dp X.K H x d) xs ds ∧ PySem.W.AllAlike ds ∧ PySem.W.Sortable ds ∧ (∀ d ∈ ds, d.depth ≤ 60) ∧
  ∀ ys p, Paired Rr ys (ds.mergeSort (PySem.W.dataLe false id)) → H p = none → Q (.ref p) (upd H p (.lst ys))
theorem each_vals {Rr : V → PyData → Prop} {pins : List (Addr × Obj)} {s : Shared} {H : Hp} (I : Inv X pins σ H s) : ∀ {xs : List V} {us : List Value} {ds : List PyData}, Vals xs us → Paired (fun x d => Rr x d ∧ Dp X.K H x d) xs ds →
    PySem.W.EachIs (fun u d => ∃ x, RelV x u ∧ Rr x d) us ds ∧ PySem.W.EachIs (fun u d => ∃ as, PySem.Reads s.heap u (id d) as) us ds
  | _, _, _, .nil, .nil => ⟨.nil, .nil⟩
  | _, _, _, .cons rx rv, .cons h t => by
    obtain ⟨h1, h2⟩ := each_vals I rv t
    obtain ⟨as, r1⟩ := Dp.reads I _ _ _ h.2 rx
    exact ⟨.cons ⟨_, rx, h.1⟩ h1, .cons ⟨as, r1⟩ h2⟩
theorem vals_each {Rr : V → PyData → Prop} : ∀ {us : List Value} {ds : List PyData}, PySem.W.EachIs (fun u d => ∃ x, RelV x u ∧ Rr x d) us ds → ∃ ys, Vals ys us ∧ Paired Rr ys ds
  | _, _, .nil => ⟨[], .nil, .nil⟩
  | _, _, .cons h t => by
    obtain ⟨x, h1, h2⟩ := h
    obtain ⟨ys, h3, h4⟩ := vals_each t
    exact ⟨x :: ys, .cons h1 h3, .cons h2 h4⟩
theorem cr_sortedD (hu : X.A.units + 64 < cLine) : CallR X (.builtin "sorted") (rSortedD X) := by
  intro pins s σ H vs us Q I r h
  obtain ⟨a, xs, ds, Rr, rfl, hs, hp, hal, hso, hd, q⟩ := h
  obtain ⟨its, rv, hl, hz⟩ := I.list hs
  rw [Vals.ref1 r]
  obtain ⟨e1, e2⟩ := each_vals I rv hp
  have hln : xs.length = ds.length := Paired.len hp
  refine PySem.W.sorted_data (enc := id) (bs := ds) hl.isList e1 e2 (by rw [List.map_id]; exact hal) (by rw [List.map_id]; exact hso) (by rw [← hln]; exact hz) (fun d hdm => ?_) fun out ho heach => ?_
  · have := hd d hdm
    show X.A.units + 2 + d.depth < cLine
    omega
  · obtain ⟨ys, k1, k2⟩ := vals_each heach
    obtain ⟨ep, he'⟩ := PyProof.Rows.sortedAll_at s.heap its out.toArray
    have hlen : ys.length ≤ sizeLine := by
      rw [k1.length, ho, ← hln]; exact hz
    exact ⟨.ref _, upd H (s.heap.objs.size + 1) (.lst ys), I.laid (t' := s.toks) (fun _ _ => PyProof.Rows.sortedAll_old) (Nat.le_succ _) ⟨hlen, out, ep, k1, he'⟩, rfl, q _ _ k2 (I.hok.fresh (Nat.le_succ _))⟩
def sortedDN (xs : List AVal) : TNA := fun s Q => one (fun x => onSome (listOf s x) fun ds => (PySem.W.AllAlike ds ∧ PySem.W.Sortable ds ∧ ∀ d ∈ ds, d.canLay0 = true ∧ d.depth ≤ 60) ∧ Q (.lst (ds.mergeSort (PySem.W.dataLe false id))) s) xs
theorem daAll_paired : ∀ {ds : List PyData} {vs : List V}, DaAll F ds vs → Paired (fun v d => Da F d v) vs ds
  | [], _, h => by obtain rfl := (show _ = [] from h); exact .nil
  | d :: ds, _, h => by
    obtain ⟨v, r, rfl, h1, h2⟩ := (show ∃ v r, _ = v :: r ∧ Da F d v ∧ DaAll F ds r from h)
    exact .cons h1 (daAll_paired h2)
theorem paired_daAll : ∀ {ds : List PyData} {vs : List V}, Paired (fun v d => Da F d v) vs ds → DaAll F ds vs
  | _, _, .nil => daAll_nil
  | _, _, .cons h t => daAll_cons h (paired_daAll t)
theorem paired_mem {α β : Type} {R : α → β → Prop} : ∀ {xs : List α} {ys : List β}, Paired R xs ys → Paired (fun x y => R x y ∧ y ∈ ys) xs ys
  | _, _, .nil => .nil
  | _, _, .cons h t => .cons ⟨h, List.mem_cons_self ..⟩ (Paired.imp (paired_mem t) fun _ _ k => ⟨k.1, List.mem_cons_of_mem _ k.2⟩)
theorem c_sortedD (hu : X.A.units + 64 < cLine) : CalN X B (.builtin "sorted") sortedDN := fun ad F H s σ xs us Q r hp t => by
  obtain ⟨x, u, rfl, rfl, hx, t⟩ := one_ok t hp
  obtain ⟨ds, e, ⟨h1, h2, h3⟩, q⟩ := t
  obtain ⟨l, vs, rfl, g1, g2⟩ := hx.list r e
  refine ⟨_, cr_sortedD hu, l, vs, ds, fun v d => Da F d v, rfl, SqL.of g1, ?_, h1, h2, fun d hd => (h3 d hd).2, fun ys p hys hn => .here (c := .lst (ds.mergeSort (PySem.W.dataLe false id))) r hn ⟨ys, upd_same, paired_daAll hys⟩ rfl q⟩
  exact Paired.imp (paired_mem (daAll_paired g2)) fun v d k => ⟨k.1, (Da.mono r.fh k.1).dp (h3 d k.2).1⟩
/-! ## list(dict) -/
def listDV (s : AS) (Q : Cell → AS → Prop) : View → Prop
  | .dct kvs => Q (.lst (kvs.map fun kv => keyD kv.1)) s
  | _ => False
def listDN (xs : List AVal) : TNA := fun s Q => one (fun x => listDV s Q (view s x)) xs
theorem da_keyV (k : Key) : Da F (keyD k) (kV k) := by
  cases k <;> rfl
theorem daAll_keys : ∀ {kvs : List (Key × AVal)} {es : List (Key × V)}, KrOk ad F kvs es → DaAll F (kvs.map fun kv => keyD kv.1) (es.map fun kv => kV kv.1)
  | _, _, .nil => daAll_nil
  | _, _, .cons h t => by
    rw [List.map_cons, List.map_cons, h.1]
    exact daAll_cons (da_keyV _) (daAll_keys t)
theorem c_listD (hc : X.calm = true) : CalN X B (.type "list") listDN := fun ad F H s σ xs us Q r hp t => by
  obtain ⟨x, u, rfl, rfl, hx, t⟩ := one_ok t hp
  unfold listDV at t
  split at t
  · rename_i kvs hk
    obtain ⟨l, es, rfl, h1, h2⟩ := hx.dct r hk
    exact ⟨_, call_listD hc, l, es, rfl, h1, fun p hp => .here (c := .lst _) r hp ⟨_, upd_same, daAll_keys h2⟩ rfl t⟩
  · exact t.elim
theorem listDN_V {Q : Cell → AS → Prop} : listDN [x] s Q = listDV s Q (view s x) := rfl
theorem listDV_dct {Q : Cell → AS → Prop} {kvs : List (Key × AVal)} : listDV s Q (.dct kvs) = Q (.lst (kvs.map fun kv => keyD kv.1)) s := rfl
theorem sortedDN_1 {Q : Cell → AS → Prop} : sortedDN [x] s Q = onSome (listOf s x) fun ds => (PySem.W.AllAlike ds ∧ PySem.W.Sortable ds ∧ ∀ d ∈ ds, d.canLay0 = true ∧ d.depth ≤ 60) ∧ Q (.lst (ds.mergeSort (PySem.W.dataLe false id))) s := rfl
/-! ## a comprehension over a dict that was just made: it stays locked -/
theorem we_lockV {e : Expr} {Q : VK} (h : WE X e σ H fun v H1 => ∃ d u, v = .ref d ∧ H1 d = some u ∧ Mut (some u) ∧ ∀ od, (∀ es, u = .dK es → es.length ≤ sizeLine) → Q v (upd H1 d (.frz od u))) : WE X e σ H Q := fun pins s I => thn (h pins s I) fun u s' ⟨v, H', I', r, d, uo, e, hd, mu, q⟩ => by
  obtain ⟨od, I2⟩ := I'.lock hd mu
  exact ⟨v, _, I2, r, q od fun es ee => by subst ee; exact (I'.hok d _ hd).1⟩
def keysC (m : Nat) (s : AS) (Q : List PyData → (List Cell → Prop) → AS → Prop) (n : Nat) : Cell → Prop
  | .dK kvs => m ≤ n ∧ Q (kvs.map fun kv => keyD kv.1) (fun _ => True) ⟨s.sl, s.cs.set n (.fz (dictD kvs))⟩
  | _ => False
def keysR (m : Nat) (s : AS) (Q : List PyData → (List Cell → Prop) → AS → Prop) : AVal → Prop
  | .r n => onSome s.cs[n]? fun c => keysC m s Q n c
  | _ => False
def iterKC (m : Nat) (ta : TEA) : TIO := fun s Q => ta s fun x s1 => keysR m s1 Q x
theorem io_keysC {tg e : Expr} {ta : TEA} (ha : EA X B e ta) : IO X B tg e (iterKC B.S.length ta) := ⟨fun ad F H s σ Q R r t k =>
  wi_of (pi_keys pe_we) (we_lockV ((ha.run ad F H s σ _ r t).imp fun v H1 q => by
    obtain ⟨ad1, F1, x, s1, e1, k1, r1, hx, q⟩ := q
    cases x with
    | d _ => exact q.elim
    | s _ _ => exact q.elim
    | a _ _ _ => exact q.elim
    | r n =>
      obtain ⟨p, hp, rfl⟩ := hx
      obtain ⟨c, hc, q⟩ := (show onSome s1.cs[n]? fun c => keysC B.S.length s1 Q n c from q)
      cases c with
      | dK kvs =>
        obtain ⟨hn, q⟩ := q
        obtain ⟨n0, l, es, h1, h2⟩ := r1.cel n p _ hp hc
        refine ⟨p, .dK es, rfl, h1, trivial, fun od hz => ⟨p, od, rfl, .inl ⟨es, upd_same, ?_⟩⟩⟩
        have hF := l rfl
        have r2 := r1.put (o := .frz od (.dK es)) (c := .dl od es kvs) hp hc rfl ⟨upd_same, h2⟩
        have hlt := (List.getElem?_eq_some_iff.mp hc).1
        have hc2 : (s1.cs.set n (.dl od es kvs))[n]? = some (.dl od es kvs) := List.getElem?_set_self hlt
        have sF : Same F1 (upd F1 p (.frz od (.dK es))) := same_upd hF
        have hkv : DaKV (upd F1 p (.frz od (.dK es))) (kvs.map fun p => (keyD p.1, p.2)) es := daKV_of (Paired.imp h2 fun _ _ z => ⟨z.1, z.2.mono sF⟩)
        have r3 := r2.freeze (i := n) (p := p) (o := .frz od (.dK es)) (y := dictD kvs) hp hc2 rfl hn upd_same ⟨p, es, rfl, .inr ⟨od, upd_same⟩, hkv⟩
        have es2 : (s1.cs.set n (.dl od es kvs)).set n (.fz (dictD kvs)) = s1.cs.set n (.fz (dictD kvs)) := List.set_set ..
        have r3' : Rl B ad1 (upd F1 p (.frz od (.dK es))) (upd H1 p (.frz od (.dK es))) ⟨s1.sl, s1.cs.set n (.fz (dictD kvs))⟩ σ := es2 ▸ r3
        have hl : es.length = ((kvs.map fun p => (keyD p.1, p.2)).map (·.1)).length := by rw [List.length_map]; exact daKV_len hkv
        have el : (kvs.map fun p => (keyD p.1, p.2)).map (·.1) = kvs.map fun kv => keyD kv.1 := by rw [List.map_map]; rfl
        refine k (Itk p od es) ad1 _ _ _ _ _ e1 (k1.trans sF) r3' (fun B3 ad3 F3 H3 s3 σ3 _ k3 r3 _ => ?_) ?_ q
        · obtain ⟨w1, w2⟩ := walk_keys (F3 := F3) (r3.fh _ _ (k3 _ _ upd_same)) hl (fun i d k v => daKV_key hkv)
          rw [el] at w1 w2
          refine ⟨fun i d e => ⟨(w1 i d e).1, fun x H4 y => ?_⟩, w2⟩
          obtain ⟨rfl, hd⟩ := (w1 i d e).2 x H4 y
          exact ⟨F3, .refl r3.fh, hd⟩
        · rw [← el, ← hl]
          exact hz es rfl
      | _ => exact q.elim))⟩
theorem iterKC_r {n m : Nat} {Q : List PyData → (List Cell → Prop) → AS → Prop} : keysR m s Q (.r n) = onSome s.cs[n]? fun c => keysC m s Q n c := rfl
theorem keysC_dK {n m : Nat} {kvs : List (Key × PyData)} {Q : List PyData → (List Cell → Prop) → AS → Prop} : keysC m s Q n (.dK kvs) = (m ≤ n ∧ Q (kvs.map fun kv => keyD kv.1) (fun _ => True) ⟨s.sl, s.cs.set n (.fz (dictD kvs))⟩) := rfl
/-! ## text <= text -/
def leST : AVal → AVal → TTA := fun x y s Q => onSome x.str? fun i => onSome y.str? fun j => Q (leS i j) s
theorem o_leS : OpT X B (compareOp .LtE) leST := fun ad F H s σ x y u v Q r hx hy ⟨i, ei, j, ej, q⟩ => by
  have := AVal.str?_of ei
  subst this
  have := AVal.str?_of ej
  subst this
  exact ⟨_, _, q, op_le_str, fun K k => ⟨i, j, hx, hy, k⟩⟩
/-! ## len(set(texts)) -/
theorem cr_lenSetS : CallR X (.builtin "len") (fun vs H Q => ∃ (a : Addr) (L : List Str), vs = [V.ref a] ∧ H a = some (SetSO X.w a L) ∧ Q (.int (L.length : Int)) H) := by
  intro pins s σ H vs us Q I r h
  obtain ⟨a, L, rfl, ha, q⟩ := h
  have R : StrSet X.w s.heap a L := (I.hok a _ ha).1
  rw [Vals.ref1 r]
  obtain ⟨ob, rows, ep, tb, h1, h2, h3, h4, h5, h6⟩ := R
  have hz : rows.size = L.length := by rw [← h5, List.length_map, Array.length_toList]
  have hsb : rows.size < 2 ^ 62 := Nat.lt_trans h6.2.1 (by decide)
  refine PySem.call_len_set h1 h2 h3 h6.2.2.1 (by omega) ⟨.int (rows.size : Int), H, ?_, ⟨_, rfl⟩, by rw [hz]; exact q⟩
  exact I.tok _
def lenSetA (ta : TEA) : TEA := fun s Q => ta s fun x s1 => onSome (listOf s1 x) fun ds => onSome (strs? ds) fun xs => xs.length ≤ 4000 ∧ Q (.d (.int ((kset xs).length : Int))) s1
theorem ea_lenSet {e : Expr} {ta : TEA} {p p2 pos pos2 : Pos} (hm : X.mg "len" = none) (hm2 : X.mg "set" = none) (hc : X.calm = true) (ha : EA X B e ta) (hg : Gl X "len" := by rfl) (hg2 : Gl X "set" := by rfl) (l : Pl X (.Call (.Name "set" p2) [e] [] pos2) [] pos := by exact ⟨rfl, rfl⟩) (l2 : Pl X e [] pos2 := by exact ⟨rfl, rfl⟩) :
    EA X B (.Call (.Name "len" p) [.Call (.Name "set" p2) [e] [] pos2] [] pos) (lenSetA ta) := ⟨fun ad F H s σ Q r t =>
  we_of (pe_callB cr_lenSetS hg hm (by decide +kernel) (pa_cons (pe_callTy (cr_setS hc) hg2 hm2 (by decide +kernel) (pa_cons pe_we pa_nil l2.he) (by decide) (by decide) l2.he l2.hpl) pa_nil l.he) (by decide) (by decide) l.he l.hpl)
    ((ha.run ad F H s σ _ r t).imp fun v H1 q => by
      obtain ⟨ad1, F1, x, s1, e1, k1, r1, hv, ds, ed, xs, ex, hl, q⟩ := q
      obtain ⟨m, vs, rfl, h1, h2⟩ := hv.list r1 ed
      have := strs?_of ex
      subst this
      obtain rfl := h2.strs
      refine ⟨m, xs, rfl, SqL.of h1, by show xs.length + 1 < 4096; omega, fun b L hb mt => ⟨b, L, rfl, upd_same, ?_⟩⟩
      have r2 := r1.gr ((Gr.refl r1.fh).open' (o := SetSO X.w b L) hb)
      have el : L.length = (kset xs).length := by rw [← mt.kset]; exact (srt_perm L).length_eq.symm
      rw [el]
      exact (Post.here (x := .d (.int ((kset xs).length : Int))) r2 rfl q).up e1 k1)⟩
end
end Kr

/-! layer A23 -/
namespace Kr
open PySem L2 PySem.Spec PyProof.Rows
/-! ## promises that know that no repr is under way -/
structure FnG (P : Program) (w : World) (K : PySem.W.Frag) (mg : Str → Option Value) (base : Heap) (CX : CXT) (k : Nat) (f : Addr) (fd : FuncData) (ps : List Str) (sp : Sp) : Prop where
  len : ∀ us H Q E, sp us H Q E → us.length = ps.length
  run : ∀ (A : Around) (outer : List Env) (s : Shared) (H : Hp) (args : Args) (us : List Value) (vs : List V) (Q : VK) (E : XK), A.guards = some [] → Room k A → Env0 P w K mg base A outer s H → BindsTo s fd args (ps.zip us) → Vals vs us → sp vs H Q E →
    codeAny (model P w) A (.call (.ref f) args) (CR CX outer P w H s Q E) s
section
variable {P : Program} {w : World} {K : PySem.W.Frag} {mg : Str → Option Value} {base : Heap}
theorem FnG.of {CX : CXT} {k : Nat} {f : Addr} {fd : FuncData} {ps : List Str} {sp : Sp} (h : FnOk P w K mg base CX k f fd ps sp) : FnG P w K mg base CX k f fd ps sp :=
  ⟨h.len, fun A outer s H args us vs Q E _ hr e0 hb hv hs => h.run A outer s H args us vs Q E hr e0 hb hv hs⟩
theorem FnG.mono {CX : CXT} {j k : Nat} {f : Addr} {fd : FuncData} {ps : List Str} {sp : Sp} (h : FnG P w K mg base CX j f fd ps sp) (hjk : j ≤ k) : FnG P w K mg base CX k f fd ps sp :=
  ⟨h.len, fun A outer s H args us vs Q E hg hr e0 hb hv hs => h.run A outer s H args us vs Q E hg (hr.mono hjk) e0 hb hv hs⟩
theorem okGd {x qual : Str} {st : Stmt} {f : Addr} {fd : FuncData} {N ps : List Str} {k : Nat} {sp : Sp} (Fn : Fun K x qual st f fd) (S : FnScope N ps (defScope st)) (len : ∀ us H Q E, sp us H Q E → us.length = ps.length)
    (hbody : ∀ (cdv : Value) (A : Around) (outer : List Env) (s : Shared) (H : Hp) (vs : List V) (Q : VK) (E : XK), A.guards = some [] → Room k (A.deeper (envOfC qual (defScope st) s.heap.objs.size f cdv)) → sp vs H Q E →
      WSs (cxOf CX0 P w K mg base N qual (defScope st) f cdv A outer s H E).nox (defBody st) { nx := fun _ H' => Q .non H', rt := Q } (start N vs) H) : FnG P w K mg base CX0 (k + 1) f fd ps sp := by
  obtain ⟨oc, od, kV, doc, pm, an, cdv, ct, osl, rfl, lk, hcd⟩ := Fn.ex
  refine ⟨len, fun A outer s H args us vs Q E hg hr e0 hb rv hsp => ?_⟩
  have old : ∀ b o, base.get? b = some o → s.heap.get? b = some o := fun b o e => (e0.bs b o e).1
  have kin := e0.mod.kin.keeps old
  have nol := e0.mod.nolimit.keeps old
  refine codeAny_call_function hr.depth (kin _ _ lk) rfl S.co S.gen rfl (PySem.W.codeRec_of kin hcd) (hb _ _ _ _ (wpAny_newFunctionEnv_cells S.kind (fun y hy => ?_) fun env he s1 nw => ?_))
  · rcases S.par y.1 (List.of_mem_zip (a := y.1) (b := y.2) hy).1 with z | z
    · exact .inl z
    · exact .inr ⟨z, PySem.W.cellsFrom_some _ _ _ (.inl z)⟩
  · subst he
    have W := hbody cdv A outer s H vs Q E hg (hr.deeper _) hsp
    have I : Inv (cxOf CX0 P w K mg base N qual (defScope st) f cdv A outer s H E) [] (start N vs) H s1 := inv_start S hr.hd e0 (len _ _ _ _ hsp) rv nw
    refine ⟨nol.keeps nw.toInCall.keep, codeAny_func (wpAny_mono (((pss_wss).nox).run [] s1 (start N vs) H _ I W) (fun fl s' hs => ?_) fun e s' hs => hs)⟩
    cases fl with
    | ret u => obtain ⟨v, σ', H', J, r2, q⟩ := hs; exact ⟨v, H', J.os, J.bare, J.base, J.hok, r2, q⟩
    | next => obtain ⟨σ', H', J, q⟩ := hs; exact ⟨V.non, H', J.os, J.bare, J.base, J.hok, rfl, q⟩
    | brk => obtain ⟨_, _, _, q⟩ := hs; exact q.elim
    | cont => obtain ⟨_, _, _, q⟩ := hs; exact q.elim
end
/-- the law's def, called at the top -/
theorem call_lawG {P : Program} {w : World} {K : PySem.W.Frag} {mg mb : Str → Option Value} {k : Nat} {fa a : Addr} {fd : FuncData} {x : Str} {sp : Sp} {s₁ : Shared} {vs : List Value} {ns : List Int}
    (hK : K.In s₁.heap) (hns : s₁.heap.Ns mainGlobals mg) (hb : s₁.heap.Ns builtinsNs mb) (hbb : ∀ y : Str, y ≠ "__name__" → mb y = bootBuiltins y) (hlim : s₁.heap.NoLimit) (hge : s₁.gens = #[])
    (ha : s₁.heap.get? a = some { cls := .type "list", data := .seq vs.toArray }) (hi : IntsAre vs ns) (hl : ns.length ≤ sizeLine) (hr : Room k callerA) (hgd : callerA.guards = some [])
    (F : ∀ base : Heap, K.In base → base.Ns mainGlobals mg → FnG P w K mg base CX0 k fa fd [x] sp) (hbind : ∀ (s : Shared) (u : Value), BindsTo s fd ⟨[u], []⟩ [(x, u)])
    (hsp : ∀ H : Hp, Only H → SqL K H a (ns.map V.int) → sp [.ref a] H (fun v _ => v = .bl true) fun _ _ _ => False) :
    codeAny (model P w) callerA (.call (.ref fa) ⟨[.ref a], []⟩) (fun r s' => r = .ok (.ret (.bool true)) ∧ OldK s₁.heap s'.heap ∧ s'.os = s₁.os ∧ AllBare s'.gens) s₁ := by
  have at_ : ∀ H : Hp, Only H → SqL K H a (ns.map V.int) → HOk P w H s₁.heap → (∀ b, H b ≠ none → b = a ∧ K.lookup a = none) →
      codeAny (model P w) callerA (.call (.ref fa) ⟨[.ref a], []⟩) (fun r s' => r = .ok (.ret (.bool true)) ∧ OldK s₁.heap s'.heap ∧ s'.os = s₁.os ∧ AllBare s'.gens) s₁ := fun H only sq hok one => by
    have none_of : ∀ {b : Addr}, (b ≠ a ∨ K.lookup a ≠ none) → H b = none := fun {b} hb => Classical.byContradiction fun z => by
      obtain ⟨z1, z2⟩ := one b z
      rcases hb with y | y
      · exact y z1
      · exact y z2
    have nsB : ∀ {b : Addr} {m : Str → Option Value}, s₁.heap.Ns b m → (hidT s₁.heap H).Ns b m := fun {b m} ⟨o, es, ep, e, dd, q⟩ => ⟨o, es, ep, hidT_get e (none_of (.inl fun z => by
      subst z
      have e' := ha.symm.trans e
      cases e'
      cases dd)), dd, q⟩
    have kB : K.In (hidT s₁.heap H) := fun b o e => hidT_get (hK b o e) (Classical.byContradiction fun z => by
      obtain ⟨z1, z2⟩ := one b z
      rw [z1, z2] at e
      cases e)
    have md : Mod K mg (hidT s₁.heap H) := ⟨kB, nsB hns, ⟨mb, nsB hb, hbb⟩, hlim.elim fun mc hm => ⟨mc, nsB hm.1, hm.2⟩⟩
    have e0 : Env0 P w K mg (hidT s₁.heap H) callerA [] s₁ H := { frames := rfl, mod := md, bs := fun b o e => of_hidT e, bsz := Nat.le_of_eq (hidT_size _ _), funs := trivial, frf := (fun b hb => nomatch hb), hok := hok, bare := .of_eq hge }
    refine codeAny_mono ((F _ kB (nsB hns)).run callerA [] s₁ H ⟨[.ref a], []⟩ [.ref a] [.ref a] _ _ hgd hr e0 (hbind s₁ (.ref a)) (.cons rfl .nil) (hsp H only sq)) fun r s' h => ?_
    match r, h with
    | .error _, h => exact h.elim
    | .ok .next, h => exact h.elim
    | .ok .brk, h => exact h.elim
    | .ok .cont, h => exact h.elim
    | .ok (.ret u), ⟨v, H', os, bare, un, hok', r', (q : v = .bl true)⟩ =>
      subst q
      obtain rfl : u = Value.bool true := r'
      refine ⟨rfl, OldK.of_keep fun b o e => ?_, os, bare⟩
      rcases only b with z | ⟨ob, xs, z⟩
      · exact un.keep b o e z (fun y => nomatch y) (fun y => nomatch y)
      · have e1 := (hok b _ z).1
        rw [e] at e1
        cases e1
        exact (hok' b _ (un.frzs b _ _ z)).1
  have rv := vals_ints hi
  cases hk : K.lookup a with
  | some o =>
    have e := ha.symm.trans (hK a o hk)
    cases e
    exact at_ (fun _ => none) (fun _ => .inl rfl) (.inr ⟨_, vs.toArray, _, hk, rfl, rfl, rfl, by rw [List.size_toArray, hi.length]; exact hl, by simpa using rv⟩) (fun b u z => nomatch z) fun b z => absurd rfl z
  | none =>
    have up : ∀ b u, upd (fun _ => none) a (HO.frz { cls := .type "list", data := .seq vs.toArray } (.lst (ns.map V.int))) b = some u → b = a ∧ u = HO.frz { cls := .type "list", data := .seq vs.toArray } (.lst (ns.map V.int)) := fun b u z => by
      by_cases hba : b = a
      · subst hba
        rw [upd_same] at z
        exact ⟨rfl, (Option.some.inj z).symm⟩
      · rw [upd_ne hba] at z; cases z
    refine at_ (upd (fun _ => none) a (HO.frz { cls := .type "list", data := .seq vs.toArray } (.lst (ns.map V.int)))) (fun b => ?_) (.inl (.inr ⟨_, upd_same⟩)) (fun b u z => ?_) fun b z => ?_
    · by_cases hba : b = a
      · subst hba; exact .inr ⟨_, _, upd_same⟩
      · exact .inl (upd_ne hba)
    · obtain ⟨rfl, rfl⟩ := up b u z
      exact ⟨ha, by rw [List.length_map]; exact hl, vs, _, rv, ha⟩
    · obtain ⟨o, z⟩ := some_of_ne z
      exact ⟨(up b o z).1, hk⟩
theorem walkG {l : PySem.W.OpenLaw} {n k : Nat} {q : Program} {loose : List Str} {XP : (Str → Option Value) → Heap → Prop} {YP : World → Heap → Prop} {d : DefRec} {K : Params → PySem.W.Frag} {sp : World → Sp} {x : Str}
    (hn : l.most = some n) (hn2 : n ≤ sizeLine) (hdf : d.params.defaults = []) (hr : Room k callerA) (hgd : callerA.guards = some [])
    (hY : ∀ (w : World) (h : Heap), YP w h → (K w.params).In h)
    (F : ∀ (w : World) (mg : Str → Option Value) (fa : Addr) (h : Heap), (K w.params).In h → h.Ns mainGlobals mg → mg d.name = some (.ref fa) →
      ∃ fd : FuncData, (∀ (s : Shared) (u : Value), BindsTo s fd ⟨[u], []⟩ [(x, u)]) ∧
        ∀ base : Heap, (K w.params).In base → base.Ns mainGlobals mg → FnG l.prog w (K w.params) mg base CX0 k fa fd [x] (sp w))
    (hsp : ∀ (w : World) (H : Hp) (a : Addr) (ns : List Int), ns.length ≤ n → Only H → SqL (K w.params) H a (ns.map V.int) → sp w [.ref a] H (fun v _ => v = .bl true) fun _ _ _ => False) :
    PySem.W.WalkO q loose XP YP l.row.toRowW d [] (fun f vs => PySem.call f vs) :=
  Att.attach_call hn hdf fun w s₀ s₁ mg mb fa o pm cd doc a vs ns G Y ho hd hcd hmg hobj hints hlen hg => by
    obtain ⟨fd, hb, hF⟩ := F w mg fa _ (hY w _ Y) G.T.g hmg
    exact call_lawG (hY w _ Y) G.T.g G.T.b G.T.builtins G.T.nolimit hg hobj hints (Nat.le_trans hlen hn2) hr hgd hF hb fun H hO hS => hsp w H a ns hlen hO hS
/-! ## repr of data -/
section
variable {X : Cx} {B : Bs} {ad : List Addr} {F H : Hp} {s : AS} {σ : L2.St} {x y : AVal} {u v : V}
theorem cr_repr (hg : X.A.guards = some []) (hu : X.A.units + 64 < cLine) : CallR X (.builtin "repr") (fun vs H Q => ∃ a d, vs = [V.ref a] ∧ Dp X.K H (.ref a) d ∧ d.showable = true ∧ d.hasDict = false ∧ d.depth ≤ 60 ∧ d.shown.length ≤ sizeLine ∧ Q (.str d.shown) H) := by
  intro pins s σ H vs us Q I r h
  obtain ⟨a, d, rfl, hd, h1, h2, h3, h4, q⟩ := h
  rw [Vals.ref1 r]
  obtain ⟨as, rd⟩ := Dp.reads I _ _ _ hd (show RelV (.ref a) (.ref a) from rfl)
  exact repr_of_reads' rd h1 (fun z => by rw [h2] at z; cases z) hg (by omega) (fun _ _ e => e) (fun h' u tk hk => ⟨.str d.shown, H, I.kept hk, ⟨_, rfl⟩, q⟩) h4
def isBox : PyData → Bool
  | .list _ => true
  | .tuple _ => true
  | _ => false
def reprA (xs : List AVal) : TEA := fun s Q => one (fun x => onSome (dataOf s x) fun d => (isBox d = true ∧ d.canLay0 = true ∧ d.showable = true ∧ d.hasDict = false ∧ d.depth ≤ 60 ∧ d.shown.length ≤ sizeLine) ∧ Q (.d (.str d.shown)) s) xs
theorem c_repr (hg : X.A.guards = some []) (hu : X.A.units + 64 < cLine) : CalA X B (.builtin "repr") reprA := fun ad F H s σ xs us Q r hp t => by
  obtain ⟨x, u, rfl, rfl, hx, t⟩ := one_ok t hp
  obtain ⟨d, e, ⟨hb, hc, h1, h2, h3, h4⟩, q⟩ := t
  have dp := VOk.dp (X := X) r hx e hc
  obtain ⟨a, rfl⟩ : ∃ a, u = .ref a := by
    cases d with
    | list ds => cases dp; exact ⟨_, rfl⟩
    | tuple ds => cases dp; exact ⟨_, rfl⟩
    | _ => cases hb
  exact ⟨_, cr_repr hg hu, a, d, rfl, dp, h1, h2, h3, h4, .here (x := .d (.str d.shown)) r rfl q⟩
end
section
variable {P : Program} {w : World} {K : PySem.W.Frag} {mg : Str → Option Value} {base : Heap}
theorem FnG.imp {CX : CXT} {k : Nat} {f : Addr} {fd : FuncData} {ps : List Str} {sp sp' : Sp} (h : FnG P w K mg base CX k f fd ps sp) (q : ∀ us H Q E, sp' us H Q E → sp us H Q E) : FnG P w K mg base CX k f fd ps sp' :=
  ⟨fun us H Q E z => h.len us H Q E (q _ _ _ _ z), fun A outer s H args us vs Q E hg hr e0 hb hv hs => h.run A outer s H args us vs Q E hg hr e0 hb hv (q _ _ _ _ hs)⟩
theorem okAG {x qual : Str} {st : Stmt} {f : Addr} {fd : FuncData} {N ps : List Str} {k : Nat} {t : Nat → TSA} (Fn : Fun K x qual st f fd) (S : FnScope N ps (defScope st))
    (hbody : ∀ (cdv : Value) (A : Around) (outer : List Env) (s : Shared) (H : Hp) (E : XK) (B : Bs), A.guards = some [] → Room k (A.deeper (PyProof.Rows.envOfC qual (defScope st) s.heap.objs.size f cdv)) → SS (cxOf CX0 P w K mg base N qual (defScope st) f cdv A outer s H E).nox B (defBody st) (t B.S.length)) :
    FnG P w K mg base CX0 (k + 1) f fd ps (spA ps.length (bodyT (N.length - ps.length) t)) :=
  okGd Fn S (fun vs H Q E ⟨F, ad, cs, xs, P, hl, _⟩ => hl) fun cdv A outer s H vs Q E hg hr ⟨F, ad, cs, xs, P, hl, r, hp, ht, q⟩ => by
    have hsl : Rl (Bs.at ad F H (cs.flatMap Cell.ads)) ad F H ⟨xs.map some ++ List.replicate (N.length - ps.length) none, cs⟩ (start N vs) := by
      refine ⟨r.ff, r.fh, r.hh, r.al, r.new, r.pre, r.nd, r.len, r.cel, ?_, ?_, r.inn⟩
      · unfold L2.start
        simp [Paired.len hp, hl]
      · unfold L2.start
        rw [hl]
        exact paired_slots hp
    have hm : cs.length = ad.length := r.len.symm
    intro pins sh I
    have ht' : t ad.length (retD cs.length P) ⟨xs.map some ++ List.replicate (N.length - ps.length) none, cs⟩ := by rw [← hm]; exact ht
    refine thn ((hbody cdv A outer s H E (Bs.at ad F H (cs.flatMap Cell.ads)) hg hr).run _ _ ht' ad F H _ hsl pins sh I) fun fl s' z => ?_
    cases fl with
    | next =>
      obtain ⟨σ2, H2, I2, ad2, F2, s2, r2, h2⟩ := z
      exact ⟨σ2, H2, I2, q .non H2 (ret_post hm r2 (x := .d .none) rfl h2)⟩
    | brk => obtain ⟨σ2, H2, I2, ad2, F2, s2, r2, h2⟩ := z; exact h2.elim
    | cont => obtain ⟨σ2, H2, I2, ad2, F2, s2, r2, h2⟩ := z; exact h2.elim
    | ret u =>
      obtain ⟨v, σ2, H2, I2, rv, ad2, F2, x2, s2, σ3, r2, hv, h2⟩ := z
      exact ⟨v, σ2, H2, I2, rv, q v H2 (ret_post hm r2 hv h2)⟩
theorem okLaw_AG {f : Addr} {fd : FuncData} {ps : List Str} {k : Nat} {t : SpT} (G : FnG P w K mg base CX0 k f fd ps (spA 1 t)) (h : ∀ ns : List Int, ns.length ≤ 63 → t [.s K ns] [] fun rv _ => rv = .f (.bool true)) : FnG P w K mg base CX0 k f fd ps (spLaw K) := G.imp fun vs H Q E ⟨a, ns, hv, hS, hl, q⟩ => by
  subst hv
  refine ⟨H, [], [], [.s K ns], fun rv _ => rv = .f (.bool true), rfl, ⟨Same.refl _, Same.refl _, fun _ _ _ _ e => e, (fun _ h => by rcases h with h | h <;> cases h), fun _ e _ => e, ⟨[], rfl, (fun _ h => nomatch h)⟩, List.nodup_nil, rfl, fun i p c h1 => by simp at h1, rfl, fun k x h => by simp at h, inn0 rfl rfl⟩, .cons ⟨a, rfl, hS⟩ .nil, h ns hl, fun v H2 hp => ?_⟩
  rcases hp with ⟨F2, x, cs2, _, _, hd, e⟩ | ⟨F2, c, cs2, p, H1, o, _, _, _, _, _, _, _, _, e⟩ | ⟨_, _, _, _, _, _, _, e⟩ | ⟨_, _, _, _, _, _, _, _, e⟩ | ⟨_, _, _, _, _, _, _, _, _, _, _, _, _, e⟩
  · cases e
    obtain rfl : v = .bl true := hd
    exact q H2
  · cases e
  · cases e
  · cases e
  · cases e
end
end Kr

/-! layer A24 -/
namespace Kr
open PySem L2
/-! ## dict(zip(xs, ys)) -/
theorem zip_have {P : Program} {w : World} : ∀ {ks : List Key} {ys : List V} {us vs : List Value}, Vals (ks.map kV) us → Vals ys vs → ks.length = ys.length →
    KV (ks.zip ys) (ks.zip vs) ∧ PairsHave (mixKind P w) (min us.toArray.size vs.toArray.size) (fun i k v => us.toArray[i]? = some k ∧ vs.toArray[i]? = some v) (ks.zip vs)
  | [], [], us, vs, r1, r2, _ => by
    rw [List.map_nil] at r1
    cases r1
    cases r2
    exact ⟨.nil, rfl, fun i k v h => by simp at h⟩
  | k :: ks, y :: ys, us, vs, r1, r2, hl => by
    rw [List.map_cons] at r1
    cases r1 with
    | cons h1 t1 =>
      cases r2 with
      | cons h2 t2 =>
        obtain ⟨q1, q2, q3⟩ := zip_have (P := P) (w := w) t1 t2 (by simpa using hl)
        refine ⟨.cons ⟨rfl, h2⟩ q1, ?_, fun i a b h => ?_⟩
        · simp only [List.zip_cons_cons, List.length_cons, List.size_toArray] at q2 ⊢
          omega
        · cases i with
          | zero =>
            obtain ⟨e1, e2⟩ := h
            simp only [List.getElem?_toArray, List.getElem?_cons_zero, Option.some.injEq] at e1 e2
            subst e1
            subst e2
            exact ⟨k, rfl, kV_is (P := P) (w := w) h1⟩
          | succ i =>
            obtain ⟨e1, e2⟩ := h
            simp only [List.getElem?_toArray, List.getElem?_cons_succ] at e1 e2
            exact q3 i a b ⟨by simpa using e1, by simpa using e2⟩
  | [], _ :: _, _, _, _, _, hl => by simp at hl
  | _ :: _, [], _, _, _, _, hl => by simp at hl
def rDictZip (X : Cx) : List V → Hp → VK → Prop := fun vs H1 Q => ∃ (a b : Addr) (ks : List Key) (ys : List V), vs = [.ref a, .ref b] ∧ SqL X.K H1 a (ks.map kV) ∧ SqL X.K H1 b ys ∧ ks.length = ys.length ∧ ∀ p, H1 p = none → Q (.ref p) (upd H1 p (.dK (mergeK [] (ks.zip ys))))
theorem pe_dictZip {X : Cx} {e e2 : Expr} {ta : TA} {p p2 pos pos2 : Pos} (hc : X.calm = true) (hg : Gl X "dict") (hm : X.mg "dict" = none) (hg2 : Gl X "zip") (hm2 : X.mg "zip" = none) (ha : PA X [e, e2] ta)
    (hs : starEach [e, e2] X.env = (false, eval e X.env) :: starEach [e2] X.env) (hpl : (backTo pos2 (starEach [e2] X.env)).any (·.1) = false)
    (hs1 : starEach [Expr.Call (.Name "zip" p2) [e, e2] [] pos2] X.env = (false, eval (.Call (.Name "zip" p2) [e, e2] [] pos2) X.env) :: starEach [] X.env) :
    PE X (.Call (.Name "dict" p) [.Call (.Name "zip" p2) [e, e2] [] pos2] [] pos) (fun σ H Q => ta σ H fun vs H1 => rDictZip X vs H1 Q) := by
  refine ⟨fun pins s σ H Q I h => ?_⟩
  refine wpAny_Call_Name_kw (ld_blt I hg hm PyProof.Rows.boot_dict (PyProof.Rows.callWith_type1 ?_ hs1 rfl) (by decide) (by decide))
  rw [hs1]
  show wpAny _ _ (spliced ((false, eval (.Call (.Name "zip" p2) [e, e2] [] pos2) X.env) :: backTo pos [])) _ _ s
  refine Calls.spliced_cons (wpAny_Call_Name_kw (ld_blt I hg2 hm2 PyProof.Rows.boot_zip (PyProof.Rows.callWith_type1 (thn (ha.run pos2 pins s σ H _ I h) fun us s1 q => ?_) hs hpl) (by decide) (by decide)))
  obtain ⟨vs, H1, I1, r1, a, b, ks, ys, ex, hqx, hqy, hl, q⟩ := q
  subst ex
  obtain ⟨u1, u2, rfl, x1, x2⟩ := vals2 r1
  cases x1
  cases x2
  obtain ⟨its, rv, p1, z1⟩ := I1.list hqx
  obtain ⟨its2, rv2, p2', z2⟩ := I1.list hqy
  have la : a < s1.heap.objs.size := p1.lt
  have lb : b < s1.heap.objs.size := p2'.lt
  refine call_zip_2 p1.isList p2'.isList fun h' hz hTI hTO hi1 hi2 hsz hk => Calls.spliced_nil ?_
  have D := PySem.W.ktu_apart s1.heap.objs.size a b la lb
  obtain ⟨kv, ph⟩ := zip_have (P := X.prog) (w := X.w) rv rv2 hl
  have L1 : h'.IsList a its.toArray := by
    obtain ⟨o, e1, e2⟩ := p1.isList
    exact ⟨o, hk _ _ e1, e2⟩
  have L2 : h'.IsList b its2.toArray := by
    obtain ⟨o, e1, e2⟩ := p2'.isList
    exact ⟨o, hk _ _ e1, e2⟩
  have hn : min its.toArray.size its2.toArray.size ≤ sizeLine := by
    have := rv.length
    rw [List.length_map] at this z1
    rw [List.size_toArray]
    omega
  refine PySem.call_dict_pairs (PairArg.zip _ _ _ _ _ a b D its.toArray its2.toArray) (I.ok.hd hc) ⟨hz, hTI, ⟨_, _, hTO⟩, hi1, hi2, L1, L2⟩ ph hn fun h2 tk hd k => ?_
  have hbig : s1.heap.objs.size ≤ h'.objs.size := by omega
  have hm3 : (h'.objs.size == sysModules) = false := beq_eq_false_iff_ne.mpr (Nat.ne_of_gt (Nat.lt_of_lt_of_le I1.big hbig))
  have hlen : (mergeK [] (ks.zip ys)).length ≤ sizeLine := by
    refine Nat.le_trans (length_mergeK _ []) ?_
    rw [List.length_nil, Nat.zero_add, List.length_zip, hl]
    omega
  refine ⟨.ref h'.objs.size, upd H1 h'.objs.size (.dK (mergeK [] (ks.zip ys))), I1.laid (t' := tk) (fun b' o e => k b' o (fun z => ?_) (hk _ _ e)) hbig (show ObjOk X.prog X.w _ _ _ (.dK (mergeK [] (ks.zip ys))) from ⟨hlen, hm3, merged [] (ks.zip its2), KV.merge kv .nil, hd⟩), rfl, q _ (I1.hok.fresh hbig)⟩
  have hlt : b' < s1.heap.objs.size := Heap.lt_size e
  simp only [List.mem_cons, List.mem_nil_iff, or_false] at z
  rcases z with z | z | z | z
  · exact Nat.lt_irrefl _ (Nat.lt_of_lt_of_le (z ▸ hlt) (Nat.le_add_right _ _))
  · exact Nat.lt_irrefl _ (Nat.lt_of_lt_of_le (z ▸ hlt) (Nat.le_add_right _ _))
  · exact Nat.lt_irrefl _ (z ▸ hlt)
  · exact Nat.lt_irrefl _ (Nat.lt_of_lt_of_le (z ▸ hlt) (Nat.le_add_right _ _))
section
variable {X : Cx} {B : Bs} {ad : List Addr} {F H : Hp} {s : AS} {σ : L2.St} {x y : AVal} {u v : V} {e e2 : Expr} {p p2 pos pos2 : Pos} {tl : TLA}
def dictZipN (tl : TLA) : TNA := fun s Q => tl s fun xs s1 => two (fun x y => onSome (listOf s1 x) fun ds => onSome (listOf s1 y) fun es => onSome (strs? ds) fun ks => ks.length = es.length ∧ Q (.dK (mergeA [] ((ks.map fun k => (Sum.inr k : Key)).zip es))) s1) xs
theorem kv_zipS : ∀ {ks : List Str} {es : List PyData} {ys : List V}, DaAll F es ys → KvOk F ((ks.map fun k => (Sum.inr k : Key)).zip es) ((ks.map fun k => (Sum.inr k : Key)).zip ys)
  | [], _, _, _ => .nil
  | k :: ks, [], _, h => by
    obtain rfl := (show _ = [] from h)
    exact .nil
  | k :: ks, d :: ds, _, h => by
    obtain ⟨v, r, rfl, h1, h2⟩ := (show ∃ v r, _ = v :: r ∧ Da F d v ∧ DaAll F ds r from h)
    exact .cons ⟨rfl, h1⟩ (kv_zipS h2)
theorem daAll_strsE : ∀ {ds : List PyData} {vs : List V} {ks : List Str}, DaAll F ds vs → strs? ds = some ks → vs = (ks.map fun k => (Sum.inr k : Key)).map kV := by
  intro ds vs ks h e
  have := strs?_of e
  subst this
  clear e
  induction ks generalizing vs with
  | nil => exact h
  | cons k ks ih =>
    obtain ⟨v, r, rfl, h1, h2⟩ := (show ∃ v r, vs = v :: r ∧ Da F (.str k) v ∧ DaAll F (ks.map .str) r from h)
    rw [ih h2, show v = .str k from h1]
    rfl
theorem en_dictZip (hc : X.calm = true) (hm : X.mg "dict" = none) (hm2 : X.mg "zip" = none) (ha : EL X B [e, e2] tl) (hg : Gl X "dict" := by rfl) (hg2 : Gl X "zip" := by rfl)
    (hs : starEach [e, e2] X.env = (false, eval e X.env) :: starEach [e2] X.env := by rfl) (hpl : (backTo pos2 (starEach [e2] X.env)).any (·.1) = false := by rfl)
    (hs1 : starEach [Expr.Call (.Name "zip" p2) [e, e2] [] pos2] X.env = (false, eval (.Call (.Name "zip" p2) [e, e2] [] pos2) X.env) :: starEach [] X.env := by rfl) :
    EN X B (.Call (.Name "dict" p) [.Call (.Name "zip" p2) [e, e2] [] pos2] [] pos) (dictZipN tl) := ⟨fun ad F H s σ Q r t => we_of (pe_dictZip hc hg hm hg2 hm2 pa_wa hs hpl hs1) ((ha.run ad F H s σ _ r t).imp fun vs H1 q => by
  obtain ⟨ad1, F1, xs, s1, e1, k1, r1, hvs, hln, q⟩ := q
  obtain ⟨x, y, u, v, rfl, rfl, hx, hy, ds, ed, es, ee, ks, ek, hlen, q⟩ := two_ok q hvs
  obtain ⟨l1, v1, rfl, g1, g2⟩ := hx.list r1 ed
  obtain ⟨l2, v2, rfl, g3, g4⟩ := hy.list r1 ee
  have e9 := daAll_strsE g2 ek
  subst e9
  refine ⟨l1, l2, ks.map fun k => (Sum.inr k : Key), v2, rfl, SqL.of g1, SqL.of g3, by rw [List.length_map, hlen, g4.length], fun p hp => ?_⟩
  exact (PostN.here (c := .dK _) r1 hp ⟨_, upd_same, merge_pair (R := Da F1) (kv_zipS g4) .nil⟩ rfl q).up e1 k1)⟩
end
end Kr

/-! layer A25 -/
namespace Kr
open PySem L2
/-! ## texts taken apart -/
section
variable {X : Cx} {B : Bs} {ad : List Addr} {F H : Hp} {s : AS} {σ : L2.St} {x y : AVal} {u v : V} {o e e2 : Expr} {apos p pos tpos : Pos} {ta tb : TEA}
theorem daAll_strsV : ∀ (ys : List Str), DaAll F (ys.map PyData.str) (ys.map V.str)
  | [] => daAll_nil
  | y :: ys => daAll_cons rfl (daAll_strsV ys)
def splitN (to te : TEA) : TNA := fun s Q => to s fun x s1 => onSome x.str? fun z => te s1 fun y s2 => onSome y.str? fun w => ((w.length == 0) = false ∧ z.length + 2 ≤ sizeLine) ∧ Q (.lst ((Txt.split z w).map .str)) s2
theorem en_split (ho : EA X B o ta) (he : EA X B e tb) (hs : starEach [e] X.env = [(false, eval e X.env)] := by rfl) (hbase : attributeBase o "split" X.env (eval o X.env) = eval o X.env := by rfl) (hline : (apos.endLine == pos.line) = true := by rfl) :
    EN X B (.Call (.Attribute o "split" apos) [e] [] pos) (splitN ta tb) := ⟨fun ad F H s σ Q r t =>
  we_of (pe_split pe_we pe_we hs hbase hline) ((ho.run ad F H s σ _ r t).imp fun v H1 q => by
    obtain ⟨ad1, F1, x, s1, e1, k1, r1, hv, z, ez, q⟩ := q
    have := AVal.str?_of ez
    subst this
    refine ⟨⟨z, hv⟩, (he.run ad1 F1 H1 s1 σ _ r1 q).imp fun w H2 q => ?_⟩
    obtain ⟨ad2, F2, y, s2, e2, k2, r2, hw, z2, ez2, ⟨q1, q2⟩, q⟩ := q
    have := AVal.str?_of ez2
    subst this
    refine ⟨z, z2, hv, by rw [show w = .str z2 from hw], q1, q2, fun p hp => (PostN.here (c := .lst _) r2 hp ⟨_, upd_same, daAll_strsV _⟩ rfl q).up (e1.trans e2) (k1.trans k2)⟩)⟩
def partA (to te : TEA) : TEA := fun s Q => to s fun x s1 => onSome x.str? fun z => te s1 fun y s2 => onSome y.str? fun w => ((w.length == 0) = false ∧ z.length ≤ sizeLine) ∧ Q (.d (.tuple [.str (Txt.partition z w).1, .str (Txt.partition z w).2.1, .str (Txt.partition z w).2.2])) s2
theorem ea_part (ho : EA X B o ta) (he : EA X B e tb) (hs : starEach [e] X.env = [(false, eval e X.env)] := by rfl) (hbase : attributeBase o "partition" X.env (eval o X.env) = eval o X.env := by rfl) (hline : (apos.endLine == pos.line) = true := by rfl) :
    EA X B (.Call (.Attribute o "partition" apos) [e] [] pos) (partA ta tb) := ⟨fun ad F H s σ Q r t =>
  we_of (pe_partition pe_we pe_we hs hbase hline) ((ho.run ad F H s σ _ r t).imp fun v H1 q => by
    obtain ⟨ad1, F1, x, s1, e1, k1, r1, hv, z, ez, q⟩ := q
    have := AVal.str?_of ez
    subst this
    refine ⟨⟨z, hv⟩, (he.run ad1 F1 H1 s1 σ _ r1 q).imp fun w H2 q => ?_⟩
    obtain ⟨ad2, F2, y, s2, e2, k2, r2, hw, z2, ez2, ⟨q1, q2⟩, q⟩ := q
    have := AVal.str?_of ez2
    subst this
    refine ⟨z, z2, hv, by rw [show w = .str z2 from hw], q1, q2, fun p hp => (Post.newD (d := .tuple [.str _, .str _, .str _]) r2 hp ⟨p, _, rfl, upd_same, daAll_cons rfl (daAll_cons rfl (daAll_cons rfl daAll_nil))⟩ q).up (e1.trans e2) (k1.trans k2)⟩)⟩
/-! ## two lists walked side by side -/
def zip2D (ds es : List PyData) : List PyData := (ds.zip es).map fun p => .tuple [p.1, p.2]
def iterZ (ta tb : TEA) : AS → (List PyData → AS → Prop) → Prop := fun s Q => ta s fun x s1 => tb s1 fun y s2 => onSome (fzList s2 x) fun ds => onSome (fzList s2 y) fun es => Q (zip2D ds es) s2
theorem zip2D_len (ds es : List PyData) : (zip2D ds es).length = min ds.length es.length := by unfold zip2D; rw [List.length_map, List.length_zip]
theorem walks_zip {F2 : Hp} {ds es : List PyData} {a b : Addr} {xs ys : List V} (h1 : F2 a = some (.lst xs)) (h2 : DaAll F2 ds xs) (h3 : F2 b = some (.lst ys)) (h4 : DaAll F2 es ys) {K : PySem.W.Frag} : Walks (Itz K a b) F2 (zip2D ds es) := fun F3 H3 s1 s2 => ⟨fun i d e => by
    unfold zip2D at e
    rw [List.getElem?_map] at e
    cases hc : (ds.zip es)[i]? with
    | none => rw [hc] at e; cases e
    | some pr =>
      rw [hc] at e
      have e' : PyData.tuple [pr.1, pr.2] = d := by simpa using e
      subst e'
      rw [List.getElem?_zip_eq_some] at hc
      obtain ⟨v, hv, hd⟩ := h2.get hc.1
      obtain ⟨w, hw, he⟩ := h4.get hc.2
      refine ⟨⟨xs, ys, v, w, SqL.of (s2 _ _ (s1 _ _ h1)), SqL.of (s2 _ _ (s1 _ _ h3)), hv, hw⟩, fun x H4 y => ?_⟩
      obtain ⟨T, x0, y0, rfl, nT, rfl, hx, hy⟩ := y
      have hx0 := (getV h2 hc.1 (hx xs (SqL.of (s2 _ _ (s1 _ _ h1))))).mono s1
      have hy0 := (getV h4 hc.2 (hy ys (SqL.of (s2 _ _ (s1 _ _ h3))))).mono s1
      exact ⟨upd F3 T (.tup [x0, y0]), (Gr.refl s2).shut nT, T, _, rfl, upd_same, daAll_cons (hx0.mono (same_upd (s2.free nT))) (daAll_cons (hy0.mono (same_upd (s2.free nT))) daAll_nil)⟩, xs, ys, SqL.of (s2 _ _ (s1 _ _ h1)), SqL.of (s2 _ _ (s1 _ _ h3)), by rw [zip2D_len, ← h2.length, ← h4.length]; omega⟩
theorem ia_zip {elts : List Expr} {kk : Nat} (hm : X.mg "zip" = none) (ha : EA X B e ta) (hb : EA X B e2 tb) (hg : Gl X "zip" := by rfl) (l : starEach [e, e2] X.env = (false, eval e X.env) :: starEach [e2] X.env := by rfl) (l2 : starEach [e2] X.env = [(false, eval e2 X.env)] := by rfl) (hpl : (backTo pos (starEach [e2] X.env)).any (·.1) = false := by rfl) :
    IA X B (.Tuple elts kk tpos) (.Call (.Name "zip" p) [e, e2] [] pos) (iterZ ta tb) := ⟨fun ad F H s σ Q R r t k =>
  wi_of (pi_zip hg hm (pa_cons pe_we (pa_cons pe_we pa_nil l2) l) l hpl) ((ha.run ad F H s σ _ r t).imp fun u H1 q => by
    obtain ⟨ad1, F1, x, s1, e1, k1, r1, hx, q⟩ := q
    refine ((WE.sz (hb.run ad1 F1 H1 s1 σ _ r1 q))).imp fun w H2 q => ?_
    obtain ⟨⟨ad2, F2, y, s2, e2', k2, r2, hy, ds, ed, es, ee, q⟩, hz⟩ := q
    obtain ⟨a, vs, rfl, h1, h2⟩ := fzList_ok r2 (hx.mono e2' k2) ed
    obtain ⟨b, ws, rfl, h3, h4⟩ := fzList_ok r2 hy ee
    have h1' := r2.fh _ _ h1
    have h3' := r2.fh _ _ h3
    refine ⟨a, b, vs, ws, rfl, SqL.of h1', SqL.of h3', k _ ad2 F2 H2 s2 _ (e1.trans e2') (k1.trans k2) r2 (walks_zip h1 h2 h3 h4) ?_ q⟩
    have := hz b ws h3'
    rw [h4.length] at this
    rw [zip2D_len]
    omega)⟩
end
end Kr
namespace Kr
open PySem L2
def topS (i : Nat) : Stmt := PySem.Challenge.pw_keyrooms_k52_whole_one_writing_each.main.body.getD i (.Pass ⟨0, 0, 0, 0⟩)
abbrev s_is_kind : Stmt := topS 8
theorem sc_is_kind : FnScope ["thing", "sign"] ["thing"] (defScope s_is_kind) := ⟨rfl, rfl, rfl, by decide +kernel, rfl, by decide +kernel, by decide +kernel⟩
abbrev s_are_keys : Stmt := topS 9
theorem sc_are_keys : FnScope ["thing", "one"] ["thing"] (defScope s_are_keys) := ⟨rfl, rfl, rfl, by decide +kernel, rfl, by decide +kernel, by decide +kernel⟩
abbrev s_is_room : Stmt := topS 10
theorem sc_is_room : FnScope ["thing"] ["thing"] (defScope s_is_room) := ⟨rfl, rfl, rfl, by decide +kernel, rfl, by decide +kernel, by decide +kernel⟩
abbrev s_is_house : Stmt := topS 11
theorem sc_is_house : FnScope ["thing", "room"] ["thing"] (defScope s_is_house) := ⟨rfl, rfl, rfl, by decide +kernel, rfl, by decide +kernel, by decide +kernel⟩
abbrev s_show_keys : Stmt := topS 13
theorem sc_show_keys : FnScope ["keys"] ["keys"] (defScope s_show_keys) := ⟨rfl, rfl, rfl, by decide +kernel, rfl, by decide +kernel, by decide +kernel⟩
abbrev s_show_room : Stmt := topS 14
theorem sc_show_room : FnScope ["room"] ["room"] (defScope s_show_room) := ⟨rfl, rfl, rfl, by decide +kernel, rfl, by decide +kernel, by decide +kernel⟩
abbrev s_show_house : Stmt := topS 15
theorem sc_show_house : FnScope ["house", "room"] ["house"] (defScope s_show_house) := ⟨rfl, rfl, rfl, by decide +kernel, rfl, by decide +kernel, by decide +kernel⟩
abbrev s_keys_from : Stmt := topS 16
theorem sc_keys_from : FnScope ["text"] ["text"] (defScope s_keys_from) := ⟨rfl, rfl, rfl, by decide +kernel, rfl, by decide +kernel, by decide +kernel⟩
abbrev s_room_from : Stmt := topS 17
theorem sc_room_from : FnScope ["line", "locks", "mark", "keys"] ["line"] (defScope s_room_from) := ⟨rfl, rfl, rfl, by decide +kernel, rfl, by decide +kernel, by decide +kernel⟩
abbrev s_read_house : Stmt := topS 18
theorem sc_read_house : FnScope ["text", "lines", "found", "line"] ["text"] (defScope s_read_house) := ⟨rfl, rfl, rfl, by decide +kernel, rfl, by decide +kernel, by decide +kernel⟩
abbrev s_law_cell_at : Stmt := topS 20
theorem sc_law_cell_at : FnScope ["script", "k"] ["script", "k"] (defScope s_law_cell_at) := ⟨rfl, rfl, rfl, by decide +kernel, rfl, by decide +kernel, by decide +kernel⟩
abbrev s_law_numbers : Stmt := topS 21
theorem sc_law_numbers : FnScope ["cell", "many", "found", "rest", "stir", "k", "again"] ["cell", "many"] (defScope s_law_numbers) := ⟨rfl, rfl, rfl, by decide +kernel, rfl, by decide +kernel, by decide +kernel⟩
abbrev s_law_deck : Stmt := topS 22
theorem sc_law_deck : FnScope ["cell", "many"] ["cell", "many"] (defScope s_law_deck) := ⟨rfl, rfl, rfl, by decide +kernel, rfl, by decide +kernel, by decide +kernel⟩
abbrev s_law_take : Stmt := topS 23
theorem sc_law_take : FnScope ["deck", "many"] ["deck", "many"] (defScope s_law_take) := ⟨rfl, rfl, rfl, by decide +kernel, rfl, by decide +kernel, by decide +kernel⟩
abbrev s_law_kind : Stmt := topS 24
theorem sc_law_kind : FnScope ["deck", "few", "way", "some", "word", "k"] ["deck", "few"] (defScope s_law_kind) := ⟨rfl, rfl, rfl, by decide +kernel, rfl, by decide +kernel, by decide +kernel⟩
abbrev s_law_keys : Stmt := topS 25
theorem sc_law_keys : FnScope ["deck", "few", "most", "k"] ["deck", "few", "most"] (defScope s_law_keys) := ⟨rfl, rfl, rfl, by decide +kernel, rfl, by decide +kernel, by decide +kernel⟩
abbrev s_law_house : Stmt := topS 26
theorem sc_law_house : FnScope ["deck", "most", "locks", "few", "rooms", "k", "some", "j"] ["deck", "most", "locks"] (defScope s_law_house) := ⟨rfl, rfl, rfl, by decide +kernel, rfl, by decide +kernel, by decide +kernel⟩
abbrev s_law_sorted : Stmt := topS 29
theorem sc_law_sorted : FnScope ["house", "locks", "keys"] ["house"] (defScope s_law_sorted) := ⟨rfl, rfl, rfl, by decide +kernel, rfl, by decide +kernel, by decide +kernel⟩
abbrev s_law_shuffled : Stmt := topS 30
theorem sc_law_shuffled : FnScope ["deck", "things", "left", "k"] ["deck", "things"] (defScope s_law_shuffled) := ⟨rfl, rfl, rfl, by decide +kernel, rfl, by decide +kernel, by decide +kernel⟩
abbrev s_law_otherwise : Stmt := topS 31
theorem sc_law_otherwise : FnScope ["deck", "house", "keys", "rooms", "locks", "some", "way", "at"] ["deck", "house"] (defScope s_law_otherwise) := ⟨rfl, rfl, rfl, by decide +kernel, rfl, by decide +kernel, by decide +kernel⟩
abbrev s_law_many_keys : Stmt := topS 32
theorem sc_law_many_keys : FnScope ["deck", "number", "menu", "k"] ["deck"] (defScope s_law_many_keys) := ⟨rfl, rfl, rfl, by decide +kernel, rfl, by decide +kernel, by decide +kernel⟩
abbrev s_law_many : Stmt := topS 33
theorem sc_law_many : FnScope ["deck", "house", "rooms", "some", "at"] ["deck", "house"] (defScope s_law_many) := ⟨rfl, rfl, rfl, by decide +kernel, rfl, by decide +kernel, by decide +kernel⟩
abbrev s_law : Stmt := topS 34
theorem sc_law : FnScope ["script", "k", "deck", "house", "other", "texts", "one", "text", "lines", "room", "line"] ["script"] (defScope s_law) := ⟨rfl, rfl, rfl, by decide +kernel, rfl, by decide +kernel, by decide +kernel⟩
structure Tx (K : PySem.W.Frag) (mg : Str → Option Value) where
  f_is_kind : Addr
  d_is_kind : FuncData
  F_is_kind : Fun K "is_kind" "is_kind" s_is_kind f_is_kind d_is_kind
  b_is_kind : Binds K d_is_kind ["thing"] []
  g_is_kind : mg "is_kind" = some (.ref f_is_kind)
  f_are_keys : Addr
  d_are_keys : FuncData
  F_are_keys : Fun K "are_keys" "are_keys" s_are_keys f_are_keys d_are_keys
  b_are_keys : Binds K d_are_keys ["thing"] []
  g_are_keys : mg "are_keys" = some (.ref f_are_keys)
  f_is_room : Addr
  d_is_room : FuncData
  F_is_room : Fun K "is_room" "is_room" s_is_room f_is_room d_is_room
  b_is_room : Binds K d_is_room ["thing"] []
  g_is_room : mg "is_room" = some (.ref f_is_room)
  f_is_house : Addr
  d_is_house : FuncData
  F_is_house : Fun K "is_house" "is_house" s_is_house f_is_house d_is_house
  b_is_house : Binds K d_is_house ["thing"] []
  g_is_house : mg "is_house" = some (.ref f_is_house)
  f_show_keys : Addr
  d_show_keys : FuncData
  F_show_keys : Fun K "show_keys" "show_keys" s_show_keys f_show_keys d_show_keys
  b_show_keys : Binds K d_show_keys ["keys"] []
  g_show_keys : mg "show_keys" = some (.ref f_show_keys)
  f_show_room : Addr
  d_show_room : FuncData
  F_show_room : Fun K "show_room" "show_room" s_show_room f_show_room d_show_room
  b_show_room : Binds K d_show_room ["room"] []
  g_show_room : mg "show_room" = some (.ref f_show_room)
  f_show_house : Addr
  d_show_house : FuncData
  F_show_house : Fun K "show_house" "show_house" s_show_house f_show_house d_show_house
  b_show_house : Binds K d_show_house ["house"] []
  g_show_house : mg "show_house" = some (.ref f_show_house)
  f_keys_from : Addr
  d_keys_from : FuncData
  F_keys_from : Fun K "keys_from" "keys_from" s_keys_from f_keys_from d_keys_from
  b_keys_from : Binds K d_keys_from ["text"] []
  g_keys_from : mg "keys_from" = some (.ref f_keys_from)
  f_room_from : Addr
  d_room_from : FuncData
  F_room_from : Fun K "room_from" "room_from" s_room_from f_room_from d_room_from
  b_room_from : Binds K d_room_from ["line"] []
  g_room_from : mg "room_from" = some (.ref f_room_from)
  f_read_house : Addr
  d_read_house : FuncData
  F_read_house : Fun K "read_house" "read_house" s_read_house f_read_house d_read_house
  b_read_house : Binds K d_read_house ["text"] []
  g_read_house : mg "read_house" = some (.ref f_read_house)
  f_law_cell_at : Addr
  d_law_cell_at : FuncData
  F_law_cell_at : Fun K "_law_cell_at" "_law_cell_at" s_law_cell_at f_law_cell_at d_law_cell_at
  b_law_cell_at : Binds K d_law_cell_at ["script", "k"] []
  g_law_cell_at : mg "_law_cell_at" = some (.ref f_law_cell_at)
  f_law_numbers : Addr
  d_law_numbers : FuncData
  F_law_numbers : Fun K "_law_numbers" "_law_numbers" s_law_numbers f_law_numbers d_law_numbers
  b_law_numbers : Binds K d_law_numbers ["cell", "many"] []
  g_law_numbers : mg "_law_numbers" = some (.ref f_law_numbers)
  f_law_deck : Addr
  d_law_deck : FuncData
  F_law_deck : Fun K "_law_deck" "_law_deck" s_law_deck f_law_deck d_law_deck
  b_law_deck : Binds K d_law_deck ["cell", "many"] []
  g_law_deck : mg "_law_deck" = some (.ref f_law_deck)
  f_law_take : Addr
  d_law_take : FuncData
  F_law_take : Fun K "_law_take" "_law_take" s_law_take f_law_take d_law_take
  b_law_take : Binds K d_law_take ["deck", "many"] []
  g_law_take : mg "_law_take" = some (.ref f_law_take)
  f_law_kind : Addr
  d_law_kind : FuncData
  F_law_kind : Fun K "_law_kind" "_law_kind" s_law_kind f_law_kind d_law_kind
  b_law_kind : Binds K d_law_kind ["deck", "few"] []
  g_law_kind : mg "_law_kind" = some (.ref f_law_kind)
  f_law_keys : Addr
  d_law_keys : FuncData
  F_law_keys : Fun K "_law_keys" "_law_keys" s_law_keys f_law_keys d_law_keys
  b_law_keys : Binds K d_law_keys ["deck", "few", "most"] []
  g_law_keys : mg "_law_keys" = some (.ref f_law_keys)
  f_law_house : Addr
  d_law_house : FuncData
  F_law_house : Fun K "_law_house" "_law_house" s_law_house f_law_house d_law_house
  b_law_house : Binds K d_law_house ["deck", "most", "locks"] []
  g_law_house : mg "_law_house" = some (.ref f_law_house)
  f_law_sorted : Addr
  d_law_sorted : FuncData
  F_law_sorted : Fun K "_law_sorted" "_law_sorted" s_law_sorted f_law_sorted d_law_sorted
  b_law_sorted : Binds K d_law_sorted ["house"] []
  g_law_sorted : mg "_law_sorted" = some (.ref f_law_sorted)
  f_law_shuffled : Addr
  d_law_shuffled : FuncData
  F_law_shuffled : Fun K "_law_shuffled" "_law_shuffled" s_law_shuffled f_law_shuffled d_law_shuffled
  b_law_shuffled : Binds K d_law_shuffled ["deck", "things"] []
  g_law_shuffled : mg "_law_shuffled" = some (.ref f_law_shuffled)
  f_law_otherwise : Addr
  d_law_otherwise : FuncData
  F_law_otherwise : Fun K "_law_otherwise" "_law_otherwise" s_law_otherwise f_law_otherwise d_law_otherwise
  b_law_otherwise : Binds K d_law_otherwise ["deck", "house"] []
  g_law_otherwise : mg "_law_otherwise" = some (.ref f_law_otherwise)
  f_law_many_keys : Addr
  d_law_many_keys : FuncData
  F_law_many_keys : Fun K "_law_many_keys" "_law_many_keys" s_law_many_keys f_law_many_keys d_law_many_keys
  b_law_many_keys : Binds K d_law_many_keys ["deck"] []
  g_law_many_keys : mg "_law_many_keys" = some (.ref f_law_many_keys)
  f_law_many : Addr
  d_law_many : FuncData
  F_law_many : Fun K "_law_many" "_law_many" s_law_many f_law_many d_law_many
  b_law_many : Binds K d_law_many ["deck", "house"] []
  g_law_many : mg "_law_many" = some (.ref f_law_many)
  f_law : Addr
  d_law : FuncData
  F_law : Fun K "law" "law" s_law f_law d_law
  b_law : Binds K d_law ["script"] []
  g_law : mg "law" = some (.ref f_law)
  m_isinstance : mg "isinstance" = none
  m_str : mg "str" = none
  m_len : mg "len" = none
  m_list : mg "list" = none
  m_tuple : mg "tuple" = none
  m_sorted : mg "sorted" = none
  m_range : mg "range" = none
  m_int : mg "int" = none
  m_max : mg "max" = none
  m_min : mg "min" = none
  m_zip : mg "zip" = none
  c_LETTERS : Mg mg "LETTERS" (.str "abcdefghijklmnopqrstuvwxyz")
  c_LONGEST_KIND : Mg mg "LONGEST_KIND" (.int 4)
  c_MOST_LOCKS : Mg mg "MOST_LOCKS" (.int 4)
/-! part base0 -/
open PySem L2
section
variable {P : Program} {w : World} {K : PySem.W.Frag} {mg : Str → Option Value} {base : Heap}
theorem ok_is_kind (T : Tx K mg) : FnOk P w K mg base CX0 1 T.f_is_kind T.d_is_kind ["thing"] (spF 1 (pre1 SzD) (fn1 fun d => .bool (isKindD d))) := by
  refine okF T.F_is_kind sc_is_kind fun X cdv A outer s H0 E vs F H ds Q hX hr hl hs ha hp q => ?_
  obtain ⟨d, rfl, hz⟩ := hp
  obtain ⟨v, rfl, hd⟩ := daAll1 ha
  subst hX
  have q : ∀ v F2 H2, Gr F H F2 H2 → Da F2 (.bool (isKindD d)) v → Q v H2 := q
  have hu := hr.units
  by_cases hstr : ∃ x, d = .str x
  · obtain ⟨x, rfl⟩ := hstr
    have hx : x.length ≤ 100000 := hz
    refine ss_cons (ws_ifD (DT.of_w (dw_or (dt_not (dt_val (de_isi T.m_isinstance T.m_str (de_v 0 hd) (kit_str _)))) (fun _ => dw_or1 (dt_not (dt_lele de_int (de_lenS T.m_len (de_v 0 hd) (sz100 hx)) (de_of (ve_glob T.c_LONGEST_KIND) rfl)))))) hs (fun hb F2 H2 g => ?_) (fun hb F2 H2 g => ?_))
    · refine ss_one (ws_retD de_bool g.fh fun v F3 H3 g3 hv => q v F3 H3 (g.trans g3) ?_)
      have : isKind x = false := by
        unfold isKind
        revert hb
        cases decide ((1 : Int) ≤ x.length) <;> cases decide ((x.length : Int) ≤ 4) <;> simp
      show Da F3 (.bool (isKind x)) v
      rw [this]; exact hv
    · refine ss_nil (ss_one (ws_retD (de_c (c_eqNil hu (de_lcIf (xs := x.cps.toList) [("sign", 1)] (lcok sc_is_kind (by decide +kernel)) (fun c => !decide (c ∈ letters.cps.toList)) (fun c => .str ⟨#[c]⟩) (di_str (de_v 0 (g.da hd))).i (sz100 hx) fun c hc v F' H' g' hv => ?_))) g.fh fun v F3 H3 g3 hv => q v F3 H3 (g.trans g3) ?_))
      · exact gb_name 1 sc_is_kind.nd ⟨rfl, rfl, fun _ _ _ _ _ => dt_c (c_notInSign (de_v 1 hv) (de_of (ve_glob T.c_LETTERS) rfl)), fun _ _ _ _ _ _ => de_v 1 hv⟩
      · have h1 : (decide ((1 : Int) ≤ x.length) && decide ((x.length : Int) ≤ 4)) = true := by
          revert hb
          cases (decide ((1 : Int) ≤ x.length) && decide ((x.length : Int) ≤ 4)) <;> simp
        show Da F3 (.bool (isKind x)) v
        unfold isKind
        rw [h1, Bool.true_and, ← filter_none]
        exact hv
  · have hk : isKindD d = false := by
      cases d with
      | str x => exact absurd ⟨x, rfl⟩ hstr
      | _ => rfl
    have hn : kitB (tyName d) "str" = some false := by
      rw [kit_str]
      cases d with
      | str x => exact absurd ⟨x, rfl⟩ hstr
      | _ => rfl
    refine ss_cons (ws_ifD (b := true) (DT.of_w (dw_or (cc := true) (dt_not (dt_val (de_isi T.m_isinstance T.m_str (de_v 0 hd) hn))) (fun z => nomatch z))) hs (fun hb F2 H2 g => ?_) (fun hb F2 H2 g => nomatch hb))
    refine ss_one (ws_retD de_bool g.fh fun v F3 H3 g3 hv => q v F3 H3 (g.trans g3) ?_)
    rw [hk]; exact hv
theorem x_is_kind {X : Cx} {σ : St} {F H : Hp} {e : Expr} {d : PyData} {p pos : Pos} {k : Nat} (T : Tx X.K X.mg) (hr : Room k X.A) (h : DE X e σ F H d) (hz : SzD d) (hk : 1 ≤ k := by decide) (hg : Gl X "is_kind" := by rfl) (l : Pl X e [] pos := by exact ⟨rfl, rfl⟩) :
    DE X (.Call (.Name "is_kind" p) [e] [] pos) σ F H (.bool (isKindD d)) := de_call (ok_is_kind T) (hr.mono hk) T.g_is_kind T.F_is_kind.kp T.b_is_kind (dl_cons h dl_nil l.he) rfl ⟨d, rfl, hz⟩ rfl hg (by decide) l
theorem ok_are_keys (T : Tx K mg) : FnOk P w K mg base CX0 2 T.f_are_keys T.d_are_keys ["thing"] (spF 1 (pre1 SzD) (fn1 fun d => .bool (areKeysD d))) := by
  refine okF T.F_are_keys sc_are_keys fun X cdv A outer s H0 E vs F H ds Q hX hr hl hs ha hp q => ?_
  obtain ⟨d, rfl, hz⟩ := hp
  obtain ⟨v, rfl, hd⟩ := daAll1 ha
  subst hX
  have q : ∀ v F2 H2, Gr F H F2 H2 → Da F2 (.bool (areKeysD d)) v → Q v H2 := q
  have hu := hr.units
  by_cases hstr : ∃ xs, d = .list xs
  · obtain ⟨xs, rfl⟩ := hstr
    refine ss_one (ws_retD (de_and (de_isi T.m_isinstance T.m_list (de_v 0 hd) (kit_list _)) fun _ => de_one (de_c (c_eqNil hu (de_lcIf (Dx := fun d => d) (xs := xs) [("one", 1)] (lcok sc_are_keys (by decide +kernel)) (fun d => !isKindD d) (fun d => d) (by rw [List.map_id']; exact (di_list (de_v 0 hd)).i) (sz100 hz.1) fun x hx v F' H' g' hv => ?_)))) hs fun v F3 H3 g3 hv => q v F3 H3 g3 ?_)
    · exact gb_name 1 sc_are_keys.nd ⟨rfl, rfl, fun _ _ _ _ _ => dt_not (dt_val (x_is_kind T hr (de_v 1 hv) (hz.2.mem hx))), fun _ _ _ _ _ _ => de_v 1 hv⟩
    · show Da F3 (.bool (xs.all isKindD)) v
      rw [filter_none, Bool.true_and] at hv
      exact hv
  · have hk : areKeysD d = false := by
      cases d with
      | list x => exact absurd ⟨x, rfl⟩ hstr
      | _ => rfl
    have hn : kitB (tyName d) "list" = some false := by
      rw [kit_list]
      cases d with
      | list x => exact absurd ⟨x, rfl⟩ hstr
      | _ => rfl
    refine ss_one (ws_retD (de_and (cc := true) (de_isi T.m_isinstance T.m_list (de_v 0 hd) hn) fun z => nomatch z) hs fun v F3 H3 g3 hv => q v F3 H3 g3 ?_)
    rw [hk]; exact hv
theorem x_are_keys {X : Cx} {σ : St} {F H : Hp} {e : Expr} {d : PyData} {p pos : Pos} {k : Nat} (T : Tx X.K X.mg) (hr : Room k X.A) (h : DE X e σ F H d) (hz : SzD d) (hk : 2 ≤ k := by decide) (hg : Gl X "are_keys" := by rfl) (l : Pl X e [] pos := by exact ⟨rfl, rfl⟩) :
    DE X (.Call (.Name "are_keys" p) [e] [] pos) σ F H (.bool (areKeysD d)) := de_call (ok_are_keys T) (hr.mono hk) T.g_are_keys T.F_are_keys.kp T.b_are_keys (dl_cons h dl_nil l.he) rfl ⟨d, rfl, hz⟩ rfl hg (by decide) l
end

open PySem L2
section
variable {P : Program} {w : World} {K : PySem.W.Frag} {mg : Str → Option Value} {base : Heap}
theorem ne2 {n : Nat} (h : n ≠ 2) (z : (!decide ((n : Int) = 2)) = false) : False := by
  simp at z; omega
theorem room_len : ∀ {ds : List PyData}, ds.length ≠ 2 → isRoomD (.tuple ds) = false
  | [], _ => rfl
  | [_], _ => rfl
  | [_, _], h => absurd rfl h
  | _ :: _ :: _ :: _, _ => rfl
theorem house_len : ∀ {ds : List PyData}, ds.length ≠ 2 → isHouseD (.tuple ds) = false
  | [], _ => rfl
  | [_], _ => rfl
  | [_, _], h => absurd rfl h
  | a :: b :: c :: r, _ => by cases b <;> rfl
theorem room_out {a b : PyData} {n : Int} (h : ((!true) || ((!decide ((2 : Int) = n)) || ((!areKeysD a) || (!areKeysD b)))) = true) (hn : n = 2) : isRoomD (.tuple [a, b]) = false := by
  subst hn
  simp only [isRoomD]
  revert h
  cases areKeysD a <;> cases areKeysD b <;> simp
theorem room_in {a b : PyData} {n : Int} (h : ((!true) || ((!decide ((2 : Int) = n)) || ((!areKeysD a) || (!areKeysD b)))) = false) : areKeysD a = true ∧ areKeysD b = true := by
  revert h
  cases areKeysD a <;> cases areKeysD b <;> simp
theorem room_is {ks : List Str} {b : PyData} (h1 : areKeysD (ksD ks) = true) (h2 : areKeysD b = true) : isRoomD (.tuple [ksD ks, b]) = ((decide ((1 : Int) ≤ (ks.map PyData.str).length) && decide (((ks.map PyData.str).length : Int) ≤ 4)) && decide (ks = srt ks)) := by
  simp only [isRoomD, h1, h2, Bool.true_and]
  simp only [ksD, strsOf_strs]
def isListD : PyData → Bool
  | .list _ => true
  | _ => false
theorem kit_list' (d : PyData) : kitB (tyName d) "list" = some (isListD d) := by rw [kit_list]; cases d <;> rfl
theorem house_out {a b : PyData} {n : Int} (h : ((!true) || ((!decide ((2 : Int) = n)) || ((!areKeysD a) || (!isListD b)))) = true) (hn : n = 2) : isHouseD (.tuple [a, b]) = false := by
  subst hn
  cases b with
  | list rs => simp only [isHouseD]; revert h; cases areKeysD a <;> simp [isListD]
  | _ => rfl
theorem house_in {a b : PyData} {n : Int} (h : ((!true) || ((!decide ((2 : Int) = n)) || ((!areKeysD a) || (!isListD b)))) = false) : areKeysD a = true ∧ ∃ rs, b = .list rs := by
  cases b with
  | list rs => revert h; cases areKeysD a <;> simp [isListD]
  | _ => simp [isListD] at h
theorem house_is {a : PyData} {rs : List PyData} (h1 : areKeysD a = true) : isHouseD (.tuple [a, .list rs]) = rs.all isRoomD := by simp only [isHouseD, h1, Bool.true_and]
theorem areKeysD_list {d : PyData} (h : areKeysD d = true) : ∃ ks : List Str, d = ksD ks ∧ (∀ k ∈ ks, isKind k = true) := by
  cases d with
  | list ds =>
    have h' : ds.all isKindD = true := h
    refine ⟨strsOf ds, congrArg PyData.list (strsOf_eq h'), fun k hk => ?_⟩
    have : PyData.str k ∈ ds := by rw [strsOf_eq h']; exact List.mem_map_of_mem hk
    exact (List.all_eq_true.mp h') _ this
  | _ => simp [areKeysD] at h
theorem tup2_cases (d : PyData) : (∃ a b, d = .tuple [a, b]) ∨ (∃ ds, d = .tuple ds ∧ ds.length ≠ 2) ∨ (kitB (tyName d) "tuple" = some false ∧ isRoomD d = false ∧ isHouseD d = false) := by
  cases d with
  | tuple ds =>
    match ds with
    | [a, b] => exact .inl ⟨a, b, rfl⟩
    | [] => exact .inr (.inl ⟨_, rfl, by simp⟩)
    | [_] => exact .inr (.inl ⟨_, rfl, by simp⟩)
    | _ :: _ :: _ :: _ => exact .inr (.inl ⟨_, rfl, by simp⟩)
  | _ => exact .inr (.inr ⟨kit_tuple _, rfl, rfl⟩)
theorem ok_is_room (T : Tx K mg) : FnOk P w K mg base CX0 3 T.f_is_room T.d_is_room ["thing"] (spF 1 (pre1 SzD) (fn1 fun d => .bool (isRoomD d))) := by
  refine okF T.F_is_room sc_is_room fun X cdv A outer s H0 E vs F H ds Q hX hr hl hs ha hp q => ?_
  obtain ⟨d, rfl, hz⟩ := hp
  obtain ⟨v, rfl, hd⟩ := daAll1 ha
  subst hX
  clear hl
  have q : ∀ v F2 H2, Gr F H F2 H2 → Da F2 (.bool (isRoomD d)) v → Q v H2 := q
  have hu := hr.units
  rcases tup2_cases d with ⟨a, b, rfl⟩ | ⟨ds, rfl, hne⟩ | ⟨hk, h0, _⟩
  · refine ss_cons (ws_ifD (DT.of_w (dw_or (dt_not (dt_val (de_isi (bb := true) T.m_isinstance T.m_tuple (de_v 0 hd) (kit_tuple _)))) (fun _ => dw_or (dt_c (c_neI (de_lenT T.m_len (de_v 0 hd)) de_int))
      (fun _ => dw_or (dt_not (dt_val (x_are_keys T hr (de_ixT (d := a) (de_v 0 hd) de_int rfl) hz.1)))
      (fun _ => dw_or1 (dt_not (dt_val (x_are_keys T hr (de_ixT (d := b) (de_v 0 hd) de_int rfl) hz.2.1)))))))) hs (fun hb F2 H2 g => ?_) (fun hb F2 H2 g => ?_))
    · refine ss_one (ws_retD de_bool g.fh fun v F3 H3 g3 hv => q v F3 H3 (g.trans g3) ?_)
      rw [room_out hb rfl]; exact hv
    · obtain ⟨ha1, hb1⟩ := room_in hb
      obtain ⟨ks, rfl, hks⟩ := areKeysD_list ha1
      refine ss_nil (ss_one (ws_retD (de_and (de_lele de_int (de_lenL T.m_len (de_ixT (d := ksD ks) (de_v 0 (g.da hd)) de_int rfl)) (de_of (ve_glob T.c_MOST_LOCKS) rfl)) fun _ => de_one (de_c (c_is (c_eq hu (de_ixT (d := ksD ks) (de_v 0 (g.da hd)) de_int rfl) (de_sortedS T.m_sorted (de_ixT (d := ksD ks) (de_v 0 (g.da hd)) de_int rfl)) (lay_ks hks).shaped (lay_ks (fun k hk => hks k (mem_srt.mp hk))).shaped) (eqv_ks ks (srt ks))))) g.fh fun v F3 H3 g3 hv => q v F3 H3 (g.trans g3) ?_))
      rw [room_is ha1 hb1]; exact hv
  · refine ss_cons (ws_ifD (b := true) (DT.of_w (dw_or (cc := true) (dt_not (dt_val (de_isi (bb := true) T.m_isinstance T.m_tuple (de_v 0 hd) (kit_tuple _)))) (fun _ => dt_is_w (dw_or (cc := true) (dt_c (c_neI (de_lenT T.m_len (de_v 0 hd)) de_int)) (fun z => (ne2 hne z).elim)) (Bool.or_true _)))) hs (fun hb F2 H2 g => ?_) (fun hb F2 H2 g => nomatch hb))
    refine ss_one (ws_retD de_bool g.fh fun v F3 H3 g3 hv => q v F3 H3 (g.trans g3) ?_)
    rw [room_len hne]; exact hv
  · refine ss_cons (ws_ifD (b := true) (DT.of_w (dw_or (cc := true) (dt_not (dt_val (de_isi T.m_isinstance T.m_tuple (de_v 0 hd) hk))) (fun z => nomatch z))) hs (fun hb F2 H2 g => ?_) (fun hb F2 H2 g => nomatch hb))
    refine ss_one (ws_retD de_bool g.fh fun v F3 H3 g3 hv => q v F3 H3 (g.trans g3) ?_)
    rw [h0]; exact hv
theorem x_is_room {X : Cx} {σ : St} {F H : Hp} {e : Expr} {d : PyData} {p pos : Pos} {k : Nat} (T : Tx X.K X.mg) (hr : Room k X.A) (h : DE X e σ F H d) (hz : SzD d) (hk : 3 ≤ k := by decide) (hg : Gl X "is_room" := by rfl) (l : Pl X e [] pos := by exact ⟨rfl, rfl⟩) :
    DE X (.Call (.Name "is_room" p) [e] [] pos) σ F H (.bool (isRoomD d)) := de_call (ok_is_room T) (hr.mono hk) T.g_is_room T.F_is_room.kp T.b_is_room (dl_cons h dl_nil l.he) rfl ⟨d, rfl, hz⟩ rfl hg (by decide) l
theorem ok_is_house (T : Tx K mg) : FnOk P w K mg base CX0 4 T.f_is_house T.d_is_house ["thing"] (spF 1 (pre1 SzD) (fn1 fun d => .bool (isHouseD d))) := by
  refine okF T.F_is_house sc_is_house fun X cdv A outer s H0 E vs F H ds Q hX hr hl hs ha hp q => ?_
  obtain ⟨d, rfl, hz⟩ := hp
  obtain ⟨v, rfl, hd⟩ := daAll1 ha
  subst hX
  clear hl
  have q : ∀ v F2 H2, Gr F H F2 H2 → Da F2 (.bool (isHouseD d)) v → Q v H2 := q
  have hu := hr.units
  rcases tup2_cases d with ⟨a, b, rfl⟩ | ⟨ds, rfl, hne⟩ | ⟨hk, _, h0⟩
  · refine ss_cons (ws_ifD (DT.of_w (dw_or (dt_not (dt_val (de_isi (bb := true) T.m_isinstance T.m_tuple (de_v 0 hd) (kit_tuple _)))) (fun _ => dw_or (dt_c (c_neI (de_lenT T.m_len (de_v 0 hd)) de_int))
      (fun _ => dw_or (dt_not (dt_val (x_are_keys T hr (de_ixT (d := a) (de_v 0 hd) de_int rfl) hz.1)))
      (fun _ => dw_or1 (dt_not (dt_val (de_isi T.m_isinstance T.m_list (de_ixT (d := b) (de_v 0 hd) de_int rfl) (kit_list' _))))))))) hs (fun hb F2 H2 g => ?_) (fun hb F2 H2 g => ?_))
    · refine ss_one (ws_retD de_bool g.fh fun v F3 H3 g3 hv => q v F3 H3 (g.trans g3) ?_)
      rw [house_out hb rfl]; exact hv
    · obtain ⟨hka, rs, rfl⟩ := house_in hb
      have hz2 : rs.length ≤ 100000 ∧ SzAll rs := hz.2.1
      refine ss_nil (ss_one (ws_retD (de_c (c_eqNil hu (de_lcIf (Dx := fun d => d) (xs := rs) [("room", 1)] (lcok sc_is_house (by decide +kernel)) (fun d => !isRoomD d) (fun d => d) (by rw [List.map_id']; exact (di_list (de_ixT (d := .list rs) (de_v 0 (g.da hd)) de_int rfl)).i) (sz100 hz2.1) fun x hx v F' H' g' hv => ?_))) g.fh fun v F3 H3 g3 hv => q v F3 H3 (g.trans g3) ?_))
      · exact gb_name 1 sc_is_house.nd ⟨rfl, rfl, fun _ _ _ _ _ => dt_not (dt_val (x_is_room T hr (de_v 1 hv) (hz2.2.mem hx))), fun _ _ _ _ _ _ => de_v 1 hv⟩
      · rw [house_is hka, ← filter_none]; exact hv
  · refine ss_cons (ws_ifD (b := true) (DT.of_w (dw_or (cc := true) (dt_not (dt_val (de_isi (bb := true) T.m_isinstance T.m_tuple (de_v 0 hd) (kit_tuple _)))) (fun _ => dt_is_w (dw_or (cc := true) (dt_c (c_neI (de_lenT T.m_len (de_v 0 hd)) de_int)) (fun z => (ne2 hne z).elim)) (Bool.or_true _)))) hs (fun hb F2 H2 g => ?_) (fun hb F2 H2 g => nomatch hb))
    refine ss_one (ws_retD de_bool g.fh fun v F3 H3 g3 hv => q v F3 H3 (g.trans g3) ?_)
    rw [house_len hne]; exact hv
  · refine ss_cons (ws_ifD (b := true) (DT.of_w (dw_or (cc := true) (dt_not (dt_val (de_isi T.m_isinstance T.m_tuple (de_v 0 hd) hk))) (fun z => nomatch z))) hs (fun hb F2 H2 g => ?_) (fun hb F2 H2 g => nomatch hb))
    refine ss_one (ws_retD de_bool g.fh fun v F3 H3 g3 hv => q v F3 H3 (g.trans g3) ?_)
    rw [h0]; exact hv
theorem x_is_house {X : Cx} {σ : St} {F H : Hp} {e : Expr} {d : PyData} {p pos : Pos} {k : Nat} (T : Tx X.K X.mg) (hr : Room k X.A) (h : DE X e σ F H d) (hz : SzD d) (hk : 4 ≤ k := by decide) (hg : Gl X "is_house" := by rfl) (l : Pl X e [] pos := by exact ⟨rfl, rfl⟩) :
    DE X (.Call (.Name "is_house" p) [e] [] pos) σ F H (.bool (isHouseD d)) := de_call (ok_is_house T) (hr.mono hk) T.g_is_house T.F_is_house.kp T.b_is_house (dl_cons h dl_nil l.he) rfl ⟨d, rfl, hz⟩ rfl hg (by decide) l
end

def tt_show_keys (m : Nat) : TSA := (seqA (ifA (nilT false (varA 0)) (retA (cstA (.str "-"))) nextA)
    (retA (joinA (cstA (.str " ")) (frzA (bltN sortedN (consL (varA 0) nilL))))))
def TT_show_keys : SpT := bodyT 0 (tt_show_keys)
theorem kk_show_keys {P : Program} {w : World} {K : PySem.W.Frag} {mg : Str → Option Value} {base : Heap} (T : Tx K mg) : FnOk P w K mg base CX0 1 T.f_show_keys T.d_show_keys ["keys"] (spA 1 (TT_show_keys)) :=
  okA T.F_show_keys sc_show_keys fun cdv A outer s H E B hr =>
    (ss_consA (sa_if (et_eqNil hr.units (ea_v 0)) (ss_oneA (sa_ret ea_str)) ss_nilA)
      (ss_oneA (sa_ret (ea_join ea_str (ea_frz (en_blt (c_sorted rfl) T.m_sorted (el_cons (ea_v 0) el_nil)))))))
def tt_show_room (m : Nat) : TSA := (retA (opA addA (opA addA (joinA (cstA (.str "+")) (opA ixA (varA 0) (cstA (.int 0)))) (cstA (.str ": "))) (callF TT_show_keys (consL (opA ixA (varA 0) (cstA (.int 1))) nilL))))
def TT_show_room : SpT := bodyT 0 (tt_show_room)
theorem kk_show_room {P : Program} {w : World} {K : PySem.W.Frag} {mg : Str → Option Value} {base : Heap} (T : Tx K mg) : FnOk P w K mg base CX0 2 T.f_show_room T.d_show_room ["room"] (spA 1 (TT_show_room)) :=
  okA T.F_show_room sc_show_room fun cdv A outer s H E B hr =>
    (ss_oneA (sa_ret (ea_op o_add (ea_op o_add (ea_join ea_str (ea_ix (hu1 hr) (ea_v 0) ea_int)) ea_str) (ea_callF (kk_show_keys T) (hr.mono (by decide)) T.g_show_keys T.F_show_keys.kp T.b_show_keys (el_cons (ea_ix (hu1 hr) (ea_v 0) ea_int) el_nil)))))
def tt_show_house (m : Nat) : TSA := (seqA (ifA (notA (valA (callF (tF 1 (pre1 SzD) (fn1 fun d => .bool (isHouseD d))) (consL (varA 0) nilL)))) neverA nextA)
    (retA (joinA (cstA (.str "\n")) (opA addA (frzA (lstN (consL (callF TT_show_keys (consL (opA ixA (varA 0) (cstA (.int 0))) nilL)) nilL))) (frzA (lcN (ioT (iterL (opA ixA (varA 0) (cstA (.int 1))))) (nameG 1) yesA (callF TT_show_room (consL (varA 1) nilL)) [1]))))))
def TT_show_house : SpT := bodyT 1 (tt_show_house)
theorem kk_show_house {P : Program} {w : World} {K : PySem.W.Frag} {mg : Str → Option Value} {base : Heap} (T : Tx K mg) : FnOk P w K mg base CX0 5 T.f_show_house T.d_show_house ["house"] (spA 1 (TT_show_house)) :=
  okA T.F_show_house sc_show_house fun cdv A outer s H E B hr =>
    (ss_consA (sa_if (et_not (et_val (ea_callF (okF_A (ok_is_house T)) (hr.mono (by decide)) T.g_is_house T.F_is_house.kp T.b_is_house (el_cons (ea_v 0) el_nil)))) (ss_oneA sa_never) ss_nilA)
      (ss_oneA (sa_ret (ea_join ea_str (ea_op o_add (ea_frz (en_lst (el_cons (ea_callF (kk_show_keys T) (hr.mono (by decide)) T.g_show_keys T.F_show_keys.kp T.b_show_keys (el_cons (ea_ix (hu1 hr) (ea_v 0) ea_int) el_nil)) el_nil))) (ea_frz (en_lc [("room", 1)] (lcok sc_show_house (by decide +kernel)) (IO.of (ia_list (ea_ix (hu1 hr) (ea_v 0) ea_int))) (fun _ _ _ _ _ => (gt_name 1 sc_show_house.nd)) (fun _ _ _ _ _ _ => (ea_callF (kk_show_room T) (hr.mono (by decide)) T.g_show_room T.F_show_room.kp T.b_show_room (el_cons (ea_v 1) el_nil))))))))))
def tt_keys_from (m : Nat) : TSA := (seqA (ifA (opT (eqT false) (varA 0) (cstA (.str "-"))) (retA (ownA (lstN nilL))) nextA)
    (retA (ownA (splitN (varA 0) (cstA (.str " "))))))
def TT_keys_from : SpT := bodyT 0 (tt_keys_from)
theorem kk_keys_from {P : Program} {w : World} {K : PySem.W.Frag} {mg : Str → Option Value} {base : Heap} (T : Tx K mg) : FnOk P w K mg base CX0 1 T.f_keys_from T.d_keys_from ["text"] (spA 1 (TT_keys_from)) :=
  okA T.F_keys_from sc_keys_from fun cdv A outer s H E B hr =>
    (ss_consA (sa_if (et_cmp (o_eq hr.units) (ea_v 0) ea_str) (ss_oneA (sa_ret (ea_own (en_lst el_nil)))) ss_nilA)
      (ss_oneA (sa_ret (ea_own (en_split (ea_v 0) ea_str)))))
def tt_room_from (m : Nat) : TSA := (seqA (asgA (partA (varA 0) (cstA (.str ": "))) (tup3G (nameG 1) (nameG 2) (nameG 3)))
    (retA (tupA (consL (frzA (splitN (varA 1) (cstA (.str "+")))) (consL (callF TT_keys_from (consL (varA 3) nilL)) nilL)))))
def TT_room_from : SpT := bodyT 3 (tt_room_from)
theorem kk_room_from {P : Program} {w : World} {K : PySem.W.Frag} {mg : Str → Option Value} {base : Heap} (T : Tx K mg) : FnOk P w K mg base CX0 2 T.f_room_from T.d_room_from ["line"] (spA 1 (TT_room_from)) :=
  okA T.F_room_from sc_room_from fun cdv A outer s H E B hr =>
    (ss_consA (sa_asg (ea_part (ea_v 0) ea_str) (gt_tup3 rfl (gt_name 1 sc_room_from.nd) (gt_name 2 sc_room_from.nd) (gt_name 3 sc_room_from.nd)))
      (ss_oneA (sa_ret (ea_tup (el_cons (ea_frz (en_split (ea_v 1) ea_str)) (el_cons (ea_callF (kk_keys_from T) (hr.mono (by decide)) T.g_keys_from T.F_keys_from.kp T.b_keys_from (el_cons (ea_v 3) el_nil)) el_nil))))))
def tt_read_house (m : Nat) : TSA := (seqA (ifA (notA (valA (isiT "str" (varA 0)))) neverA nextA)
    (seqA (setA 1 (frzA (splitN (varA 0) (cstA (.str "\n")))))
    (seqA (setA 2 (tupA (consL (callF TT_keys_from (consL (opA ixA (varA 1) (cstA (.int 0))) nilL)) (consL (frzA (lcN (ioT (iterL (slLo (varA 1) (cstA (.int 1))))) (nameG 3) yesA (callF TT_room_from (consL (varA 3) nilL)) [3])) nilL))))
    (seqA (ifA (orA (notA (valA (callF (tF 1 (pre1 SzD) (fn1 fun d => .bool (isHouseD d))) (consL (varA 2) nilL)))) (opT (eqT true) (callF TT_show_house (consL (varA 2) nilL)) (varA 0))) neverA nextA)
    (retA (varA 2))))))
def TT_read_house : SpT := bodyT 3 (tt_read_house)
theorem kk_read_house {P : Program} {w : World} {K : PySem.W.Frag} {mg : Str → Option Value} {base : Heap} (T : Tx K mg) : FnOk P w K mg base CX0 6 T.f_read_house T.d_read_house ["text"] (spA 1 (TT_read_house)) :=
  okA T.F_read_house sc_read_house fun cdv A outer s H E B hr =>
    (ss_consA (sa_if (et_not (et_val (ea_isi (tn := "str") T.m_isinstance T.m_str (ea_v 0)))) (ss_oneA sa_never) ss_nilA)
      (ss_consA (sa_set 1 sc_read_house.nd (ea_frz (en_split (ea_v 0) ea_str)))
      (ss_consA (sa_set 2 sc_read_house.nd (ea_tup (el_cons (ea_callF (kk_keys_from T) (hr.mono (by decide)) T.g_keys_from T.F_keys_from.kp T.b_keys_from (el_cons (ea_ix (hu1 hr) (ea_v 1) ea_int) el_nil)) (el_cons (ea_frz (en_lc [("line", 3)] (lcok sc_read_house (by decide +kernel)) (IO.of (ia_list (ea_slLo (ea_v 1) ea_int))) (fun _ _ _ _ _ => (gt_name 3 sc_read_house.nd)) (fun _ _ _ _ _ _ => (ea_callF (kk_room_from T) (hr.mono (by decide)) T.g_room_from T.F_room_from.kp T.b_room_from (el_cons (ea_v 3) el_nil))))) el_nil))))
      (ss_consA (sa_if (ET.of_w (ew_or (et_not (et_val (ea_callF (okF_A (ok_is_house T)) (hr.mono (by decide)) T.g_is_house T.F_is_house.kp T.b_is_house (el_cons (ea_v 2) el_nil)))) (ew_or1 (et_cmp (o_ne hr.units) (ea_callF (kk_show_house T) (hr.mono (by decide)) T.g_show_house T.F_show_house.kp T.b_show_house (el_cons (ea_v 2) el_nil)) (ea_v 0))))) (ss_oneA sa_never) ss_nilA)
      (ss_oneA (sa_ret (ea_v 2)))))))
def tt_law_cell_at (K : PySem.W.Frag) (m : Nat) : TSA := (seqA (ifA (opT ltT (varA 1) (scrLen K 0)) (retA (scrAt K 0 (varA 1))) nextA)
    (retA (cstA (.int 0))))
def TT_law_cell_at (K : PySem.W.Frag) : SpT := bodyT 0 (tt_law_cell_at K)
theorem kk_law_cell_at {P : Program} {w : World} {K : PySem.W.Frag} {mg : Str → Option Value} {base : Heap} (T : Tx K mg) : FnOk P w K mg base CX0 1 T.f_law_cell_at T.d_law_cell_at ["script", "k"] (spA 2 (TT_law_cell_at K)) :=
  okA T.F_law_cell_at sc_law_cell_at fun cdv A outer s H E B hr =>
    (ss_consA (sa_if (et_cmp o_lt (ea_v 1) (ea_scrLen 0 T.m_len)) (ss_oneA (sa_ret (ea_scrAt 0 (ea_v 1)))) ss_nilA)
      (ss_oneA (sa_ret ea_int)))
def tt_law_numbers (m : Nat) : TSA := (seqA (setA 2 (ownA (lstN nilL)))
    (seqA (setA 3 (varA 0))
    (seqA (setA 4 (opA modA (varA 0) (cstA (.int 2147483647))))
    (seqA (forA m (iterR1 (fun s Q => (varA 1) s fun x s1 => onSome x.int? fun j => -(2 ^ 62) ≤ j ∧ Q x s1)) (nameG 5) (ifA (andA (opT geT (varA 0) (opA powA (cstA (.int 10)) (cstA (.int 18)))) (opT gtT (varA 3) (cstA (.int 0)))) (seqA (dropA (mtL appendA (varA 2) (consL (opA modA (varA 3) (cstA (.int 64))) nilL)))
    (setA 3 (opA fdivA (varA 3) (cstA (.int 64))))) (seqA (setA 4 (opA modA (opA mulX (opA addA (opA addA (varA 4) (opA mulX (cstA (.int 7)) (varA 5))) (cstA (.int 3))) (cstA (.int 48271))) (cstA (.int 2147483647))))
    (seqA (setA 6 (opA modA (opA mulX (opA modA (opA mulX (varA 4) (varA 4)) (cstA (.int 2147483629))) (cstA (.int 69621))) (cstA (.int 2147483587))))
    (dropA (mtL appendA (varA 2) (consL (opA modA (opA fdivA (varA 6) (cstA (.int 8))) (cstA (.int 720720))) nilL)))))))
    (retA (varA 2))))))
def TT_law_numbers : SpT := bodyT 5 (tt_law_numbers)
theorem kk_law_numbers {P : Program} {w : World} {K : PySem.W.Frag} {mg : Str → Option Value} {base : Heap} (T : Tx K mg) : FnOk P w K mg base CX0 1 T.f_law_numbers T.d_law_numbers ["cell", "many"] (spA 2 (TT_law_numbers)) :=
  okA T.F_law_numbers sc_law_numbers fun cdv A outer s H E B hr =>
    (ss_consA (sa_set 2 sc_law_numbers.nd (ea_own (en_lst el_nil)))
      (ss_consA (sa_set 3 sc_law_numbers.nd (ea_v 0))
      (ss_consA (sa_set 4 sc_law_numbers.nd (ea_op o_mod (ea_v 0) ea_int))
      (ss_consA (sa_for PassesOwn.never rfl (ia_range1 T.m_range (ea_v 1)) (gt_name 5 sc_law_numbers.nd) (fun _ => (ss_oneA (sa_if (ET.of_w (ew_and (et_cmp o_ge (ea_v 0) (ea_op o_pow ea_int ea_int)) (ew_and1 (et_cmp o_gt (ea_v 3) ea_int)))) (ss_consA (sa_expr (ea_mtL PySem.F.slot_list_append PySem.F.type_list_append m_append (ea_v 2) (el_cons (ea_op o_mod (ea_v 3) ea_int) el_nil)))
      (ss_oneA (sa_set 3 sc_law_numbers.nd (ea_op o_fdiv (ea_v 3) ea_int)))) (ss_consA (sa_set 4 sc_law_numbers.nd (ea_op o_mod (ea_op o_mulX (ea_op o_add (ea_op o_add (ea_v 4) (ea_op o_mulX ea_int (ea_v 5))) ea_int) ea_int) ea_int))
      (ss_consA (sa_set 6 sc_law_numbers.nd (ea_op o_mod (ea_op o_mulX (ea_op o_mod (ea_op o_mulX (ea_v 4) (ea_v 4)) ea_int) ea_int) ea_int))
      (ss_oneA (sa_expr (ea_mtL PySem.F.slot_list_append PySem.F.type_list_append m_append (ea_v 2) (el_cons (ea_op o_mod (ea_op o_fdiv (ea_v 6) ea_int) ea_int) el_nil))))))))))
      (ss_oneA (sa_ret (ea_v 2)))))))
def tt_law_deck (m : Nat) : TSA := (retA (ownA (revN (callF TT_law_numbers (consL (varA 0) (consL (varA 1) nilL))))))
def TT_law_deck : SpT := bodyT 0 (tt_law_deck)
theorem kk_law_deck {P : Program} {w : World} {K : PySem.W.Frag} {mg : Str → Option Value} {base : Heap} (T : Tx K mg) : FnOk P w K mg base CX0 2 T.f_law_deck T.d_law_deck ["cell", "many"] (spA 2 (TT_law_deck)) :=
  okA T.F_law_deck sc_law_deck fun cdv A outer s H E B hr =>
    (ss_oneA (sa_ret (ea_own (en_rev (ea_callF (kk_law_numbers T) (hr.mono (by decide)) T.g_law_numbers T.F_law_numbers.kp T.b_law_numbers (el_cons (ea_v 0) (el_cons (ea_v 1) el_nil)))))))
def tt_law_take (m : Nat) : TSA := (seqA (ifA (nilT false (varA 0)) (retA (cstA (.int 0))) nextA)
    (retA (opA modA (mtL0 (fun x xs s Q => xs = [] ∧ popA x xs s Q) (varA 0)) (varA 1))))
def TT_law_take : SpT := bodyT 0 (tt_law_take)
theorem kk_law_take {P : Program} {w : World} {K : PySem.W.Frag} {mg : Str → Option Value} {base : Heap} (T : Tx K mg) : FnOk P w K mg base CX0 1 T.f_law_take T.d_law_take ["deck", "many"] (spA 2 (TT_law_take)) :=
  okA T.F_law_take sc_law_take fun cdv A outer s H E B hr =>
    (ss_consA (sa_if (et_eqNil hr.units (ea_v 0)) (ss_oneA (sa_ret ea_int)) ss_nilA)
      (ss_oneA (sa_ret (ea_op o_mod (ea_mtL0 PySem.F.slot_list_pop PySem.F.type_list_pop m_pop (ea_v 0)) (ea_v 1)))))
def tt_law_kind (m : Nat) : TSA := (seqA (setA 2 (callF TT_law_take (consL (varA 0) (consL (cstA (.int 16)) nilL))))
    (seqA (ifA (opT (eqT false) (varA 2) (cstA (.int 5))) (seqA (setA 3 (frzA (lstN (consL (cstA (.str "keys")) (consL (cstA (.str "room")) (consL (cstA (.str "open")) (consL (cstA (.str "back")) (consL (cstA (.str "new")) (consL (cstA (.str "hand")) (consL (cstA (.str "next")) (consL (cstA (.str "gone")) (consL (cstA (.str "all")) (consL (cstA (.str "buy")) (consL (cstA (.str "nth")) (consL (cstA (.str "most")) (consL (cstA (.str "best")) nilL))))))))))))))))
    (retA (opA ixA (opA addA (varA 3) (frzA (lstN (consL (cstA (.str "show")) (consL (cstA (.str "none")) (consL (cstA (.str "yes")) (consL (cstA (.str "few")) (consL (cstA (.str "shut")) nilL)))))))) (callF TT_law_take (consL (varA 0) (consL (cstA (.int 18)) nilL)))))) nextA)
    (seqA (ifA (opT (eqT false) (varA 2) (cstA (.int 6))) (retA (opA ixA (frzA (lstN (consL (cstA (.str "abcd")) (consL (cstA (.str "abce")) (consL (cstA (.str "abcz")) (consL (cstA (.str "zz")) (consL (cstA (.str "zy")) (consL (cstA (.str "zbcd")) (consL (cstA (.str "keya")) (consL (cstA (.str "keyb")) nilL)))))))))) (callF TT_law_take (consL (varA 0) (consL (cstA (.int 8)) nilL))))) nextA)
    (seqA (ifA (opT (eqT false) (varA 2) (cstA (.int 7))) (seqA (setA 4 (cstA (.str "")))
    (seqA (forA m (iterR1 (fun s Q => (opA addA (cstA (.int 1)) (callF TT_law_take (consL (varA 0) (consL (cstA (.int 4)) nilL)))) s fun x s1 => onSome x.int? fun j => -(2 ^ 62) ≤ j ∧ Q x s1)) (nameG 5) (setA 4 (opA addA (varA 4) (opA ixA (cstA (.str "abcdefghijklmnopqrstuvwxyz")) (callF TT_law_take (consL (varA 0) (consL (cstA (.int 26)) nilL)))))))
    (retA (varA 4)))) nextA)
    (retA (opA ixA (frzA (lstN (consL (cstA (.str "a")) (consL (cstA (.str "b")) (consL (cstA (.str "ab")) (consL (cstA (.str "c")) (consL (cstA (.str "zz")) (consL (cstA (.str "abcd")) (consL (cstA (.str "ba")) (consL (cstA (.str "k")) nilL)))))))))) (callF TT_law_take (consL (varA 0) (consL (varA 1) nilL)))))))))
def TT_law_kind : SpT := bodyT 4 (tt_law_kind)
theorem kk_law_kind {P : Program} {w : World} {K : PySem.W.Frag} {mg : Str → Option Value} {base : Heap} (T : Tx K mg) : FnOk P w K mg base CX0 2 T.f_law_kind T.d_law_kind ["deck", "few"] (spA 2 (TT_law_kind)) :=
  okA T.F_law_kind sc_law_kind fun cdv A outer s H E B hr =>
    (ss_consA (sa_set 2 sc_law_kind.nd (ea_callF (kk_law_take T) (hr.mono (by decide)) T.g_law_take T.F_law_take.kp T.b_law_take (el_cons (ea_v 0) (el_cons ea_int el_nil))))
      (ss_consA (sa_if (et_cmp (o_eq hr.units) (ea_v 2) ea_int) (ss_consA (sa_set 3 sc_law_kind.nd (ea_frz (en_lst (el_cons ea_str (el_cons ea_str (el_cons ea_str (el_cons ea_str (el_cons ea_str (el_cons ea_str (el_cons ea_str (el_cons ea_str (el_cons ea_str (el_cons ea_str (el_cons ea_str (el_cons ea_str (el_cons ea_str el_nil))))))))))))))))
      (ss_oneA (sa_ret (ea_ix (hu1 hr) (ea_op o_add (ea_v 3) (ea_frz (en_lst (el_cons ea_str (el_cons ea_str (el_cons ea_str (el_cons ea_str (el_cons ea_str el_nil)))))))) (ea_callF (kk_law_take T) (hr.mono (by decide)) T.g_law_take T.F_law_take.kp T.b_law_take (el_cons (ea_v 0) (el_cons ea_int el_nil))))))) ss_nilA)
      (ss_consA (sa_if (et_cmp (o_eq hr.units) (ea_v 2) ea_int) (ss_oneA (sa_ret (ea_ix (hu1 hr) (ea_frz (en_lst (el_cons ea_str (el_cons ea_str (el_cons ea_str (el_cons ea_str (el_cons ea_str (el_cons ea_str (el_cons ea_str (el_cons ea_str el_nil)))))))))) (ea_callF (kk_law_take T) (hr.mono (by decide)) T.g_law_take T.F_law_take.kp T.b_law_take (el_cons (ea_v 0) (el_cons ea_int el_nil)))))) ss_nilA)
      (ss_consA (sa_if (et_cmp (o_eq hr.units) (ea_v 2) ea_int) (ss_consA (sa_set 4 sc_law_kind.nd ea_str)
      (ss_consA (sa_for PassesOwn.never rfl (ia_range1 T.m_range (ea_op o_add ea_int (ea_callF (kk_law_take T) (hr.mono (by decide)) T.g_law_take T.F_law_take.kp T.b_law_take (el_cons (ea_v 0) (el_cons ea_int el_nil))))) (gt_name 5 sc_law_kind.nd) (fun _ => (ss_oneA (sa_set 4 sc_law_kind.nd (ea_op o_add (ea_v 4) (ea_ix (hu1 hr) ea_str (ea_callF (kk_law_take T) (hr.mono (by decide)) T.g_law_take T.F_law_take.kp T.b_law_take (el_cons (ea_v 0) (el_cons ea_int el_nil)))))))))
      (ss_oneA (sa_ret (ea_v 4))))) ss_nilA)
      (ss_oneA (sa_ret (ea_ix (hu1 hr) (ea_frz (en_lst (el_cons ea_str (el_cons ea_str (el_cons ea_str (el_cons ea_str (el_cons ea_str (el_cons ea_str (el_cons ea_str (el_cons ea_str el_nil)))))))))) (ea_callF (kk_law_take T) (hr.mono (by decide)) T.g_law_take T.F_law_take.kp T.b_law_take (el_cons (ea_v 0) (el_cons (ea_v 1) el_nil))))))))))
def tt_law_keys (m : Nat) : TSA := (retA (ownA (lcN (ioT (iterR1 (fun s Q => (callF TT_law_take (consL (varA 0) (consL (varA 2) nilL))) s fun x s1 => onSome x.int? fun j => -(2 ^ 62) ≤ j ∧ Q x s1))) (nameG 3) yesA (callF TT_law_kind (consL (varA 0) (consL (varA 1) nilL))) [3])))
def TT_law_keys : SpT := bodyT 1 (tt_law_keys)
theorem kk_law_keys {P : Program} {w : World} {K : PySem.W.Frag} {mg : Str → Option Value} {base : Heap} (T : Tx K mg) : FnOk P w K mg base CX0 3 T.f_law_keys T.d_law_keys ["deck", "few", "most"] (spA 3 (TT_law_keys)) :=
  okA T.F_law_keys sc_law_keys fun cdv A outer s H E B hr =>
    (ss_oneA (sa_ret (ea_own (en_lc [("k", 3)] (lcok sc_law_keys (by decide +kernel)) (IO.of (ia_range1 T.m_range (ea_callF (kk_law_take T) (hr.mono (by decide)) T.g_law_take T.F_law_take.kp T.b_law_take (el_cons (ea_v 0) (el_cons (ea_v 2) el_nil))))) (fun _ _ _ _ _ => (gt_name 3 sc_law_keys.nd)) (fun _ _ _ _ _ _ => (ea_callF (kk_law_kind T) (hr.mono (by decide)) T.g_law_kind T.F_law_kind.kp T.b_law_kind (el_cons (ea_v 0) (el_cons (ea_v 1) el_nil))))))))
def tt_law_house (m : Nat) : TSA := (seqA (setA 3 (opA ixA (frzA (lstN (consL (cstA (.int 2)) (consL (cstA (.int 3)) (consL (cstA (.int 8)) nilL))))) (callF TT_law_take (consL (varA 0) (consL (cstA (.int 3)) nilL)))))
    (seqA (setA 4 (ownA (lstN nilL)))
    (seqA (forA m (iterR1 (fun s Q => (callF TT_law_take (consL (varA 0) (consL (opA addA (varA 1) (cstA (.int 1))) nilL))) s fun x s1 => onSome x.int? fun j => -(2 ^ 62) ≤ j ∧ Q x s1)) (nameG 5) (seqA (setA 6 (frzA (bltN sortedN (consL (frzA (lcN (ioT (iterR1 (fun s Q => (opA addA (cstA (.int 1)) (callF TT_law_take (consL (varA 0) (consL (varA 2) nilL)))) s fun x s1 => onSome x.int? fun j => -(2 ^ 62) ≤ j ∧ Q x s1))) (nameG 7) yesA (callF TT_law_kind (consL (varA 0) (consL (varA 3) nilL))) [7])) nilL))))
    (dropA (mtL appendA (varA 4) (consL (tupA (consL (varA 6) (consL (callF TT_law_keys (consL (varA 0) (consL (varA 3) (consL (opA ixA (frzA (lstN (consL (cstA (.int 2)) (consL (cstA (.int 3)) (consL (cstA (.int 4)) (consL (cstA (.int 2)) (consL (opA ixA (frzA (lstN (consL (cstA (.int 9)) (consL (cstA (.int 3)) nilL)))) (bltA intA (consL (boolA (opT gtT (varA 1) (cstA (.int 12)))) nilL))) nilL))))))) (callF TT_law_take (consL (varA 0) (consL (cstA (.int 5)) nilL)))) nilL)))) nilL))) nilL)))))
    (retA (tupA (consL (callF TT_law_keys (consL (varA 0) (consL (varA 3) (consL (opA ixA (frzA (lstN (consL (cstA (.int 5)) (consL (cstA (.int 5)) (consL (cstA (.int 5)) (consL (cstA (.int 13)) nilL)))))) (callF TT_law_take (consL (varA 0) (consL (cstA (.int 4)) nilL)))) nilL)))) (consL (fzA m 4) nilL)))))))
def TT_law_house : SpT := bodyT 5 (tt_law_house)
theorem kk_law_house {P : Program} {w : World} {K : PySem.W.Frag} {mg : Str → Option Value} {base : Heap} (T : Tx K mg) : FnOk P w K mg base CX0 4 T.f_law_house T.d_law_house ["deck", "most", "locks"] (spA 3 (TT_law_house)) :=
  okA T.F_law_house sc_law_house fun cdv A outer s H E B hr =>
    (ss_consA (sa_set 3 sc_law_house.nd (ea_ix (hu1 hr) (ea_frz (en_lst (el_cons ea_int (el_cons ea_int (el_cons ea_int el_nil))))) (ea_callF (kk_law_take T) (hr.mono (by decide)) T.g_law_take T.F_law_take.kp T.b_law_take (el_cons (ea_v 0) (el_cons ea_int el_nil)))))
      (ss_consA (sa_set 4 sc_law_house.nd (ea_own (en_lst el_nil)))
      (ss_consA (sa_for PassesOwn.never rfl (ia_range1 T.m_range (ea_callF (kk_law_take T) (hr.mono (by decide)) T.g_law_take T.F_law_take.kp T.b_law_take (el_cons (ea_v 0) (el_cons (ea_op o_add (ea_v 1) ea_int) el_nil)))) (gt_name 5 sc_law_house.nd) (fun _ => (ss_consA (sa_set 6 sc_law_house.nd (ea_frz (en_blt (c_sorted rfl) T.m_sorted (el_cons (ea_frz (en_lc [("j", 7)] (lcok sc_law_house (by decide +kernel)) (IO.of (ia_range1 T.m_range (ea_op o_add ea_int (ea_callF (kk_law_take T) (hr.mono (by decide)) T.g_law_take T.F_law_take.kp T.b_law_take (el_cons (ea_v 0) (el_cons (ea_v 2) el_nil)))))) (fun _ _ _ _ _ => (gt_name 7 sc_law_house.nd)) (fun _ _ _ _ _ _ => (ea_callF (kk_law_kind T) (hr.mono (by decide)) T.g_law_kind T.F_law_kind.kp T.b_law_kind (el_cons (ea_v 0) (el_cons (ea_v 3) el_nil)))))) el_nil))))
      (ss_oneA (sa_expr (ea_mtL PySem.F.slot_list_append PySem.F.type_list_append m_append (ea_v 4) (el_cons (ea_tup (el_cons (ea_v 6) (el_cons (ea_callF (kk_law_keys T) (hr.mono (by decide)) T.g_law_keys T.F_law_keys.kp T.b_law_keys (el_cons (ea_v 0) (el_cons (ea_v 3) (el_cons (ea_ix (hu1 hr) (ea_frz (en_lst (el_cons ea_int (el_cons ea_int (el_cons ea_int (el_cons ea_int (el_cons (ea_ix (hu1 hr) (ea_frz (en_lst (el_cons ea_int (el_cons ea_int el_nil)))) (ea_bty c_int T.m_int (el_cons (ea_cmp o_gt (ea_v 1) ea_int) el_nil))) el_nil))))))) (ea_callF (kk_law_take T) (hr.mono (by decide)) T.g_law_take T.F_law_take.kp T.b_law_take (el_cons (ea_v 0) (el_cons ea_int el_nil)))) el_nil)))) el_nil))) el_nil)))))))
      (ss_oneA (sa_ret (ea_tup (el_cons (ea_callF (kk_law_keys T) (hr.mono (by decide)) T.g_law_keys T.F_law_keys.kp T.b_law_keys (el_cons (ea_v 0) (el_cons (ea_v 3) (el_cons (ea_ix (hu1 hr) (ea_frz (en_lst (el_cons ea_int (el_cons ea_int (el_cons ea_int (el_cons ea_int el_nil)))))) (ea_callF (kk_law_take T) (hr.mono (by decide)) T.g_law_take T.F_law_take.kp T.b_law_take (el_cons (ea_v 0) (el_cons ea_int el_nil)))) el_nil)))) (el_cons (ea_fz 4) el_nil))))))))
def tt_law_sorted (m : Nat) : TSA := (retA (tupA (consL (frzA (bltN sortedN (consL (opA ixA (varA 0) (cstA (.int 0))) nilL))) (consL (frzA (lcN (ioT (iterL (opA ixA (varA 0) (cstA (.int 1))))) (tup2G (nameG 1) (nameG 2)) yesA (tupA (consL (frzA (bltN listN (consL (varA 1) nilL))) (consL (frzA (bltN sortedN (consL (varA 2) nilL))) nilL))) [1, 2])) nilL))))
def TT_law_sorted : SpT := bodyT 2 (tt_law_sorted)
theorem kk_law_sorted {P : Program} {w : World} {K : PySem.W.Frag} {mg : Str → Option Value} {base : Heap} (T : Tx K mg) : FnOk P w K mg base CX0 1 T.f_law_sorted T.d_law_sorted ["house"] (spA 1 (TT_law_sorted)) :=
  okA T.F_law_sorted sc_law_sorted fun cdv A outer s H E B hr =>
    (ss_oneA (sa_ret (ea_tup (el_cons (ea_frz (en_blt (c_sorted rfl) T.m_sorted (el_cons (ea_ix (hu1 hr) (ea_v 0) ea_int) el_nil))) (el_cons (ea_frz (en_lc [("locks", 1), ("keys", 2)] (lcok sc_law_sorted (by decide +kernel)) (IO.of (ia_list (ea_ix (hu1 hr) (ea_v 0) ea_int))) (fun _ _ _ _ _ => (gt_tup2 rfl (gt_name 1 sc_law_sorted.nd) (gt_name 2 sc_law_sorted.nd))) (fun _ _ _ _ _ _ => (ea_tup (el_cons (ea_frz (en_bty c_list T.m_list (el_cons (ea_v 1) el_nil))) (el_cons (ea_frz (en_blt (c_sorted rfl) T.m_sorted (el_cons (ea_v 2) el_nil))) el_nil)))))) el_nil)))))
def tt_law_shuffled (m : Nat) : TSA := (seqA (setA 2 (ownA (bltN listN (consL (varA 1) nilL))))
    (retA (ownA (lcN (ioT (iterR1 (fun s Q => (bltA lenA (consL (varA 1) nilL)) s fun x s1 => onSome x.int? fun j => -(2 ^ 62) ≤ j ∧ Q x s1))) (nameG 3) yesA (mtL popAtA (varA 2) (consL (callF TT_law_take (consL (varA 0) (consL (bltA lenA (consL (varA 2) nilL)) nilL))) nilL)) [3]))))
def TT_law_shuffled : SpT := bodyT 2 (tt_law_shuffled)
theorem kk_law_shuffled {P : Program} {w : World} {K : PySem.W.Frag} {mg : Str → Option Value} {base : Heap} (T : Tx K mg) : FnOk P w K mg base CX0 2 T.f_law_shuffled T.d_law_shuffled ["deck", "things"] (spA 2 (TT_law_shuffled)) :=
  okA T.F_law_shuffled sc_law_shuffled fun cdv A outer s H E B hr =>
    (ss_consA (sa_set 2 sc_law_shuffled.nd (ea_own (en_bty c_list T.m_list (el_cons (ea_v 1) el_nil))))
      (ss_oneA (sa_ret (ea_own (en_lc [("k", 3)] (lcok sc_law_shuffled (by decide +kernel)) (IO.of (ia_range1 T.m_range (ea_blt c_len T.m_len (el_cons (ea_v 1) el_nil)))) (fun _ _ _ _ _ => (gt_name 3 sc_law_shuffled.nd)) (fun _ _ _ _ _ _ => (ea_mtL PySem.F.slot_list_pop PySem.F.type_list_pop m_popAt (ea_v 2) (el_cons (ea_callF (kk_law_take T) (hr.mono (by decide)) T.g_law_take T.F_law_take.kp T.b_law_take (el_cons (ea_v 0) (el_cons (ea_blt c_len T.m_len (el_cons (ea_v 2) el_nil)) el_nil))) el_nil))))))))
def tt_law_otherwise (m : Nat) : TSA := (seqA (setA 2 (callO TT_law_shuffled (consL (varA 0) (consL (opA ixA (varA 1) (cstA (.int 0))) nilL))))
    (seqA (setA 3 (ownA (lcN (ioT (iterL (opA ixA (varA 1) (cstA (.int 1))))) (tup2G (nameG 4) (nameG 5)) yesA (tupA (consL (frzA (bltN listN (consL (varA 4) nilL))) (consL (callF TT_law_shuffled (consL (varA 0) (consL (varA 5) nilL))) nilL))) [4, 5])))
    (seqA (setA 6 (callF TT_law_take (consL (varA 0) (consL (cstA (.int 7)) nilL))))
    (seqA (ifA (opT (eqT false) (varA 6) (cstA (.int 1))) (dropA (mtL appendA (varA 2) (consL (callF TT_law_kind (consL (varA 0) (consL (cstA (.int 8)) nilL))) nilL))) nextA)
    (seqA (ifA (orA (nilT false (varA 3)) (opT ltT (varA 6) (cstA (.int 2)))) (retA (tupA (consL (fzA m 2) (consL (fzA m 3) nilL)))) nextA)
    (seqA (setA 7 (callF TT_law_take (consL (varA 0) (consL (bltA lenA (consL (varA 3) nilL)) nilL))))
    (seqA (asgA (opA ixA (varA 3) (varA 7)) (tup2G (nameG 4) (nameG 5)))
    (seqA (ifA (opT (eqT false) (varA 6) (cstA (.int 2))) (putL (tupA (consL (varA 4) (consL (opA addA (varA 5) (frzA (lstN (consL (callF TT_law_kind (consL (varA 0) (consL (cstA (.int 8)) nilL))) nilL)))) nilL))) (varA 3) (varA 7)) nextA)
    (seqA (ifA (opT (eqT false) (varA 6) (cstA (.int 3))) (putL (tupA (consL (varA 4) (consL (slLo (varA 5) (cstA (.int 1))) nilL))) (varA 3) (varA 7)) nextA)
    (seqA (ifA (opT (eqT false) (varA 6) (cstA (.int 4))) (dropA (mtL popAtA (varA 3) (consL (varA 7) nilL))) nextA)
    (seqA (ifA (opT (eqT false) (varA 6) (cstA (.int 5))) (seqA (putL (opA ixA (varA 3) (cstA (.int 0))) (varA 3) (varA 7))
    (putL (tupA (consL (varA 4) (consL (varA 5) nilL))) (varA 3) (cstA (.int 0)))) nextA)
    (seqA (ifA (opT (eqT false) (varA 6) (cstA (.int 6))) (putL (tupA (consL (frzA (bltN sortedN (consL (opA addA (frzA (lstN (consL (callF TT_law_kind (consL (varA 0) (consL (cstA (.int 8)) nilL))) nilL))) (slLo (varA 4) (cstA (.int 1)))) nilL))) (consL (varA 5) nilL))) (varA 3) (varA 7)) nextA)
    (retA (tupA (consL (fzA m 2) (consL (fzA m 3) nilL))))))))))))))))
def TT_law_otherwise : SpT := bodyT 6 (tt_law_otherwise)
theorem kk_law_otherwise {P : Program} {w : World} {K : PySem.W.Frag} {mg : Str → Option Value} {base : Heap} (T : Tx K mg) : FnOk P w K mg base CX0 3 T.f_law_otherwise T.d_law_otherwise ["deck", "house"] (spA 2 (TT_law_otherwise)) :=
  okA T.F_law_otherwise sc_law_otherwise fun cdv A outer s H E B hr =>
    (ss_consA (sa_set 2 sc_law_otherwise.nd (ea_callO (kk_law_shuffled T) (hr.mono (by decide)) T.g_law_shuffled T.F_law_shuffled.kp T.b_law_shuffled (el_cons (ea_v 0) (el_cons (ea_ix (hu1 hr) (ea_v 1) ea_int) el_nil))))
      (ss_consA (sa_setLcO 3 [("locks", 4), ("some", 5)] (lcok sc_law_otherwise (by decide +kernel)) (IO.of (ia_list (ea_ix (hu1 hr) (ea_v 1) ea_int))) (fun _ _ _ _ _ => (gt_tup2 rfl (gt_name 4 sc_law_otherwise.nd) (gt_name 5 sc_law_otherwise.nd))) (fun _ _ _ _ _ _ => (ea_tup (el_cons (ea_frz (en_bty c_list T.m_list (el_cons (ea_v 4) el_nil))) (el_cons (ea_callF (kk_law_shuffled T) (hr.mono (by decide)) T.g_law_shuffled T.F_law_shuffled.kp T.b_law_shuffled (el_cons (ea_v 0) (el_cons (ea_v 5) el_nil))) el_nil)))))
      (ss_consA (sa_set 6 sc_law_otherwise.nd (ea_callF (kk_law_take T) (hr.mono (by decide)) T.g_law_take T.F_law_take.kp T.b_law_take (el_cons (ea_v 0) (el_cons ea_int el_nil))))
      (ss_consA (sa_if (et_cmp (o_eq hr.units) (ea_v 6) ea_int) (ss_oneA (sa_expr (ea_mtL PySem.F.slot_list_append PySem.F.type_list_append m_append (ea_v 2) (el_cons (ea_callF (kk_law_kind T) (hr.mono (by decide)) T.g_law_kind T.F_law_kind.kp T.b_law_kind (el_cons (ea_v 0) (el_cons ea_int el_nil))) el_nil)))) ss_nilA)
      (ss_consA (sa_if (ET.of_w (ew_or (et_eqNil hr.units (ea_v 3)) (ew_or1 (et_cmp o_lt (ea_v 6) ea_int)))) (ss_oneA (sa_ret (ea_tup (el_cons (ea_fz 2) (el_cons (ea_fz 3) el_nil))))) ss_nilA)
      (ss_consA (sa_set 7 sc_law_otherwise.nd (ea_callF (kk_law_take T) (hr.mono (by decide)) T.g_law_take T.F_law_take.kp T.b_law_take (el_cons (ea_v 0) (el_cons (ea_blt c_len T.m_len (el_cons (ea_v 3) el_nil)) el_nil))))
      (ss_consA (sa_asg (ea_ix (hu1 hr) (ea_v 3) (ea_v 7)) (gt_tup2 rfl (gt_name 4 sc_law_otherwise.nd) (gt_name 5 sc_law_otherwise.nd)))
      (ss_consA (sa_if (et_cmp (o_eq hr.units) (ea_v 6) ea_int) (ss_oneA (sa_putL (ea_tup (el_cons (ea_v 4) (el_cons (ea_op o_add (ea_v 5) (ea_frz (en_lst (el_cons (ea_callF (kk_law_kind T) (hr.mono (by decide)) T.g_law_kind T.F_law_kind.kp T.b_law_kind (el_cons (ea_v 0) (el_cons ea_int el_nil))) el_nil)))) el_nil))) (ea_v 3) (ea_v 7))) ss_nilA)
      (ss_consA (sa_if (et_cmp (o_eq hr.units) (ea_v 6) ea_int) (ss_oneA (sa_putL (ea_tup (el_cons (ea_v 4) (el_cons (ea_slLo (ea_v 5) ea_int) el_nil))) (ea_v 3) (ea_v 7))) ss_nilA)
      (ss_consA (sa_if (et_cmp (o_eq hr.units) (ea_v 6) ea_int) (ss_oneA (sa_expr (ea_mtL PySem.F.slot_list_pop PySem.F.type_list_pop m_popAt (ea_v 3) (el_cons (ea_v 7) el_nil)))) ss_nilA)
      (ss_consA (sa_if (et_cmp (o_eq hr.units) (ea_v 6) ea_int) (ss_consA (sa_putL (ea_ix (hu1 hr) (ea_v 3) ea_int) (ea_v 3) (ea_v 7))
      (ss_oneA (sa_putL (ea_tup (el_cons (ea_v 4) (el_cons (ea_v 5) el_nil))) (ea_v 3) ea_int))) ss_nilA)
      (ss_consA (sa_if (et_cmp (o_eq hr.units) (ea_v 6) ea_int) (ss_oneA (sa_putL (ea_tup (el_cons (ea_frz (en_blt (c_sorted rfl) T.m_sorted (el_cons (ea_op o_add (ea_frz (en_lst (el_cons (ea_callF (kk_law_kind T) (hr.mono (by decide)) T.g_law_kind T.F_law_kind.kp T.b_law_kind (el_cons (ea_v 0) (el_cons ea_int el_nil))) el_nil))) (ea_slLo (ea_v 4) ea_int)) el_nil))) (el_cons (ea_v 5) el_nil))) (ea_v 3) (ea_v 7))) ss_nilA)
      (ss_oneA (sa_ret (ea_tup (el_cons (ea_fz 2) (el_cons (ea_fz 3) el_nil)))))))))))))))))
def tt_law_many_keys (m : Nat) : TSA := (seqA (setA 1 (callF TT_law_take (consL (varA 0) (consL (cstA (.int 720720)) nilL))))
    (seqA (setA 2 (frzA (lstN (consL (cstA (.str "a")) (consL (cstA (.str "b")) (consL (cstA (.str "ab")) (consL (cstA (.str "c")) (consL (cstA (.str "zz")) (consL (cstA (.str "abcd")) (consL (cstA (.str "ba")) (consL (cstA (.str "abce")) nilL)))))))))))
    (retA (ownA (lcN (ioT (iterR1 (fun s Q => (opA addA (cstA (.int 17)) (opA modA (varA 1) (cstA (.int 184)))) s fun x s1 => onSome x.int? fun j => -(2 ^ 62) ≤ j ∧ Q x s1))) (nameG 3) yesA (opA ixA (varA 2) (opA modA (opA addA (opA fdivA (varA 1) (cstA (.int 7))) (opA mulX (varA 3) (opA addA (opA modA (varA 1) (cstA (.int 97))) (varA 3)))) (cstA (.int 8)))) [3])))))
def TT_law_many_keys : SpT := bodyT 3 (tt_law_many_keys)
theorem kk_law_many_keys {P : Program} {w : World} {K : PySem.W.Frag} {mg : Str → Option Value} {base : Heap} (T : Tx K mg) : FnOk P w K mg base CX0 2 T.f_law_many_keys T.d_law_many_keys ["deck"] (spA 1 (TT_law_many_keys)) :=
  okA T.F_law_many_keys sc_law_many_keys fun cdv A outer s H E B hr =>
    (ss_consA (sa_set 1 sc_law_many_keys.nd (ea_callF (kk_law_take T) (hr.mono (by decide)) T.g_law_take T.F_law_take.kp T.b_law_take (el_cons (ea_v 0) (el_cons ea_int el_nil))))
      (ss_consA (sa_set 2 sc_law_many_keys.nd (ea_frz (en_lst (el_cons ea_str (el_cons ea_str (el_cons ea_str (el_cons ea_str (el_cons ea_str (el_cons ea_str (el_cons ea_str (el_cons ea_str el_nil)))))))))))
      (ss_oneA (sa_ret (ea_own (en_lc [("k", 3)] (lcok sc_law_many_keys (by decide +kernel)) (IO.of (ia_range1 T.m_range (ea_op o_add ea_int (ea_op o_mod (ea_v 1) ea_int)))) (fun _ _ _ _ _ => (gt_name 3 sc_law_many_keys.nd)) (fun _ _ _ _ _ _ => (ea_ix (hu1 hr) (ea_v 2) (ea_op o_mod (ea_op o_add (ea_op o_fdiv (ea_v 1) ea_int) (ea_op o_mulX (ea_v 3) (ea_op o_add (ea_op o_mod (ea_v 1) ea_int) (ea_v 3)))) ea_int)))))))))
def tt_law_many (m : Nat) : TSA := (seqA (setA 2 (slHi (opA ixA (varA 1) (cstA (.int 1))) (cstA (.int 6))))
    (seqA (setA 3 (callF TT_law_many_keys (consL (varA 0) nilL)))
    (seqA (setA 4 (callF TT_law_take (consL (varA 0) (consL (opA addA (bltA lenA (consL (varA 2) nilL)) (cstA (.int 1))) nilL))))
    (seqA (ifA (opT (eqT false) (varA 4) (bltA lenA (consL (varA 2) nilL))) (retA (tupA (consL (varA 3) (consL (varA 2) nilL)))) nextA)
    (retA (tupA (consL (opA ixA (varA 1) (cstA (.int 0))) (consL (opA addA (opA addA (slHi (varA 2) (varA 4)) (frzA (lstN (consL (tupA (consL (opA ixA (opA ixA (varA 2) (varA 4)) (cstA (.int 0))) (consL (varA 3) nilL))) nilL)))) (slLo (varA 2) (opA addA (varA 4) (cstA (.int 1))))) nilL))))))))
def TT_law_many : SpT := bodyT 3 (tt_law_many)
theorem kk_law_many {P : Program} {w : World} {K : PySem.W.Frag} {mg : Str → Option Value} {base : Heap} (T : Tx K mg) : FnOk P w K mg base CX0 3 T.f_law_many T.d_law_many ["deck", "house"] (spA 2 (TT_law_many)) :=
  okA T.F_law_many sc_law_many fun cdv A outer s H E B hr =>
    (ss_consA (sa_set 2 sc_law_many.nd (ea_slHi (ea_ix (hu1 hr) (ea_v 1) ea_int) ea_int))
      (ss_consA (sa_set 3 sc_law_many.nd (ea_callF (kk_law_many_keys T) (hr.mono (by decide)) T.g_law_many_keys T.F_law_many_keys.kp T.b_law_many_keys (el_cons (ea_v 0) el_nil)))
      (ss_consA (sa_set 4 sc_law_many.nd (ea_callF (kk_law_take T) (hr.mono (by decide)) T.g_law_take T.F_law_take.kp T.b_law_take (el_cons (ea_v 0) (el_cons (ea_op o_add (ea_blt c_len T.m_len (el_cons (ea_v 2) el_nil)) ea_int) el_nil))))
      (ss_consA (sa_if (et_cmp (o_eq hr.units) (ea_v 4) (ea_blt c_len T.m_len (el_cons (ea_v 2) el_nil))) (ss_oneA (sa_ret (ea_tup (el_cons (ea_v 3) (el_cons (ea_v 2) el_nil))))) ss_nilA)
      (ss_oneA (sa_ret (ea_tup (el_cons (ea_ix (hu1 hr) (ea_v 1) ea_int) (el_cons (ea_op o_add (ea_op o_add (ea_slHi (ea_v 2) (ea_v 4)) (ea_frz (en_lst (el_cons (ea_tup (el_cons (ea_ix (hu1 hr) (ea_ix (hu1 hr) (ea_v 2) (ea_v 4)) ea_int) (el_cons (ea_v 3) el_nil))) el_nil)))) (ea_slLo (ea_v 2) (ea_op o_add (ea_v 4) ea_int))) el_nil)))))))))
def tt_law (K : PySem.W.Frag) (m : Nat) : TSA := (seqA (forA m (iterR1 (fun s Q => (bltA maxA (consL (cstA (.int 1)) (consL (bltA minA (consL (scrLen K 0) (consL (cstA (.int 8)) nilL))) nilL))) s fun x s1 => onSome x.int? fun j => -(2 ^ 62) ≤ j ∧ Q x s1)) (nameG 1) (seqA (setA 2 (callO TT_law_deck (consL (callF (TT_law_cell_at K) (consL (varA 0) (consL (varA 1) nilL))) (consL (cstA (.int 520)) nilL))))
    (seqA (setA 3 (callF TT_law_house (consL (varA 2) (consL (cstA (.int 8)) (consL (cstA (.int 4)) nilL)))))
    (seqA (ifA (opT (eqT false) (callF TT_law_take (consL (varA 2) (consL (cstA (.int 4)) nilL))) (cstA (.int 1))) (setA 3 (callF TT_law_many (consL (varA 2) (consL (varA 3) nilL)))) nextA)
    (seqA (setA 4 (callF TT_law_otherwise (consL (varA 2) (consL (varA 3) nilL))))
    (seqA (setA 5 (frzA (lstN (consL (callF TT_show_house (consL (varA 3) nilL)) (consL (callF TT_show_house (consL (varA 4) nilL)) nilL)))))
    (seqA (ifA (opT (eqT true) (boolA (opT (eqT false) (opA ixA (varA 5) (cstA (.int 0))) (opA ixA (varA 5) (cstA (.int 1))))) (boolA (opT (eqT false) (callF TT_law_sorted (consL (varA 3) nilL)) (callF TT_law_sorted (consL (varA 4) nilL))))) (retA (cstA (.bool false))) nextA)
    (forA m (iterL (frzA (lstN (consL (tupA (consL (varA 3) (consL (opA ixA (varA 5) (cstA (.int 0))) nilL))) (consL (tupA (consL (varA 4) (consL (opA ixA (varA 5) (cstA (.int 1))) nilL))) nilL))))) (tup2G (nameG 6) (nameG 7)) (seqA (ifA (orA (opT (eqT true) (callF TT_read_house (consL (varA 7) nilL)) (callF TT_law_sorted (consL (varA 6) nilL))) (opT (eqT true) (callF TT_show_house (consL (callF TT_read_house (consL (varA 7) nilL)) nilL)) (varA 7))) (retA (cstA (.bool false))) nextA)
    (seqA (setA 8 (frzA (splitN (varA 7) (cstA (.str "\n")))))
    (forA m (iterZ (opA ixA (varA 6) (cstA (.int 1))) (slLo (varA 8) (cstA (.int 1)))) (tup2G (nameG 9) (nameG 10)) (ifA (opT (eqT true) (callF TT_show_house (consL (tupA (consL (opA ixA (varA 6) (cstA (.int 0))) (consL (frzA (lstN (consL (varA 9) nilL))) nilL))) nilL)) (opA addA (opA addA (opA ixA (varA 8) (cstA (.int 0))) (cstA (.str "\n"))) (varA 10))) (retA (cstA (.bool false))) nextA))))))))))))
    (retA (cstA (.bool true))))
def TT_law (K : PySem.W.Frag) : SpT := bodyT 10 (tt_law K)
theorem kk_law {P : Program} {w : World} {K : PySem.W.Frag} {mg : Str → Option Value} {base : Heap} (T : Tx K mg) : FnOk P w K mg base CX0 7 T.f_law T.d_law ["script"] (spA 1 (TT_law K)) :=
  okA T.F_law sc_law fun cdv A outer s H E B hr =>
    (ss_consA (sa_for PassesOwn.never rfl (ia_range1 T.m_range (ea_blt (c_max rfl) T.m_max (el_cons ea_int (el_cons (ea_blt (c_min rfl) T.m_min (el_cons (ea_scrLen 0 T.m_len) (el_cons ea_int el_nil))) el_nil)))) (gt_name 1 sc_law.nd) (fun _ => (ss_consA (sa_set 2 sc_law.nd (ea_callO (kk_law_deck T) (hr.mono (by decide)) T.g_law_deck T.F_law_deck.kp T.b_law_deck (el_cons (ea_callF (kk_law_cell_at T) (hr.mono (by decide)) T.g_law_cell_at T.F_law_cell_at.kp T.b_law_cell_at (el_cons (ea_v 0) (el_cons (ea_v 1) el_nil))) (el_cons ea_int el_nil))))
      (ss_consA (sa_set 3 sc_law.nd (ea_callF (kk_law_house T) (hr.mono (by decide)) T.g_law_house T.F_law_house.kp T.b_law_house (el_cons (ea_v 2) (el_cons ea_int (el_cons ea_int el_nil)))))
      (ss_consA (sa_if (et_cmp (o_eq hr.units) (ea_callF (kk_law_take T) (hr.mono (by decide)) T.g_law_take T.F_law_take.kp T.b_law_take (el_cons (ea_v 2) (el_cons ea_int el_nil))) ea_int) (ss_oneA (sa_set 3 sc_law.nd (ea_callF (kk_law_many T) (hr.mono (by decide)) T.g_law_many T.F_law_many.kp T.b_law_many (el_cons (ea_v 2) (el_cons (ea_v 3) el_nil))))) ss_nilA)
      (ss_consA (sa_set 4 sc_law.nd (ea_callF (kk_law_otherwise T) (hr.mono (by decide)) T.g_law_otherwise T.F_law_otherwise.kp T.b_law_otherwise (el_cons (ea_v 2) (el_cons (ea_v 3) el_nil))))
      (ss_consA (sa_set 5 sc_law.nd (ea_frz (en_lst (el_cons (ea_callF (kk_show_house T) (hr.mono (by decide)) T.g_show_house T.F_show_house.kp T.b_show_house (el_cons (ea_v 3) el_nil)) (el_cons (ea_callF (kk_show_house T) (hr.mono (by decide)) T.g_show_house T.F_show_house.kp T.b_show_house (el_cons (ea_v 4) el_nil)) el_nil)))))
      (ss_consA (sa_if (et_cmp (o_ne hr.units) (ea_cmp (o_eq hr.units) (ea_ix (hu1 hr) (ea_v 5) ea_int) (ea_ix (hu1 hr) (ea_v 5) ea_int)) (ea_cmp (o_eq hr.units) (ea_callF (kk_law_sorted T) (hr.mono (by decide)) T.g_law_sorted T.F_law_sorted.kp T.b_law_sorted (el_cons (ea_v 3) el_nil)) (ea_callF (kk_law_sorted T) (hr.mono (by decide)) T.g_law_sorted T.F_law_sorted.kp T.b_law_sorted (el_cons (ea_v 4) el_nil)))) (ss_oneA (sa_ret ea_bool)) ss_nilA)
      (ss_oneA (sa_for PassesOwn.never rfl (ia_list (ea_frz (en_lst (el_cons (ea_tup (el_cons (ea_v 3) (el_cons (ea_ix (hu1 hr) (ea_v 5) ea_int) el_nil))) (el_cons (ea_tup (el_cons (ea_v 4) (el_cons (ea_ix (hu1 hr) (ea_v 5) ea_int) el_nil))) el_nil))))) (gt_tup2 rfl (gt_name 6 sc_law.nd) (gt_name 7 sc_law.nd)) (fun _ => (ss_consA (sa_if (ET.of_w (ew_or (et_cmp (o_ne hr.units) (ea_callF (kk_read_house T) (hr.mono (by decide)) T.g_read_house T.F_read_house.kp T.b_read_house (el_cons (ea_v 7) el_nil)) (ea_callF (kk_law_sorted T) (hr.mono (by decide)) T.g_law_sorted T.F_law_sorted.kp T.b_law_sorted (el_cons (ea_v 6) el_nil))) (ew_or1 (et_cmp (o_ne hr.units) (ea_callF (kk_show_house T) (hr.mono (by decide)) T.g_show_house T.F_show_house.kp T.b_show_house (el_cons (ea_callF (kk_read_house T) (hr.mono (by decide)) T.g_read_house T.F_read_house.kp T.b_read_house (el_cons (ea_v 7) el_nil)) el_nil)) (ea_v 7))))) (ss_oneA (sa_ret ea_bool)) ss_nilA)
      (ss_consA (sa_set 8 sc_law.nd (ea_frz (en_split (ea_v 7) ea_str)))
      (ss_oneA (sa_for PassesOwn.never rfl (ia_zip T.m_zip (ea_ix (hu1 hr) (ea_v 6) ea_int) (ea_slLo (ea_v 8) ea_int)) (gt_tup2 rfl (gt_name 9 sc_law.nd) (gt_name 10 sc_law.nd)) (fun _ => (ss_oneA (sa_if (et_cmp (o_ne hr.units) (ea_callF (kk_show_house T) (hr.mono (by decide)) T.g_show_house T.F_show_house.kp T.b_show_house (el_cons (ea_tup (el_cons (ea_ix (hu1 hr) (ea_v 6) ea_int) (el_cons (ea_frz (en_lst (el_cons (ea_v 9) el_nil))) el_nil))) el_nil)) (ea_op o_add (ea_op o_add (ea_ix (hu1 hr) (ea_v 8) ea_int) ea_str) (ea_v 10))) (ss_oneA (sa_ret ea_bool)) ss_nilA))))))))))))))))))
      (ss_oneA (sa_ret ea_bool)))
local macro_rules
  | `(tactic| simp_arith [$ls,*] $[$loc]?) => `(tactic| simp only [$ls,*, bodyT, retA, boolA, nilT, frzA, ownA, lcN, iterL, ioT, iterE, iterR1, iterR2, varA, nameG, opT, opA, opN, cstA, mtL, mtL0, consL, nilL, setA, seqA, dropA, forA, bltA, bltN, asgA, ifA, nextA, retN, andA, orA, notA, valA, andV, orV, notV, ifV, tupA, lstN, putS, augS, callF, callO, callW, intOp, intOp0, intT, subA, modA, fdivA, leT, gtT, geT, eqT, catN, repN, chainT, negA, joinA, ssetN, slHi, slLo, slHiN, slLoN, slN, listN, sumA, minA, maxA, isiT, appendA, extendA, removeA, popA, popAtA, clearA, countA, newD, retD, neverA, yesA, lcStep, refsOf, subC, putC, datas, wipeA, ksD, roomD, houseD, retP_d, retP_rE, addA_int, addA_str, addA_lst, addA_r, mulA_int, mulA_lst, mulA_r, ltT_str, ltT_int, ixA_V, slA_V, inT_V, tup2G_V, tup3G_V, lenA_V, sortedN_V, getA2_V, isDct_V, onLst_r, onDct_r, intA_int, intA_bool, fzA_V, resF_f, resF_n, resO_f, resO_n, listOf_r, listOf_d, fzList_r, fzList_d, isLst_r, isLst_d, view_r, view_d, viewD_list, viewD_tuple, viewD_str, viewD_dictD, tyOf_r, tyOf_d, tupOf_r, tupOf_d, tupOf_dl, tupC_lst, tupC_fzl, scrLen_0, iterO_V, eqOk_int, eqOk_str, eqOk_bool, eqv_int, eqv_str, eqv_bool, kb_ll, kb_ii, kb_ib, kb_bb, kb_bi, kb_ss, kb_tt, kb_dd, AVal.int?_int, AVal.str?_str, AVal.bool?_bool, AVal.data?_d, flatD_strs, flatD_ints, flatD_nats, inD_str, inD_int, inD_nat, onSome_some, List.map_cons, List.map_nil, List.cons_append, List.nil_append, List.append_nil, List.replicate_succ, List.replicate_zero, List.getElem?_cons_zero, List.getElem?_cons_succ, Option.bind_some, Option.bind_none, Option.map_some, Option.getD_some, id_eq, List.set_cons_zero, List.set_cons_succ, List.length_cons, List.length_nil, List.take_succ_cons, List.take_zero, List.take_nil, List.idxOf_cons_self, List.length_map, strs?_map, ints?_map, atI_0, atI_1, atI_2, atI_map, srtD_strs, srtD_ints, true_and, and_true, List.all_nil, List.all_cons, Bool.and_self, Bool.and_true, Bool.true_and, List.nodup_nil, nodup1, forall_const, Bool.bne_false, Bool.bne_true, List.isEmpty_nil, Bool.not_true, Bool.not_false, Nat.zero_add, Nat.le_refl, Nat.zero_le, decide_true, decide_false, eq_self, Bool.false_eq_true, Bool.true_eq_false, if_true, if_false, true_implies, Bool.false_and, Bool.and_false, Bool.not_eq_true, Bool.or_false, Bool.or_true, Bool.false_or, Bool.true_or, ixV_seq, ixV_dct, ixV_txt, slV_txt, slV_seq, inV'_dct, inV'_txt, inV'_seq, tup2V_2, tup3V_3, lenV_seq, lenV_dct, lenV_txt, sortV_dct, sortV_seq, gotV_dct, isDctV_dct, lstC_lst, dctC_dK, fzV_r, fzV_d, fzC_fz, fzC_lst, fzC_dK, listC_lst, listC_fz, fzListC_fz, isLstC_lst, isLstC_fz, isLstC_nl, viewC_lst, viewC_nl, viewC_nt, viewC_dK, viewC_nd, viewC_fz, tyC_lst, tyC_dK, tyC_fz, tupC_nt, tupC_fz, iterOV_r, iterOV_d, iterOC_lst, iterOC_fz, retC_fz, retC_lst, retC_dK, retC_pool, one_1, two_2, ren_r, ren_d, ren_s, frzC_lst, frzC_dK, frzC_fz, dataOf_d, dataOf_r, flat_lst, flat_dK, flat_pool, flat_fz, key?_int, key?_str, tyN_list, tyN_int, tyN_bool, tyN_str, tyN_tuple, tyN_dictD, tyN_none, flatD_int, flatD_str, eqDT, dictN, clearD, iterT, tupL_tup, dctOf_d, dctOf_r, dkC_dK, dkC_dl, dkC_fz, dctD_dictD, keysOf_dictD, forDA, forDV_d, forDV_r, forDC_dK, viewC_dl, okG, DA.unl, iterD, keysV_d, forHA, iterH, ihV_d, ihV_r, ihC_lst, ihC_fz, DA.okN, pass_lst, pass_dK, pass_pool, pass_fz, pass_tr, flat_tr, flat_gone, cellD_lst, cellD_dK, cellD_fz, cellD_tr, listC_tr, listOf_a, leafL_l, isLstC_tr, isLst_a, viewC_tr, viewT_l, viewT_t, viewT_d, view_a, nodeAt_a, nodeAt_r, tyC_tr, tyOf_a, kdTy_lst, kdTy_tup, kdTy_dct, ren_a, addA_a, resO_t, resO_p, retC_tr, retC_nt, parts, newsOf, partN, resU, backs, backN, callU, two2, dspT, appendT, clearT, extendT, putL, putLV, putLC, putT, onT, treeAt, treeC, fzT, fzTV, fzTC, bodyT0, insertA, revN, mulX_int, mulX_str, mulX_lst, mulX_r, grabs, grab, grabC, asT, asTC, mvL, mvS_r, mvS_d, mvS_a, mvA_r, mvA_a, mvA_d, mvA_s, gone_gone, gone_fz, gone_tr, gone_lst, at_nil, at_cons, put_nil, put_cons, Option.map_none, tupR, listR1, iterOV_a, leafs_map, nodeK, nilTT, emptyV_r, emptyC_l, emptyC_t, isNT, isBT, noneV_none, noneV_list, noneV_r, tcatA, tslA, tslHi, tslLo, tupD_t, listDN_V, listDV_dct, sortedDN_1, iterKC, iterKC_r, keysC_dK, leST, lenSetA] $[$loc]?)
local macro_rules
  | `(tactic| simp_arith! [$ls,*]) => `(tactic| simp only [$ls,*, bodyT, retA, boolA, nilT, frzA, ownA, lcN, iterL, ioT, iterE, iterR1, iterR2, varA, nameG, opT, opA, opN, cstA, mtL, mtL0, consL, nilL, setA, dropA, forA, bltA, bltN, asgA, ifA, nextA, retN, andA, orA, notA, valA, andV, orV, notV, ifV, tupA, lstN, putS, augS, callF, callO, callW, intOp, intOp0, intT, subA, modA, fdivA, leT, gtT, geT, eqT, catN, repN, chainT, negA, joinA, ssetN, slHi, slLo, slHiN, slLoN, slN, listN, sumA, minA, maxA, isiT, appendA, extendA, removeA, popA, popAtA, clearA, countA, newD, retD, neverA, yesA, lcStep, refsOf, subC, putC, datas, wipeA, ksD, roomD, houseD, retP_d, retP_rE, addA_int, addA_str, addA_lst, addA_r, mulA_int, mulA_lst, mulA_r, ltT_str, ltT_int, ixA_V, slA_V, inT_V, tup2G_V, tup3G_V, lenA_V, sortedN_V, getA2_V, isDct_V, onLst_r, onDct_r, intA_int, intA_bool, fzA_V, resF_f, resF_n, resO_f, resO_n, listOf_r, listOf_d, fzList_r, fzList_d, isLst_r, isLst_d, view_r, view_d, viewD_list, viewD_tuple, viewD_str, viewD_dictD, tyOf_r, tyOf_d, tupOf_r, tupOf_d, tupOf_dl, tupC_lst, tupC_fzl, scrLen_0, iterO_V, eqOk_int, eqOk_str, eqOk_bool, eqv_int, eqv_str, eqv_bool, kb_ll, kb_ii, kb_ib, kb_bb, kb_bi, kb_ss, kb_tt, kb_dd, AVal.int?_int, AVal.str?_str, AVal.bool?_bool, AVal.data?_d, flatD_strs, flatD_ints, flatD_nats, inD_str, inD_int, inD_nat, onSome_some, List.map_cons, List.map_nil, List.cons_append, List.nil_append, List.append_nil, List.replicate_succ, List.replicate_zero, List.getElem?_cons_zero, List.getElem?_cons_succ, Option.bind_some, Option.bind_none, Option.map_some, Option.getD_some, id_eq, List.set_cons_zero, List.set_cons_succ, List.length_cons, List.length_nil, List.take_succ_cons, List.take_zero, List.take_nil, List.idxOf_cons_self, List.length_map, strs?_map, ints?_map, atI_0, atI_1, atI_2, atI_map, srtD_strs, srtD_ints, true_and, and_true, List.all_nil, List.all_cons, Bool.and_self, Bool.and_true, Bool.true_and, List.nodup_nil, nodup1, forall_const, Bool.bne_false, Bool.bne_true, List.isEmpty_nil, Bool.not_true, Bool.not_false, Nat.zero_add, Nat.le_refl, Nat.zero_le, decide_true, decide_false, eq_self, Bool.false_eq_true, Bool.true_eq_false, if_true, if_false, true_implies, Bool.false_and, Bool.and_false, Bool.not_eq_true, Bool.or_false, Bool.or_true, Bool.false_or, Bool.true_or, ixV_seq, ixV_dct, ixV_txt, slV_txt, slV_seq, inV'_dct, inV'_txt, inV'_seq, tup2V_2, tup3V_3, lenV_seq, lenV_dct, lenV_txt, sortV_dct, sortV_seq, gotV_dct, isDctV_dct, lstC_lst, dctC_dK, fzV_r, fzV_d, fzC_fz, fzC_lst, fzC_dK, listC_lst, listC_fz, fzListC_fz, isLstC_lst, isLstC_fz, isLstC_nl, viewC_lst, viewC_nl, viewC_nt, viewC_dK, viewC_nd, viewC_fz, tyC_lst, tyC_dK, tyC_fz, tupC_nt, tupC_fz, iterOV_r, iterOV_d, iterOC_lst, iterOC_fz, retC_fz, retC_lst, retC_dK, retC_pool, one_1, two_2, ren_r, ren_d, ren_s, frzC_lst, frzC_dK, frzC_fz, dataOf_d, dataOf_r, flat_lst, flat_dK, flat_pool, flat_fz, key?_int, key?_str, tyN_list, tyN_int, tyN_bool, tyN_str, tyN_tuple, tyN_dictD, tyN_none, flatD_int, flatD_str, eqDT, dictN, clearD, iterT, tupL_tup, dctOf_d, dctOf_r, dkC_dK, dkC_dl, dkC_fz, dctD_dictD, keysOf_dictD, forDA, forDV_d, forDV_r, forDC_dK, viewC_dl, okG, DA.unl, iterD, keysV_d, forHA, iterH, ihV_d, ihV_r, ihC_lst, ihC_fz, DA.okN, pass_lst, pass_dK, pass_pool, pass_fz, pass_tr, flat_tr, flat_gone, cellD_lst, cellD_dK, cellD_fz, cellD_tr, listC_tr, listOf_a, leafL_l, isLstC_tr, isLst_a, viewC_tr, viewT_l, viewT_t, viewT_d, view_a, nodeAt_a, nodeAt_r, tyC_tr, tyOf_a, kdTy_lst, kdTy_tup, kdTy_dct, ren_a, addA_a, resO_t, resO_p, retC_tr, retC_nt, parts, newsOf, partN, resU, backs, backN, callU, two2, dspT, appendT, clearT, extendT, putL, putLV, putLC, putT, onT, treeAt, treeC, fzT, fzTV, fzTC, bodyT0, insertA, revN, mulX_int, mulX_str, mulX_lst, mulX_r, grabs, grab, grabC, asT, asTC, mvL, mvS_r, mvS_d, mvS_a, mvA_r, mvA_a, mvA_d, mvA_s, gone_gone, gone_fz, gone_tr, gone_lst, at_nil, at_cons, put_nil, put_cons, Option.map_none, tupR, listR1, iterOV_a, leafs_map, nodeK, nilTT, emptyV_r, emptyC_l, emptyC_t, isNT, isBT, noneV_none, noneV_list, noneV_r, tcatA, tslA, tslHi, tslLo, tupD_t, listDN_V, listDV_dct, sortedDN_1, iterKC, iterKC_r, keysC_dK, leST, lenSetA, seq_set, seq_drop, seq_asg, seq_callU, seq_putS, seq_putL, seq_for, seq_next, seq_aug, seq_seq, seq_forD, seq_forH])
local macro_rules
  | `(tactic| simp_all_arith [$ls,*]) => `(tactic| simp only [$ls,*, bodyT, retA, boolA, nilT, frzA, ownA, lcN, iterL, ioT, iterE, iterR1, iterR2, varA, nameG, opT, opA, opN, cstA, mtL, mtL0, consL, nilL, setA, seqA, dropA, forA, bltA, bltN, asgA, ifA, nextA, retN, andA, orA, notA, valA, andV, orV, notV, ifV, tupA, lstN, putS, augS, callF, callO, callW, intOp, intOp0, intT, subA, modA, fdivA, leT, gtT, geT, eqT, catN, repN, chainT, negA, joinA, ssetN, slHi, slLo, slHiN, slLoN, slN, listN, sumA, minA, maxA, isiT, appendA, extendA, removeA, popA, popAtA, clearA, countA, newD, retD, neverA, yesA, lcStep, refsOf, subC, putC, datas, wipeA, ksD, roomD, houseD, retP_d, retP_rE, addA_int, addA_str, addA_lst, addA_r, mulA_int, mulA_lst, mulA_r, ltT_str, ltT_int, ixA_V, slA_V, inT_V, tup2G_V, tup3G_V, lenA_V, sortedN_V, getA2_V, isDct_V, onLst_r, onDct_r, intA_int, intA_bool, fzA_V, resF_f, resF_n, resO_f, resO_n, listOf_r, listOf_d, fzList_r, fzList_d, isLst_r, isLst_d, view_r, view_d, viewD_list, viewD_tuple, viewD_str, viewD_dictD, tyOf_r, tyOf_d, tupOf_r, tupOf_d, tupOf_dl, tupC_lst, tupC_fzl, scrLen_0, iterO_V, eqOk_int, eqOk_str, eqOk_bool, eqv_int, eqv_str, eqv_bool, kb_ll, kb_ii, kb_ib, kb_bb, kb_bi, kb_ss, kb_tt, kb_dd, AVal.int?_int, AVal.str?_str, AVal.bool?_bool, AVal.data?_d, flatD_strs, flatD_ints, flatD_nats, inD_str, inD_int, inD_nat, onSome_some, List.map_cons, List.map_nil, List.cons_append, List.nil_append, List.append_nil, List.replicate_succ, List.replicate_zero, List.getElem?_cons_zero, List.getElem?_cons_succ, Option.bind_some, Option.bind_none, Option.map_some, Option.getD_some, id_eq, List.set_cons_zero, List.set_cons_succ, List.length_cons, List.length_nil, List.take_succ_cons, List.take_zero, List.take_nil, List.idxOf_cons_self, List.length_map, strs?_map, ints?_map, atI_0, atI_1, atI_2, atI_map, srtD_strs, srtD_ints, true_and, and_true, List.all_nil, List.all_cons, Bool.and_self, Bool.and_true, Bool.true_and, List.nodup_nil, nodup1, forall_const, Bool.bne_false, Bool.bne_true, List.isEmpty_nil, Bool.not_true, Bool.not_false, Nat.zero_add, Nat.le_refl, Nat.zero_le, decide_true, decide_false, eq_self, Bool.false_eq_true, Bool.true_eq_false, if_true, if_false, true_implies, Bool.false_and, Bool.and_false, Bool.not_eq_true, Bool.or_false, Bool.or_true, Bool.false_or, Bool.true_or, ixV_seq, ixV_dct, ixV_txt, slV_txt, slV_seq, inV'_dct, inV'_txt, inV'_seq, tup2V_2, tup3V_3, lenV_seq, lenV_dct, lenV_txt, sortV_dct, sortV_seq, gotV_dct, isDctV_dct, lstC_lst, dctC_dK, fzV_r, fzV_d, fzC_fz, fzC_lst, fzC_dK, listC_lst, listC_fz, fzListC_fz, isLstC_lst, isLstC_fz, isLstC_nl, viewC_lst, viewC_nl, viewC_nt, viewC_dK, viewC_nd, viewC_fz, tyC_lst, tyC_dK, tyC_fz, tupC_nt, tupC_fz, iterOV_r, iterOV_d, iterOC_lst, iterOC_fz, retC_fz, retC_lst, retC_dK, retC_pool, one_1, two_2, ren_r, ren_d, ren_s, frzC_lst, frzC_dK, frzC_fz, dataOf_d, dataOf_r, flat_lst, flat_dK, flat_pool, flat_fz, key?_int, key?_str, tyN_list, tyN_int, tyN_bool, tyN_str, tyN_tuple, tyN_dictD, tyN_none, flatD_int, flatD_str, eqDT, dictN, clearD, iterT, tupL_tup, dctOf_d, dctOf_r, dkC_dK, dkC_dl, dkC_fz, dctD_dictD, keysOf_dictD, forDA, forDV_d, forDV_r, forDC_dK, viewC_dl, okG, DA.unl, iterD, keysV_d, forHA, iterH, ihV_d, ihV_r, ihC_lst, ihC_fz, DA.okN, pass_lst, pass_dK, pass_pool, pass_fz, pass_tr, flat_tr, flat_gone, cellD_lst, cellD_dK, cellD_fz, cellD_tr, listC_tr, listOf_a, leafL_l, isLstC_tr, isLst_a, viewC_tr, viewT_l, viewT_t, viewT_d, view_a, nodeAt_a, nodeAt_r, tyC_tr, tyOf_a, kdTy_lst, kdTy_tup, kdTy_dct, ren_a, addA_a, resO_t, resO_p, retC_tr, retC_nt, parts, newsOf, partN, resU, backs, backN, callU, two2, dspT, appendT, clearT, extendT, putL, putLV, putLC, putT, onT, treeAt, treeC, fzT, fzTV, fzTC, bodyT0, insertA, revN, mulX_int, mulX_str, mulX_lst, mulX_r, grabs, grab, grabC, asT, asTC, mvL, mvS_r, mvS_d, mvS_a, mvA_r, mvA_a, mvA_d, mvA_s, gone_gone, gone_fz, gone_tr, gone_lst, at_nil, at_cons, put_nil, put_cons, Option.map_none, tupR, listR1, iterOV_a, leafs_map, nodeK, nilTT, emptyV_r, emptyC_l, emptyC_t, isNT, isBT, noneV_none, noneV_list, noneV_r, tcatA, tslA, tslHi, tslLo, tupD_t, listDN_V, listDV_dct, sortedDN_1, iterKC, iterKC_r, keysC_dK, leST, lenSetA, Nat.reduceAdd, Nat.reduceEqDiff, Nat.reduceSub, Nat.reduceLT, false_and, and_false, if_false, reduceCtorEq, Nat.reduceLeDiff])
/-! part p_nats -/
def natsD (order : List Nat) : PyData := .list (order.map fun i : Nat => .int (i : Int))
theorem intsD_natE (n : Nat) : intsD 0 (n : Int) = (List.range n).map fun k : Nat => PyData.int (k : Int) := by
  unfold intsD
  rw [show ((n : Int) - 0).toNat = n by omega]
  refine List.map_congr_left fun k _ => ?_
  rw [Int.zero_add]

/-! part p_misc -/
theorem maxmin (n : Nat) (c : Nat) (hc : 1 ≤ c) : ∃ J : Nat, max 1 (min (c : Int) (n : Int)) = (J : Int) ∧ J ≤ c := by
  refine ⟨max 1 (min c n), ?_, by omega⟩
  omega
theorem cutD_take (ds : List PyData) (n : Nat) : cutD ds none (some (n : Int)) = ds.take n := by
  unfold cutD
  rw [HT.sIx_none, HT.sIx_nat, List.drop_zero, Nat.sub_zero]
  by_cases h : n ≤ ds.length
  · rw [Nat.min_eq_left h]
  · rw [Nat.min_eq_right (by omega), List.take_length, List.take_of_length_le (by omega)]
theorem CanGo.take {h : House} {order : List Nat} (c : CanGo h order) (n : Nat) : CanGo h (order.take n) := by
  refine ⟨c.nd.sublist (List.take_sublist _ _), fun i k hk => ?_⟩
  have hi := (List.getElem?_eq_some_iff.mp hk).1
  rw [List.length_take] at hi
  rw [List.getElem?_take_of_lt (by omega)] at hk
  obtain ⟨r, hr, hm⟩ := c.step i k hk
  exact ⟨r, hr, by rw [List.take_take, Nat.min_eq_left (by omega)]; exact hm⟩
theorem lay_ordr (ns : List Nat) : Lay 1 (natsD ns) := lay_list fun d m => by
  obtain ⟨k, hk, rfl⟩ := List.mem_map.mp m
  exact lay_int _
theorem lay_handed {h : House} (gd : GoodHouse h) (o : List Nat) : Lay 5 (.list [houseD h, natsD o]) := lay_list fun d m => by
  rcases List.mem_cons.mp m with rfl | m
  · exact lay_house gd
  · rw [List.mem_singleton] at m; subst m; exact (lay_ordr o).up (by decide)
theorem lay_self {n : Nat} {d : PyData} (h : Lay n d) : PyData.eqv d d = true := SeqAt.eqv_refl d h.1
theorem eqOk_lay {n m : Nat} {d e : PyData} (h1 : Lay n d) (h2 : Lay m e) (hn : n ≤ 64 := by decide) (hm : m ≤ 64 := by decide) : eqOk d e := by
  have a := h1.shaped hn
  have b := h2.shaped hm
  unfold eqOk
  split <;> first | trivial | exact ⟨a, b⟩
theorem no_bools (o : List Nat) : o.filter (fun _ => false) = [] := by simp
theorem iteE {x : Bool} {a b : Prop} [Decidable ((!x) = true)] (h : x = true) (hb : b) : (if (!x) = true then a else b) := by subst h; rw [if_neg (by simp)]; exact hb
theorem iteB {x : Bool} {a b : Prop} (h1 : x = true → a) (h2 : x = false → b) : (if x = true then a else b) := by
  cases x with
  | true => exact h1 rfl
  | false => exact h2 rfl
theorem no_strs {α : Type} (o : List α) (f : α → PyData) : (o.filter fun _ => false).map f = [] := by simp

/-! part p_text -/
theorem str_extL {a b : Str} (h : a.cps.toList = b.cps.toList) : a = b := Str.ext' (Array.toList_inj.mp h)
theorem str_app (a b : Str) : (a ++ b).cps.toList = a.cps.toList ++ b.cps.toList := by rw [Str.cps_append, Array.toList_append]
theorem cut_one {c : Nat} : ∀ {a b s t : List Nat}, c ∉ a → c ∉ b → a ++ c :: s = b ++ c :: t → a = b ∧ s = t
  | [], [], s, t, _, _, e => by simpa using e
  | [], y :: b, s, t, _, hb, e => by
    rw [List.nil_append, List.cons_append] at e
    injection e with e1 _
    exact absurd (e1 ▸ List.mem_cons_self ..) hb
  | x :: a, [], s, t, ha, _, e => by
    rw [List.nil_append, List.cons_append] at e
    injection e with e1 _
    exact absurd (e1 ▸ List.mem_cons_self ..) ha
  | x :: a, y :: b, s, t, ha, hb, e => by
    rw [List.cons_append, List.cons_append] at e
    injection e with e1 e2
    obtain ⟨h1, h2⟩ := cut_one (fun z => ha (List.mem_cons_of_mem _ z)) (fun z => hb (List.mem_cons_of_mem _ z)) e2
    exact ⟨by rw [e1, h1], h2⟩
theorem join_cons (sep x y : Str) (r : List Str) : Str.join sep (x :: y :: r) = x ++ sep ++ Str.join sep (y :: r) := rfl
theorem join_one {c : Nat} : ∀ {xs ys : List Str}, xs ≠ [] → ys ≠ [] → (∀ x ∈ xs, c ∉ x.cps.toList) → (∀ y ∈ ys, c ∉ y.cps.toList) → Str.join ⟨#[c]⟩ xs = Str.join ⟨#[c]⟩ ys → xs = ys
  | [], _, h, _, _, _, _ => absurd rfl h
  | _, [], _, h, _, _, _ => absurd rfl h
  | [x], [y], _, _, _, _, e => by
    have e : x = y := e
    rw [e]
  | [x], y :: y2 :: ys, _, _, hx, _, e => by
    have e : x = y ++ ⟨#[c]⟩ ++ Str.join ⟨#[c]⟩ (y2 :: ys) := e
    refine absurd ?_ (hx x (List.mem_cons_self ..))
    rw [e, str_app, str_app]
    simp
  | x :: x2 :: xs, [y], _, _, _, hy, e => by
    have e : x ++ ⟨#[c]⟩ ++ Str.join ⟨#[c]⟩ (x2 :: xs) = y := e
    refine absurd ?_ (hy y (List.mem_cons_self ..))
    rw [← e, str_app, str_app]
    simp
  | x :: x2 :: xs, y :: y2 :: ys, _, _, hx, hy, e => by
    rw [join_cons, join_cons] at e
    have e := congrArg (fun s : Str => s.cps.toList) e
    simp only [str_app, List.append_assoc] at e
    obtain ⟨h1, h2⟩ := cut_one (hx x (List.mem_cons_self ..)) (hy y (List.mem_cons_self ..)) e
    rw [str_extL h1, join_one (xs := x2 :: xs) (ys := y2 :: ys) (by simp) (by simp) (fun z hz => hx z (List.mem_cons_of_mem _ hz)) (fun z hz => hy z (List.mem_cons_of_mem _ hz)) (str_extL h2)]
theorem txt_join (sep : Str) (xs : List Str) : Txt.join sep xs = Str.join sep xs := StrLaws.glued_eq_join sep xs
theorem split_join {c : Nat} {xs : List Str} (h0 : xs ≠ []) (hx : ∀ x ∈ xs, c ∉ x.cps.toList) : Txt.split (Txt.join ⟨#[c]⟩ xs) ⟨#[c]⟩ = xs := by
  refine join_one (c := c) (fun z => ?_) h0 (StrLaws.split_free _ c) hx ?_
  · have := PyProof.Rows.split_pos (Txt.join ⟨#[c]⟩ xs) ⟨#[c]⟩
    rw [z] at this
    simp at this
  · rw [StrLaws.join_split, txt_join]
theorem part_at {c d : Nat} {a b : Str} (ha : c ∉ a.cps.toList) : Txt.partition (a ++ ⟨#[c, d]⟩ ++ b) ⟨#[c, d]⟩ = (a, ⟨#[c, d]⟩, b) := by
  have hx : (a ++ ⟨#[c, d]⟩ ++ b).cps.toList = a.cps.toList ++ c :: d :: b.cps.toList := by rw [str_app, str_app]; simp
  have hl : (a ++ ⟨#[c, d]⟩ ++ b).length = a.length + 2 + b.length := by
    rw [Str.length_append, Str.length_append]; rfl
  have la : a.cps.toList.length = a.length := by simp [Str.length]
  have at_ : StrLaws.At (a ++ ⟨#[c, d]⟩ ++ b) ⟨#[c, d]⟩ (a ++ ⟨#[c, d]⟩ ++ b).length a.length := by
    refine ⟨by rw [hl]; show a.length + 2 ≤ _; omega, ?_⟩
    rw [StrLaws.subAt_eq, hx, ← la, List.drop_left]
    show (List.take 2 (c :: d :: b.cps.toList) == [c, d]) = true
    simp
  rcases PyProof.Rows.partition_whole (a ++ ⟨#[c, d]⟩ ++ b) ⟨#[c, d]⟩ with ⟨_, hn⟩ | ⟨i, e, hi, hn⟩
  · exact absurd at_ (hn _)
  · have hia : i = a.length := by
      rcases Nat.lt_trichotomy i a.length with z | z | z
      · exfalso
        have h2 := hi.2
        rw [StrLaws.subAt_eq, hx] at h2
        have h3 := eq_of_beq h2
        have h4 := congrArg (fun l : List Nat => l[0]?) h3
        simp only [List.getElem?_take, List.getElem?_drop] at h4
        rw [if_pos (by show 0 < 2; decide), Nat.add_zero, List.getElem?_append_left (by omega)] at h4
        have h4 : a.cps.toList[i]? = some c := h4
        exact ha (List.mem_of_getElem? h4)
      · exact z
      · exact absurd at_ (hn _ z)
    subst hia
    rw [e]
    refine Prod.ext (str_extL ?_) (Prod.ext rfl (str_extL ?_))
    · rw [StrLaws.strSub_toList, hx, List.drop_zero, Nat.sub_zero, ← la, List.take_left]
    · rw [StrLaws.strSub_toList, hx, hl]
      show List.take (a.length + 2 + b.length - (a.length + 2)) (List.drop (a.length + 2) (a.cps.toList ++ c :: d :: b.cps.toList)) = b.cps.toList
      rw [List.drop_append, List.drop_of_length_le (by omega), la]
      have lb : b.cps.toList.length = b.length := by simp [Str.length]
      rw [show a.length + 2 - a.length = 2 by omega, show a.length + 2 + b.length - (a.length + 2) = b.length by omega]
      simp only [List.nil_append, List.drop_succ_cons, List.drop_zero]
      rw [← lb, List.take_length]
/-! ## how a house is written -/
def keysT (ks : List Str) : Str := if ks = [] then "-" else Txt.join " " (srt ks)
def roomT (r : Room') : Str := Txt.join "+" r.1 ++ ": " ++ keysT r.2
def houseT (h : House) : Str := Txt.join "\n" (keysT h.1 :: h.2.map roomT)
def sortH (h : House) : House := (srt h.1, h.2.map fun r => (r.1, srt r.2))
theorem sp_eq : (" " : Str) = ⟨#[32]⟩ := by decide +kernel
theorem pl_eq : ("+" : Str) = ⟨#[43]⟩ := by decide +kernel
theorem nl_eq : ("\n" : Str) = ⟨#[10]⟩ := by decide +kernel
theorem mi_eq : ("-" : Str) = ⟨#[45]⟩ := by decide +kernel
theorem co_eq : (": " : Str) = ⟨#[58, 32]⟩ := by decide +kernel
theorem mem_join {c : Nat} {sep : Str} : ∀ {xs : List Str}, c ∈ (Str.join sep xs).cps.toList → c ∈ sep.cps.toList ∨ ∃ x ∈ xs, c ∈ x.cps.toList
  | [], h => by simp [Str.join, Str.empty] at h
  | [x], h => .inr ⟨x, List.mem_cons_self .., h⟩
  | x :: y :: r, h => by
    rw [join_cons, str_app, str_app] at h
    rcases List.mem_append.mp h with h | h
    · rcases List.mem_append.mp h with h | h
      · exact .inr ⟨x, List.mem_cons_self .., h⟩
      · exact .inl h
    · rcases mem_join (xs := y :: r) h with h | ⟨z, hz, h⟩
      · exact .inl h
      · exact .inr ⟨z, List.mem_cons_of_mem _ hz, h⟩
theorem kind_not {c : Nat} {x : Str} (hc : c ∉ letters.cps.toList) (hx : isKind x = true) : c ∉ x.cps.toList := fun z => hc ((isKind_iff.mp hx).1 c z)
theorem not_let : (32 ∉ letters.cps.toList ∧ 43 ∉ letters.cps.toList ∧ 10 ∉ letters.cps.toList) ∧ 45 ∉ letters.cps.toList ∧ 58 ∉ letters.cps.toList := by decide +kernel
def Kds (ks : List Str) : Prop := ∀ k ∈ ks, isKind k = true
theorem Kds.srt {ks : List Str} (h : Kds ks) : Kds (srt ks) := fun k hk => h k ((srt_perm ks).mem_iff.mp hk)
theorem keysT_not {ks : List Str} (h : Kds ks) {c : Nat} (hc : c ∉ letters.cps.toList) (h1 : c ≠ 32) (h2 : c ≠ 45) : c ∉ (keysT ks).cps.toList := by
  unfold keysT
  split
  · rw [mi_eq]; simp [h2]
  · rw [txt_join]
    intro z
    rcases mem_join z with z | ⟨x, hx, z⟩
    · rw [sp_eq] at z; simp [h1] at z
    · exact kind_not hc (h.srt x hx) z
theorem keysT_dash {ks : List Str} (h : Kds ks) : decide (keysT ks = ("-" : Str)) = decide (ks = []) := by
  by_cases e : ks = []
  · subst e
    rw [decide_eq_true rfl]
    exact decide_eq_true (by unfold keysT; rw [if_pos rfl])
  · rw [decide_eq_false e]
    refine decide_eq_false fun z => ?_
    have : 45 ∈ (keysT ks).cps.toList := by rw [z, mi_eq]; simp
    unfold keysT at this
    rw [if_neg e, txt_join] at this
    rcases mem_join this with z | ⟨x, hx, z⟩
    · rw [sp_eq] at z; simp at z
    · exact kind_not not_let.2.1 (h.srt x hx) z
theorem srt_ne {ks : List Str} (h : ks ≠ []) : srt ks ≠ [] := fun z => h (by
  have := (srt_perm ks).length_eq
  rw [z] at this
  exact List.eq_nil_of_length_eq_zero this.symm)
theorem keysT_split {ks : List Str} (h : Kds ks) (h0 : ks ≠ []) : Txt.split (keysT ks) " " = srt ks := by
  unfold keysT
  rw [if_neg h0, sp_eq]
  exact split_join (srt_ne h0) fun x hx => kind_not not_let.1.1 (h.srt x hx)
theorem locks_split {ks : List Str} (h : Kds ks) (h0 : ks ≠ []) : Txt.split (Txt.join "+" ks) "+" = ks := by
  rw [pl_eq]
  exact split_join h0 fun x hx => kind_not not_let.1.2.1 (h x hx)
theorem room_part {r : Room'} (h : Kds r.1) : Txt.partition (roomT r) ": " = (Txt.join "+" r.1, (": " : Str), keysT r.2) := by
  unfold roomT
  rw [co_eq]
  refine part_at fun z => ?_
  rw [txt_join] at z
  rcases mem_join z with z | ⟨x, hx, z⟩
  · rw [pl_eq] at z; simp at z
  · exact kind_not not_let.2.2 (h x hx) z
theorem roomT_nl {r : Room'} (h1 : Kds r.1) (h2 : Kds r.2) : 10 ∉ (roomT r).cps.toList := by
  unfold roomT
  rw [str_app, str_app, List.mem_append, List.mem_append]
  rintro ((z | z) | z)
  · rw [txt_join] at z
    rcases mem_join z with z | ⟨x, hx, z⟩
    · rw [pl_eq] at z; simp at z
    · exact kind_not not_let.1.2.2 (h1 x hx) z
  · rw [co_eq] at z; simp at z
  · exact keysT_not h2 not_let.1.2.2 (by decide) (by decide) z
theorem house_split {h : House} (gd : GoodHouse h) : Txt.split (houseT h) "\n" = keysT h.1 :: h.2.map roomT := by
  unfold houseT
  rw [nl_eq]
  refine split_join (by simp) fun x hx => ?_
  rcases List.mem_cons.mp hx with rfl | hx
  · exact keysT_not gd.keys not_let.1.2.2 (by decide) (by decide)
  · obtain ⟨r, hr, rfl⟩ := List.mem_map.mp hx
    exact roomT_nl (gd.rooms r hr).1 (gd.rooms r hr).2.1
theorem keysT_srt (ks : List Str) : keysT (srt ks) = keysT ks := by
  unfold keysT
  by_cases e : ks = []
  · subst e
    have : srt [] = [] := List.eq_nil_of_length_eq_zero (srt_perm []).length_eq
    rw [this, if_pos rfl, if_pos rfl]
  · rw [if_neg e, if_neg (srt_ne e), srt_srt]
theorem houseT_sort (h : House) : houseT (sortH h) = houseT h := by
  unfold houseT sortH
  simp only [keysT_srt, List.map_map]
  congr 2
  refine List.map_congr_left fun r _ => ?_
  show roomT (r.1, srt r.2) = roomT r
  unfold roomT
  simp only [keysT_srt]
theorem sort_good {h : House} (gd : GoodHouse h) : GoodHouse (sortH h) := by
  refine ⟨Kds.srt gd.keys, fun r hr => ?_, by show (srt h.1).length ≤ _; rw [(srt_perm _).length_eq]; exact gd.few, by show (h.2.map _).length ≤ _; rw [List.length_map]; exact gd.many, fun r hr => ?_⟩
  · obtain ⟨s, hs, rfl⟩ := List.mem_map.mp hr
    obtain ⟨g1, g2, g3⟩ := gd.rooms s hs
    exact ⟨g1, Kds.srt g2, g3⟩
  · obtain ⟨s, hs, rfl⟩ := List.mem_map.mp hr
    show (srt s.2).length ≤ _
    rw [(srt_perm _).length_eq]
    exact gd.each s hs

/-! part p_textu -/
theorem is_house_use {h : House} {P : RV → List Cell → Prop} (gd : GoodHouse h) (q : P (.f (.bool true)) []) : tF 1 (pre1 SzD) (fn1 fun d => .bool (isHouseD d)) [.d (houseD h)] [] P :=
  ⟨rfl, [houseD h], rfl, rfl, ⟨_, rfl, szD_house gd⟩, by show P (.f (.bool (isHouseD (houseD h)))) []; rw [isHouseD_house gd]; exact q⟩
theorem sum_kinds : ∀ {ks : List Str}, Kds ks → (ks.map (·.length)).sum ≤ 4 * ks.length
  | [], _ => by simp
  | k :: ks, h => by
    have := (isKind_len (h k (List.mem_cons_self ..))).2
    have ih := sum_kinds (ks := ks) fun x hx => h x (List.mem_cons_of_mem _ hx)
    simp only [List.map_cons, List.sum_cons, List.length_cons]
    omega
theorem join_len {sep : Str} {ks : List Str} (h : Kds ks) (hs : sep.length = 1) : (Txt.join sep ks).length ≤ 5 * ks.length := by
  rw [txt_join]
  have h1 := StrLaws.join_length_le sep ks
  have h2 := sum_kinds h
  rw [hs] at h1
  omega
theorem keysT_len {ks : List Str} (h : Kds ks) : (keysT ks).length ≤ 5 * ks.length + 1 := by
  unfold keysT
  split
  · show 1 ≤ _; omega
  · have := join_len (sep := " ") h.srt rfl
    rw [(srt_perm ks).length_eq] at this
    omega
theorem show_keys_use {ks : List Str} {P : RV → List Cell → Prop} (hk : Kds ks) (hl : ks.length ≤ 1000) (q : P (.f (.str (keysT ks))) []) : TT_show_keys [.d (ksD ks)] [] P := by
  have szl : 10000 < sizeLine := by decide
  have sz2 : sizeLine = 16777216 := by decide
  (first | simp_arith [TT_show_keys, tt_show_keys, ksD] | skip)
  cases ks with
  | nil =>
    (first | simp_arith [onSome_some] | skip)
    exact q
  | cons k ks =>
    have h1 := sum_kinds hk.srt
    have h2 := (srt_perm (k :: ks)).length_eq
    have e : keysT (k :: ks) = Txt.join " " (srt (k :: ks)) := by unfold keysT; rw [if_neg (by simp)]
    rw [e] at q
    have em : List.map PyData.str (k :: ks) = (k :: ks).map PyData.str := rfl
    (first | simp_arith [List.map_cons, List.isEmpty_cons] | skip)
    have hs1 : (Str.ofString " ").length = 1 := rfl
    rw [hs1]
    exact ⟨by omega, q⟩
structure Wh (h : House) : Prop where
  good : GoodHouse h
  b : h.1.length ≤ 300
  r : h.2.length ≤ 20
  k : ∀ r ∈ h.2, r.2.length ≤ 300
theorem roomT_len {h : House} (w : Wh h) {r : Room'} (hr : r ∈ h.2) : (roomT r).length ≤ 1600 := by
  obtain ⟨g1, g2, g3, g4, g5⟩ := w.good.rooms r hr
  have h1 := join_len (sep := "+") g1 rfl
  have h2 := keysT_len g2
  have h3 := w.k r hr
  unfold roomT
  rw [Str.length_append, Str.length_append]
  have : (Str.ofString ": ").length = 2 := rfl
  omega
theorem show_room_use {h : House} {r : Room'} {P : RV → List Cell → Prop} (w : Wh h) (hr : r ∈ h.2) (q : P (.f (.str (roomT r))) []) : TT_show_room [.d (roomD r)] [] P := by
  have szl : 10000 < sizeLine := by decide
  obtain ⟨g1, g2, g3, g4, g5⟩ := w.good.rooms r hr
  have h3 := w.k r hr
  have h1 := sum_kinds g1
  have hs1 : (Str.ofString "+").length = 1 := rfl
  have hs2 : (Str.ofString ": ").length = 2 := rfl
  have hl := roomT_len w hr
  have hj := join_len (sep := "+") g1 rfl
  have hk := keysT_len g2
  (first | simp_arith [TT_show_room, tt_show_room] | skip)
  rw [hs1]
  refine ⟨by omega, by rw [hs2]; omega, ?_⟩
  refine show_keys_use g2 (by omega) ?_
  (first | simp_arith [onSome_some] | skip)
  refine ⟨?_, q⟩
  rw [Str.length_append, hs2]
  omega
theorem sum_rooms {h : House} (w : Wh h) : ∀ {rs : List Room'}, (∀ r ∈ rs, r ∈ h.2) → ((rs.map roomT).map (·.length)).sum ≤ 1600 * rs.length
  | [], _ => by simp
  | r :: rs, hr => by
    have h1 := roomT_len w (hr r (List.mem_cons_self ..))
    have ih := sum_rooms w (rs := rs) fun x hx => hr x (List.mem_cons_of_mem _ hx)
    simp only [List.map_cons, List.sum_cons, List.length_cons]
    omega
theorem houseT_len {h : House} (w : Wh h) : (houseT h).length ≤ 40000 := by
  have h1 := StrLaws.join_length_le "\n" (keysT h.1 :: h.2.map roomT)
  have h2 := sum_rooms w (rs := h.2) fun _ h => h
  have h3 := keysT_len w.good.keys
  have h4 := w.b
  have h5 := w.r
  have hs : (Str.ofString "\n").length = 1 := rfl
  unfold houseT
  rw [txt_join]
  simp only [List.map_cons, List.sum_cons, List.length_cons, List.length_map] at h1
  rw [hs] at h1
  omega
theorem show_house_use {h : House} {P : RV → List Cell → Prop} (w : Wh h) (q : P (.f (.str (houseT h))) []) : TT_show_house [.d (houseD h)] [] P := by
  have szl : 10000 < sizeLine := by decide
  (first | simp_arith [TT_show_house, tt_show_house] | skip)
  refine is_house_use w.good ?_
  (first | simp_arith [onSome_some] | skip)
  have h4 := w.b
  have h5 := w.r
  refine show_keys_use w.good.keys (by omega) ?_
  (first | simp_arith [onSome_some] | skip)
  repeat (with_reducible refine And.intro (by first | omega | decide | exact Or.inl ⟨by omega, by omega⟩ | exact Or.inr ⟨by omega, by omega⟩ | (constructor <;> omega) | fail) ?_)
  refine lcW_map trivial roomD (fun _ => true) (fun r => PyData.str (roomT r)) (fun r hr R1 R2 h1 h2 => ?_) ?_
  · (first | simp_arith [onSome_some] | skip)
    refine show_room_use w hr ?_
    (first | simp_arith [onSome_some] | skip)
    exact h1 rfl
  have ef : (h.2.filter fun _ => true).map (fun r => PyData.str (roomT r)) = (h.2.map roomT).map PyData.str := by rw [List.filter_eq_self.mpr fun _ _ => rfl, List.map_map]; rfl
  have ec : PyData.str (keysT h.1) :: (h.2.map roomT).map PyData.str = (keysT h.1 :: h.2.map roomT).map PyData.str := rfl
  have h2 := sum_rooms w (rs := h.2) fun _ h => h
  have h3 := keysT_len w.good.keys
  have hs : (Str.ofString "\n").length = 1 := rfl
  (first | simp_arith [List.nil_append, ef, List.length_map] | skip)
  rw [ec, strs?_map]
  (first | simp_arith [onSome_some] | skip)
  rw [hs, List.sum_cons]
  exact ⟨by omega, by omega, q⟩
theorem keys_from_use {ks : List Str} {P : RV → List Cell → Prop} (hk : Kds ks) (hl : ks.length ≤ 1000) (q : P (.n (.lst ((srt ks).map .str))) []) : TT_keys_from [.d (.str (keysT ks))] [] P := by
  have szl : 10000 < sizeLine := by decide
  have h1 := keysT_len hk
  have hd := keysT_dash hk
  (first | simp_arith [TT_keys_from, tt_keys_from, splitN, hd] | skip)
  by_cases e : ks = []
  · subst e
    have : srt [] = [] := List.eq_nil_of_length_eq_zero (srt_perm []).length_eq
    rw [this] at q
    (first | simp_arith [decide_true] | skip)
    exact q
  · have hsp : ((Str.ofString " ").length == 0) = false := rfl
    rw [decide_eq_false e]
    (first | simp_arith [keysT_split hk e, hsp] | skip)
    exact ⟨by omega, q⟩
theorem room_from_use {h : House} {r : Room'} {P : RV → List Cell → Prop} (w : Wh h) (hr : r ∈ h.2) (q : P (.f (roomD (r.1, srt r.2))) []) : TT_room_from [.d (.str (roomT r))] [] P := by
  have szl : 10000 < sizeLine := by decide
  obtain ⟨g1, g2, g3, g4, g5⟩ := w.good.rooms r hr
  have h3 := w.k r hr
  have hl := roomT_len w hr
  have hj := join_len (sep := "+") g1 rfl
  have hp := room_part (r := r) g1
  have hne : r.1 ≠ [] := fun z => by rw [z] at g3; simp at g3
  have hc : ((Str.ofString ": ").length == 0) = false := rfl
  have hpl : ((Str.ofString "+").length == 0) = false := rfl
  (first | simp_arith [TT_room_from, tt_room_from, partA, splitN, hp, hc] | skip)
  refine ⟨by omega, ⟨hpl, by omega⟩, keys_from_use g2 (by omega) ?_⟩
  rw [locks_split g1 hne]
  (first | simp_arith [onSome_some] | skip)
  exact ⟨by omega, q⟩
theorem sort_wh {h : House} (w : Wh h) : Wh (sortH h) := by
  refine ⟨sort_good w.good, by show (srt h.1).length ≤ _; rw [(srt_perm _).length_eq]; exact w.b, by show (h.2.map _).length ≤ _; rw [List.length_map]; exact w.r, fun r hr => ?_⟩
  obtain ⟨s, hs, rfl⟩ := List.mem_map.mp hr
  show (srt s.2).length ≤ _
  rw [(srt_perm _).length_eq]
  exact w.k s hs
theorem read_use {h : House} {P : RV → List Cell → Prop} (w : Wh h) (q : P (.f (houseD (sortH h))) []) : TT_read_house [.d (.str (houseT h))] [] P := by
  have szl : 100000 < sizeLine := by decide
  have hl := houseT_len w
  have hsp := house_split w.good
  have hc : ((Str.ofString "\n").length == 0) = false := rfl
  have es : kitB "str" "str" = some true := by decide +kernel
  have h4 := w.b
  have h5 := w.r
  have ecut : cutD (PyData.str (keysT h.1) :: (h.2.map roomT).map PyData.str) (some 1) none = (h.2.map roomT).map PyData.str := by
    unfold cutD
    rw [show HT.sIx (PyData.str (keysT h.1) :: (h.2.map roomT).map PyData.str).length 0 (some 1) = 1 from by rw [show (1 : Int) = ((1 : Nat) : Int) from rfl, HT.sIx_nat, List.length_cons]; omega, HT.sIx_none]
    rw [List.drop_succ_cons, List.drop_zero, List.length_cons, Nat.add_sub_cancel]
    exact List.take_of_length_le (Nat.le_refl _)
  (first | simp_arith [TT_read_house, tt_read_house, splitN, hsp, hc, es] | skip)
  refine ⟨by omega, keys_from_use w.good.keys (by omega) ?_⟩
  (first | simp_arith [ecut] | skip)
  have em : (h.2.map roomT).map PyData.str = h.2.map fun r => PyData.str (roomT r) := by rw [List.map_map]; rfl
  rw [em]
  refine lcW_map trivial (fun r => PyData.str (roomT r)) (fun _ => true) (fun r => roomD (r.1, srt r.2)) (fun r hr R1 R2 h1 h2 => ?_) ?_
  · (first | simp_arith [onSome_some] | skip)
    refine room_from_use w hr ?_
    (first | simp_arith [onSome_some] | skip)
    exact h1 rfl
  have ef : (h.2.filter fun _ => true).map (fun r : Room' => PyData.tuple [.list (r.1.map PyData.str), .list ((srt r.2).map PyData.str)]) = (sortH h).2.map roomD := by
    rw [List.filter_eq_self.mpr fun _ _ => rfl]
    unfold sortH
    rw [List.map_map]
    rfl
  have eh : PyData.tuple [.list ((srt h.1).map PyData.str), .list ((sortH h).2.map roomD)] = houseD (sortH h) := rfl
  have ws := sort_wh w
  (first | simp_arith [List.nil_append] | skip)
  repeat (with_reducible refine And.intro (by first | omega | decide | exact Or.inl ⟨by omega, by omega⟩ | exact Or.inr ⟨by omega, by omega⟩ | (constructor <;> omega) | fail) ?_)
  rw [ef, eh]
  refine is_house_use ws.good ?_
  (first | simp_arith [onSome_some] | skip)
  refine show_house_use ws ?_
  rw [houseT_sort]
  (first | simp_arith [onSome_some] | skip)
  exact q

/-! part p_g52 -/
theorem numbers_use {c : Int} {many : Nat} {P : RV → List Cell → Prop} (h1 : many ≤ 1000) (q : ∀ ns : List Int, P (.n (.lst (ns.map .int))) []) : TT_law_numbers [.d (.int c), .d (.int (many : Int))] [] P := by
  have szl : 10000 < sizeLine := by decide
  have pw : ∀ (s : AS) (Q : VQ), powA (.d (.int 10)) (.d (.int 18)) s Q = ((0 ≤ (18 : Int) ∧ (18 : Int) ≤ 1000000 ∧ (10 : Int).natAbs < 2 ^ 64) ∧ Q (.d (.int (10 ^ 18))) s) := fun s Q => by
    simp only [powA, intOp, AVal.int?_int, onSome_some, CPow]
    rfl
  (first | simp_arith [TT_law_numbers, tt_law_numbers] | skip)
  repeat (with_reducible refine And.intro (by first | omega | decide | exact Or.inl ⟨by omega, by omega⟩ | exact Or.inr ⟨by omega, by omega⟩ | (constructor <;> omega) | fail) ?_)
  rw [intsD_natE]
  refine forW_map (fun k : Nat => PyData.int (k : Int)) (List.range many) (fun i s => ∃ (ns : List Int) (rest stir : Int), ns.length = i ∧ (0 ≤ stir ∧ stir < 2147483647) ∧ s = ⟨[some (.d (.int c)), some (.d (.int (many : Int))), some (.r 0), some (.d (.int rest)), some (.d (.int stir)), none, none], [.lst (ns.map .int)]⟩) ⟨[], c, c % 2147483647, rfl, by omega, rfl⟩ ?_ ?_
  · rintro i x s' N hx ⟨ns, rest, stir, hl, hst, rfl⟩ hN
    have hi : i < many := by have := (List.getElem?_eq_some_iff.mp hx).1; simpa using this
    have hx2 : x < many := by have := List.mem_of_getElem? hx; simpa using this
    have fin : ∀ (v : Int) (rest' stir' : Int), (0 ≤ stir' ∧ stir' < 2147483647) → ∀ sl, SubS 1 sl [some (.d (.int c)), some (.d (.int (many : Int))), some (.r 0), some (.d (.int rest')), some (.d (.int stir')), none, none] → N ⟨sl, [.lst (ns.map PyData.int ++ [.int v])]⟩ := by
      intro v rest' stir' hs' sl hs
      refine hN _ _ (wk_of (cs' := [.lst ((ns ++ [v]).map PyData.int)]) [] hs (by simp) rfl (by simp)) ⟨ns ++ [v], rest', stir', by simp [hl], hs', rfl⟩
    (first | simp_arith [pw, CDiv, CMul] | skip)
    have m1 : 0 ≤ ((stir + 7 * (x : Int) + 3) * 48271) % 2147483647 ∧ ((stir + 7 * (x : Int) + 3) * 48271) % 2147483647 < 2147483647 := ⟨Int.emod_nonneg _ (by decide), Int.emod_lt_of_pos _ (by decide)⟩
    refine ⟨by decide, ?_⟩
    split
    · split
      · refine ⟨by decide, by omega, by decide, ?_⟩
        exact fin _ (rest / 64) stir hst _ (by simp [SubS, ltO, AVal.lt])
      · repeat (with_reducible refine And.intro (by first | omega | decide | exact Or.inl ⟨by omega, by omega⟩ | exact Or.inr ⟨by omega, by omega⟩ | (constructor <;> omega) | fail) ?_)
        refine fin _ rest _ m1 _ ?_
        simp [SubS, ltO, AVal.lt]
    · repeat (with_reducible refine And.intro (by first | omega | decide | exact Or.inl ⟨by omega, by omega⟩ | exact Or.inr ⟨by omega, by omega⟩ | (constructor <;> omega) | fail) ?_)
      refine fin _ rest _ m1 _ ?_
      simp [SubS, ltO, AVal.lt]
  · rintro s' ⟨ns, rest, stir, hl, hst, rfl⟩
    (first | simp_arith [onSome_some] | skip)
    exact q ns
theorem deck_use {c : Int} {many : Nat} {P : RV → List Cell → Prop} (h1 : many ≤ 1000) (q : ∀ ns : List Int, P (.n (.lst (ns.map .int))) []) : TT_law_deck [.d (.int c), .d (.int (many : Int))] [] P := by
  (first | simp_arith [TT_law_deck, tt_law_deck] | skip)
  refine numbers_use h1 fun ns => ?_
  (first | simp_arith [onSome_some] | skip)
  rw [← List.map_reverse]
  exact q _
theorem modN (v m : Int) (hm : 0 < m) : ∃ r : Nat, v % m = (r : Int) ∧ (r : Int) < m := by
  have h0 := Int.emod_nonneg v (by omega : m ≠ 0)
  exact ⟨(v % m).toNat, by omega, by have := Int.emod_lt_of_pos v hm; omega⟩
theorem take_use {ns : List Int} {many : Int} {P : RV → List Cell → Prop} (h0 : 0 < many) (q : ∀ (r : Nat) (ns' : List Int), (r : Int) < many → P (.f (.int (r : Int))) [.lst (ns'.map .int)]) : TT_law_take [.r 0, .d (.int many)] [.lst (ns.map .int)] P := by
  (first | simp_arith [TT_law_take, tt_law_take] | skip)
  cases hns : (ns.map PyData.int).isEmpty with
  | true =>
    (first | simp_arith [onSome_some] | skip)
    exact q 0 ns (by omega)
  | false =>
    (first | simp_arith [onSome_some] | skip)
    have hne : ns ≠ [] := fun z => by rw [z] at hns; cases hns
    obtain ⟨v, hv⟩ : ∃ v, ns.getLast? = some v := ⟨_, List.getLast?_eq_some_getLast hne⟩
    rw [List.getLast?_map, hv, ← List.map_dropLast]
    (first | simp_arith [Option.map_some] | skip)
    obtain ⟨r, er, hr⟩ := modN v many h0
    rw [er]
    exact ⟨h0, q r _ hr⟩
theorem let_at26 {i : Int} (h0 : 0 ≤ i) (h1 : i < 26) : ∃ c, L2.atI letters.cps.toList i = some c ∧ c ∈ letters.cps.toList := by
  have ll : letters.cps.toList.length = 26 := by decide +kernel
  obtain ⟨n, rfl⟩ : ∃ n : Nat, i = (n : Int) := ⟨i.toNat, by omega⟩
  have g2 : n < letters.cps.toList.length := by omega
  exact ⟨letters.cps.toList[n], by rw [atI_natE]; exact List.getElem?_eq_getElem g2, List.getElem_mem g2⟩
theorem kindOf_use {ns : List Int} {few : Nat} {P : RV → List Cell → Prop} (h0 : 0 < few) (h1 : few ≤ 8) (q : ∀ (x : Str) (ns' : List Int), isKind x = true → P (.f (.str x)) [.lst (ns'.map .int)]) : TT_law_kind [.r 0, .d (.int (few : Int))] [.lst (ns.map .int)] P := by
  have szl : 10000 < sizeLine := by decide
  have pick : ∀ (L : List Str) (r : Nat), (∀ x ∈ L, isKind x = true) → r < L.length → ∃ x, L2.atI (L.map PyData.str) (r : Int) = some (.str x) ∧ L2.atI (L.map fun x => AVal.d (.str x)) (r : Int) = some (.d (.str x)) ∧ isKind x = true := fun L r hL hr => by
    refine ⟨L[r], ?_, ?_, hL _ (List.getElem_mem hr)⟩
    · rw [atI_natE, List.getElem?_map, List.getElem?_eq_getElem hr]
      rfl
    · rw [atI_natE, List.getElem?_map, List.getElem?_eq_getElem hr]
      rfl
  (first | simp_arith! [TT_law_kind, tt_law_kind] | skip)
  refine take_use (by decide) fun way ns1 hw => ?_
  have e5 : decide ((way : Int) = 5) = decide (way = 5) := decide_eq_decide.mpr (by omega)
  have e6 : decide ((way : Int) = 6) = decide (way = 6) := decide_eq_decide.mpr (by omega)
  have e7 : decide ((way : Int) = 7) = decide (way = 7) := decide_eq_decide.mpr (by omega)
  by_cases h5 : way = 5
  · have d5 : decide ((way : Int) = 5) = true := by rw [e5]; exact decide_eq_true h5
    (first | simp_arith [d5] | skip)
    repeat (with_reducible refine And.intro (by first | omega | decide | exact Or.inl ⟨by omega, by omega⟩ | exact Or.inr ⟨by omega, by omega⟩ | (constructor <;> omega) | fail) ?_)
    refine take_use (many := 18) (by decide) fun r ns2 hr => ?_
    obtain ⟨x, hx, hx2, hk⟩ := pick [("keys" : Str), "room", "open", "back", "new", "hand", "next", "gone", "all", "buy", "nth", "most", "best", "show", "none", "yes", "few", "shut"] r (by decide +kernel) (by show r < 18; omega)
    simp only [List.map_cons, List.map_nil] at hx hx2
    (first | simp_arith [hx, hx2] | skip)
    exact q x ns2 hk
  · by_cases h6 : way = 6
    · have d5 : decide ((way : Int) = 5) = false := by rw [e5]; exact decide_eq_false h5
      have d6 : decide ((way : Int) = 6) = true := by rw [e6]; exact decide_eq_true h6
      (first | simp_arith [d5, d6] | skip)
      repeat (with_reducible refine And.intro (by first | omega | decide | exact Or.inl ⟨by omega, by omega⟩ | exact Or.inr ⟨by omega, by omega⟩ | (constructor <;> omega) | fail) ?_)
      refine take_use (many := 8) (by decide) fun r ns2 hr => ?_
      obtain ⟨x, hx, hx2, hk⟩ := pick [("abcd" : Str), "abce", "abcz", "zz", "zy", "zbcd", "keya", "keyb"] r (by decide +kernel) (by show r < 8; omega)
      simp only [List.map_cons, List.map_nil] at hx hx2
      (first | simp_arith [hx, hx2] | skip)
      exact q x ns2 hk
    · by_cases h7 : way = 7
      · have d5 : decide ((way : Int) = 5) = false := by rw [e5]; exact decide_eq_false h5
        have d6 : decide ((way : Int) = 6) = false := by rw [e6]; exact decide_eq_false h6
        have d7 : decide ((way : Int) = 7) = true := by rw [e7]; exact decide_eq_true h7
        (first | simp_arith [d5, d6, d7] | skip)
        refine take_use (many := 4) (by decide) fun r ns2 hr => ?_
        (first | simp_arith [onSome_some] | skip)
        repeat (with_reducible refine And.intro (by first | omega | decide | exact Or.inl ⟨by omega, by omega⟩ | exact Or.inr ⟨by omega, by omega⟩ | (constructor <;> omega) | fail) ?_)
        rw [show (1 : Int) + (r : Int) = ((1 + r : Nat) : Int) by omega, intsD_natE]
        refine forW_map (fun k : Nat => PyData.int (k : Int)) (List.range (1 + r)) (fun i s => ∃ (w : Str) (ns' : List Int), LS w ∧ w.length = i ∧ s = ⟨[some (.r 0), some (.d (.int (few : Int))), some (.d (.int (way : Int))), none, some (.d (.str w)), none], [.lst (ns'.map .int)]⟩) ⟨"", ns2, (fun c hc => by cases hc), rfl, rfl⟩ ?_ ?_
        · rintro i x s' N hx ⟨w, ns', hw', hwl, rfl⟩ hN
          have hi : i < 1 + r := by have := (List.getElem?_eq_some_iff.mp hx).1; simpa using this
          (first | simp_arith [onSome_some] | skip)
          refine take_use (many := 26) (by decide) fun t ns3 ht => ?_
          obtain ⟨c, hc⟩ := let_at26 (i := (t : Int)) (by omega) (by omega)
          have hlt : Str.ofString "abcdefghijklmnopqrstuvwxyz" = letters := rfl
          (first | simp_arith [hlt, hc.1] | skip)
          refine ⟨by decide +kernel, by rw [hwl]; show i + 1 ≤ sizeLine; omega, hN _ ⟨[some (.r 0), some (.d (.int (few : Int))), some (.d (.int (way : Int))), none, some (.d (.str (w ++ ⟨#[c]⟩))), none], [.lst (ns3.map .int)]⟩ (wk_of [] (by simp [SubS, ltO, AVal.lt]) rfl rfl (by simp)) ⟨_, ns3, hw'.append (LS.one hc.2), ?_, rfl⟩⟩
          rw [Str.length_append, hwl]
          rfl
        · rintro s' ⟨w, ns', hw', hwl, rfl⟩
          rw [List.length_range] at hwl
          (first | simp_arith [onSome_some] | skip)
          exact q w ns' (isKind_iff.mpr ⟨hw', by omega, by omega⟩)
      · have d5 : decide ((way : Int) = 5) = false := by rw [e5]; exact decide_eq_false h5
        have d6 : decide ((way : Int) = 6) = false := by rw [e6]; exact decide_eq_false h6
        have d7 : decide ((way : Int) = 7) = false := by rw [e7]; exact decide_eq_false h7
        (first | simp_arith [d5, d6, d7] | skip)
        repeat (with_reducible refine And.intro (by first | omega | decide | exact Or.inl ⟨by omega, by omega⟩ | exact Or.inr ⟨by omega, by omega⟩ | (constructor <;> omega) | fail) ?_)
        refine take_use (by omega) fun r ns2 hr => ?_
        obtain ⟨x, hx, hx2, hk⟩ := pick [("a" : Str), "b", "ab", "c", "zz", "abcd", "ba", "k"] r (by decide +kernel) (by show r < 8; omega)
        simp only [List.map_cons, List.map_nil] at hx hx2
        (first | simp_arith [hx, hx2] | skip)
        exact q x ns2 hk

/-! part p_lcinv -/
theorem let_at {i : Int} (h0 : 0 ≤ i) (h1 : i < 26) : ∃ c, L2.atI letters.cps.toList i = some c := by
  have ll : letters.cps.toList.length = 26 := by decide +kernel
  have g1 : i.toNat < letters.cps.toList.length := by omega
  exact ⟨_, Eq.trans (congrArg (L2.atI letters.cps.toList) (show i = (i.toNat : Int) by omega)) (atI_nat (List.getElem?_eq_getElem g1))⟩
theorem lcW_inv {α : Type} {g : TGA} {tt : TTA} {te : TEA} {vs : List Nat} {ok : List Cell → Prop} {sl : List (Option AVal)} {Q : List PyData → List Cell → Prop} (D : α → PyData) (xs : List α) (Iv : Nat → List PyData → List Cell → Prop) {acc : List PyData} {cs : List Cell} (h0 : Iv 0 acc cs) (hok : ∀ i acc cs, Iv i acc cs → ok cs)
    (hs : ∀ i x acc cs R1 R2, xs[i]? = some x → Iv i acc cs → (∀ d cs', Iv (i + 1) (acc ++ [d]) cs' → R1 d cs') → (∀ cs', Iv (i + 1) acc cs' → R2 cs') → lcStep g tt te vs sl cs (D x) R1 R2) (hd : ∀ acc cs, Iv xs.length acc cs → Q acc cs) : lcW g tt te vs ok sl (xs.map D) acc cs Q := by
  have key : ∀ (n i : Nat) (acc : List PyData) (cs : List Cell), xs.length = i + n → Iv i acc cs → lcW g tt te vs ok sl ((xs.drop i).map D) acc cs Q := by
    intro n
    induction n with
    | zero =>
      intro i acc cs hl hi
      rw [List.drop_eq_nil_of_le (by omega)]
      exact ⟨hok _ _ _ hi, hd _ _ (by rw [hl]; exact hi)⟩
    | succ n ih =>
      intro i acc cs hl hi
      have e : xs[i]? = some (xs[i]'(by omega)) := List.getElem?_eq_getElem (by omega)
      rw [drop_get e, List.map_cons]
      exact ⟨hok _ _ _ hi, hs i _ acc cs (fun d cs' => lcW g tt te vs ok sl ((xs.drop (i + 1)).map D) (acc ++ [d]) cs' Q) (fun cs' => lcW g tt te vs ok sl ((xs.drop (i + 1)).map D) acc cs' Q) e hi (fun d cs' h => ih (i + 1) _ _ (by omega) h) (fun cs' h => ih (i + 1) _ _ (by omega) h)⟩
  exact key xs.length 0 acc cs (by omega) h0

/-! part p_permo -/
theorem perm_outM {α : Type} {l : List α} {j : Nat} {y : α} (h : l[j]? = some y) : l.Perm (y :: l.eraseIdx j) := by
  induction l generalizing j with
  | nil => simp at h
  | cons a l ih =>
    cases j with
    | zero =>
      have : a = y := by simpa using h
      subst this
      exact List.Perm.refl _
    | succ j =>
      rw [List.eraseIdx_cons_succ]
      exact ((ih (j := j) (by simpa using h)).cons a).trans (List.Perm.swap y a _)

/-! part p_h52 -/
theorem keysOf_use {ns : List Int} {few : Nat} {most : Nat} {P : RV → List Cell → Prop} (h0 : 0 < few) (h1 : few ≤ 8) (hm0 : 0 < most) (hm : most ≤ 20) (q : ∀ (ks : List Str) (ns' : List Int), Kds ks → ks.length < most → P (.n (.lst (ks.map .str))) [.lst (ns'.map .int)]) : TT_law_keys [.r 0, .d (.int (few : Int)), .d (.int (most : Int))] [.lst (ns.map .int)] P := by
  (first | simp_arith [TT_law_keys, tt_law_keys] | skip)
  refine take_use (by omega) fun r ns1 hr => ?_
  (first | simp_arith [onSome_some] | skip)
  repeat (with_reducible refine And.intro (by first | omega | decide | exact Or.inl ⟨by omega, by omega⟩ | exact Or.inr ⟨by omega, by omega⟩ | (constructor <;> omega) | fail) ?_)
  rw [intsD_natE]
  refine lcW_inv (fun k : Nat => PyData.int (k : Int)) (List.range r) (fun i acc cs => ∃ (ks : List Str) (ns' : List Int), Kds ks ∧ ks.length = i ∧ acc = ks.map .str ∧ cs = [.lst (ns'.map .int)]) ⟨[], ns1, (fun _ h => nomatch h), rfl, rfl, rfl⟩ (fun _ _ _ _ => trivial) ?_ ?_
  · rintro i x acc cs R1 R2 hx ⟨ks, ns', hk, hl, rfl, rfl⟩ hR1 hR2
    (first | simp_arith [onSome_some] | skip)
    refine kindOf_use h0 h1 fun y ns'' hy => ?_
    (first | simp_arith [onSome_some] | skip)
    exact hR1 _ _ ⟨ks ++ [y], ns'', fun k hk' => by
      rcases List.mem_append.mp hk' with z | z
      · exact hk k z
      · rw [List.mem_singleton] at z; subst z; exact hy, by simp [hl], by simp, rfl⟩
  · rintro acc cs ⟨ks, ns', hk, hl, rfl, rfl⟩
    rw [List.length_range] at hl
    (first | simp_arith [onSome_some] | skip)
    exact q ks ns' hk (by omega)
structure Rms (rs : List Room') : Prop where
  ok : ∀ r ∈ rs, goodRoom r
  k : ∀ r ∈ rs, r.2.length ≤ 240
theorem Rms.snoc {rs : List Room'} {r : Room'} (h : Rms rs) (h1 : goodRoom r) (h2 : r.2.length ≤ 240) : Rms (rs ++ [r]) := by
  refine ⟨fun x hx => ?_, fun x hx => ?_⟩
  · rcases List.mem_append.mp hx with hx | hx
    · exact h.ok x hx
    · rw [List.mem_singleton] at hx; subst hx; exact h1
  · rcases List.mem_append.mp hx with hx | hx
    · exact h.k x hx
    · rw [List.mem_singleton] at hx; subst hx; exact h2
theorem Rms.wh {ks : List Str} {rs : List Room'} (h : Rms rs) (hk : Kds ks) (h1 : ks.length ≤ 300) (h2 : rs.length ≤ 20) : Wh (ks, rs) :=
  ⟨⟨hk, h.ok, by show ks.length ≤ _; omega, by show rs.length ≤ _; omega, fun r hr => by have := h.k r hr; omega⟩, h1, h2, fun r hr => by have := h.k r hr; omega⟩
theorem house_use {ns : List Int} {P : RV → List Cell → Prop} (q : ∀ (h : House) (ns' : List Int), Kds h.1 → h.1.length ≤ 13 → Rms h.2 → h.2.length ≤ 8 → P (.f (houseD h)) [.lst (ns'.map .int)]) : TT_law_house [.r 0, .d (.int 8), .d (.int 4)] [.lst (ns.map .int)] P := by
  have szl : 10000 < sizeLine := by decide
  (first | simp_arith! [TT_law_house, tt_law_house] | skip)
  repeat (with_reducible refine And.intro (by first | omega | decide | exact Or.inl ⟨by omega, by omega⟩ | exact Or.inr ⟨by omega, by omega⟩ | (constructor <;> omega) | fail) ?_)
  refine take_use (many := 3) (by decide) fun r ns1 hr => ?_
  obtain ⟨few, hf0, hf8, ef⟩ : ∃ few : Nat, 0 < few ∧ few ≤ 8 ∧ L2.atI [PyData.int 2, PyData.int 3, PyData.int 8] (r : Int) = some (.int (few : Int)) := by
    have : r = 0 ∨ r = 1 ∨ r = 2 := by omega
    rcases this with rfl | rfl | rfl
    · exact ⟨2, by decide, by decide, rfl⟩
    · exact ⟨3, by decide, by decide, rfl⟩
    · exact ⟨8, by decide, by decide, rfl⟩
  (first | simp_arith! [ef] | skip)
  refine take_use (many := 9) (by decide) fun t ns2 ht => ?_
  (first | simp_arith! [onSome_some] | skip)
  repeat (with_reducible refine And.intro (by first | omega | decide | exact Or.inl ⟨by omega, by omega⟩ | exact Or.inr ⟨by omega, by omega⟩ | (constructor <;> omega) | fail) ?_)
  rw [intsD_natE]
  refine forW_map (fun k : Nat => PyData.int (k : Int)) (List.range t) (fun i s => ∃ (rs : List Room') (ns' : List Int), Rms rs ∧ rs.length = i ∧ s = ⟨[some (.r 0), some (.d (.int 8)), some (.d (.int 4)), some (.d (.int (few : Int))), some (.r 1), none, none, none], [.lst (ns'.map .int), .lst (rs.map roomD)]⟩) ⟨[], ns2, ⟨(fun _ h => nomatch h), (fun _ h => nomatch h)⟩, rfl, rfl⟩ ?_ ?_
  · rintro i x s' N hx ⟨rs, ns', hrs, hl, rfl⟩ hN
    have hi : i < t := by have := (List.getElem?_eq_some_iff.mp hx).1; simpa using this
    (first | simp_arith [onSome_some] | skip)
    refine take_use (many := 4) (by decide) fun u ns3 hu => ?_
    (first | simp_arith [onSome_some] | skip)
    repeat (with_reducible refine And.intro (by first | omega | decide | exact Or.inl ⟨by omega, by omega⟩ | exact Or.inr ⟨by omega, by omega⟩ | (constructor <;> omega) | fail) ?_)
    rw [show (1 : Int) + (u : Int) = ((1 + u : Nat) : Int) by omega, intsD_natE]
    refine lcW_inv (fun k : Nat => PyData.int (k : Int)) (List.range (1 + u)) (fun i acc cs => ∃ (ks : List Str) (ns' : List Int), Kds ks ∧ ks.length = i ∧ acc = ks.map .str ∧ cs = [.lst (ns'.map .int), .lst (rs.map roomD)]) ⟨[], ns3, (fun _ h => nomatch h), rfl, rfl, rfl⟩ (fun _ _ _ _ => trivial) ?_ ?_
    · rintro i x acc cs R1 R2 hx ⟨ks, ns', hk, hl, rfl, rfl⟩ hR1 hR2
      (first | simp_arith [onSome_some] | skip)
      refine kindOf_use hf0 hf8 fun y ns'' hy => ?_
      (first | simp_arith [onSome_some] | skip)
      exact hR1 _ _ ⟨ks ++ [y], ns'', fun k hk' => by
        rcases List.mem_append.mp hk' with z | z
        · exact hk k z
        · rw [List.mem_singleton] at z; subst z; exact hy, by simp [hl], by simp, rfl⟩
    · rintro acc cs ⟨ks, ns4, hk, hkl, rfl, rfl⟩
      rw [List.length_range] at hkl
      have hc : decide ((12 : Int) < 8) = false := by decide
      (first | simp_all_arith [srtD_strs, hc] | skip)
      repeat (with_reducible refine And.intro (by first | omega | decide | exact Or.inl ⟨by omega, by omega⟩ | exact Or.inr ⟨by omega, by omega⟩ | (constructor <;> omega) | fail) ?_)
      refine take_use (many := 5) (by decide) fun v ns5 hv => ?_
      obtain ⟨mo, hm0, hm9, em⟩ : ∃ mo : Nat, 0 < mo ∧ mo ≤ 9 ∧ L2.atI [PyData.int 2, PyData.int 3, PyData.int 4, PyData.int 2, PyData.int 9] (v : Int) = some (.int (mo : Int)) := by
        have : v = 0 ∨ v = 1 ∨ v = 2 ∨ v = 3 ∨ v = 4 := by omega
        rcases this with rfl | rfl | rfl | rfl | rfl
        · exact ⟨2, by decide, by decide, rfl⟩
        · exact ⟨3, by decide, by decide, rfl⟩
        · exact ⟨4, by decide, by decide, rfl⟩
        · exact ⟨2, by decide, by decide, rfl⟩
        · exact ⟨9, by decide, by decide, rfl⟩
      (first | simp_all_arith [em] | skip)
      refine keysOf_use hf0 hf8 hm0 (by omega) fun ys ns6 hy hyl => ?_
      (first | simp_arith [onSome_some] | skip)
      repeat (with_reducible refine And.intro (by first | omega | decide | exact Or.inl ⟨by omega, by omega⟩ | exact Or.inr ⟨by omega, by omega⟩ | (constructor <;> omega) | fail) ?_)
      refine hN _ ⟨[some (.r 0), some (.d (.int 8)), some (.d (.int 4)), some (.d (.int (few : Int))), some (.r 1), none, none, none], [.lst (ns6.map .int), .lst ((rs ++ [((srt ks, ys) : Room')]).map roomD)]⟩ (wk_of [] (by simp [SubS, ltO, AVal.lt]) (by simp [roomD, ksD]) rfl (by simp)) ⟨rs ++ [(srt ks, ys)], ns6, hrs.snoc ⟨hk.srt, hy, ?_, ?_, srt_srt _⟩ ?_, by simp [hl], rfl⟩
      · show 1 ≤ (srt ks).length; rw [(srt_perm _).length_eq]; omega
      · show (srt ks).length ≤ 4; rw [(srt_perm _).length_eq]; omega
      · show ys.length ≤ 240; omega
  · rintro s' ⟨rs, ns', hrs, hl, rfl⟩
    rw [List.length_range] at hl
    (first | simp_arith [onSome_some] | skip)
    repeat (with_reducible refine And.intro (by first | omega | decide | exact Or.inl ⟨by omega, by omega⟩ | exact Or.inr ⟨by omega, by omega⟩ | (constructor <;> omega) | fail) ?_)
    refine take_use (many := 4) (by decide) fun v ns5 hv => ?_
    obtain ⟨mo, hm0, hm9, em⟩ : ∃ mo : Nat, 0 < mo ∧ mo ≤ 13 ∧ L2.atI [PyData.int 5, PyData.int 5, PyData.int 5, PyData.int 13] (v : Int) = some (.int (mo : Int)) := by
      have : v = 0 ∨ v = 1 ∨ v = 2 ∨ v = 3 := by omega
      rcases this with rfl | rfl | rfl | rfl
      · exact ⟨5, by decide, by decide, rfl⟩
      · exact ⟨5, by decide, by decide, rfl⟩
      · exact ⟨5, by decide, by decide, rfl⟩
      · exact ⟨13, by decide, by decide, rfl⟩
    (first | simp_all_arith [em] | skip)
    refine keysOf_use hf0 hf8 hm0 (by omega) fun ys ns6 hy hyl => ?_
    (first | simp_arith [onSome_some] | skip)
    repeat (with_reducible refine And.intro (by first | omega | decide | exact Or.inl ⟨by omega, by omega⟩ | exact Or.inr ⟨by omega, by omega⟩ | (constructor <;> omega) | fail) ?_)
    exact q (ys, rs) ns6 hy (by show ys.length ≤ 13; omega) hrs (by show rs.length ≤ 8; omega)
theorem sorted_use {h : House} {P : RV → List Cell → Prop} (q : P (.f (houseD (sortH h))) []) : TT_law_sorted [.d (houseD h)] [] P := by
  have szl : 10000 < sizeLine := by decide
  (first | simp_arith [TT_law_sorted, tt_law_sorted, srtD_strs] | skip)
  refine lcW_map trivial roomD (fun _ => true) (fun r => roomD (r.1, srt r.2)) (fun r hr R1 R2 h1 h2 => ?_) ?_
  · (first | simp_arith [srtD_strs] | skip)
    repeat (with_reducible refine And.intro (by first | omega | decide | exact Or.inl ⟨by omega, by omega⟩ | exact Or.inr ⟨by omega, by omega⟩ | (constructor <;> omega) | fail) ?_)
    exact h1 rfl
  have ef : (h.2.filter fun _ => true).map (fun r : Room' => PyData.tuple [.list (r.1.map PyData.str), .list ((srt r.2).map PyData.str)]) = (sortH h).2.map roomD := by
    rw [List.filter_eq_self.mpr fun _ _ => rfl]
    unfold sortH
    rw [List.map_map]
    rfl
  have eh : PyData.tuple [.list ((srt h.1).map PyData.str), .list ((sortH h).2.map roomD)] = houseD (sortH h) := rfl
  (first | simp_arith [List.nil_append, ef] | skip)
  repeat (with_reducible refine And.intro (by first | omega | decide | exact Or.inl ⟨by omega, by omega⟩ | exact Or.inr ⟨by omega, by omega⟩ | (constructor <;> omega) | fail) ?_)
  first
    | exact q
    | (rw [ef]; exact q)
theorem shuffled_use {xs : List Str} {ns : List Int} {P : RV → List Cell → Prop} (hl : xs.length ≤ 1000) (q : ∀ (ys : List Str) (ns' : List Int), ys.Perm xs → P (.n (.lst (ys.map .str))) [.lst (ns'.map .int)]) : TT_law_shuffled [.r 0, .d (ksD xs)] [.lst (ns.map .int)] P := by
  have szl : 10000 < sizeLine := by decide
  (first | simp_arith [TT_law_shuffled, tt_law_shuffled, ksD] | skip)
  repeat (with_reducible refine And.intro (by first | omega | decide | exact Or.inl ⟨by omega, by omega⟩ | exact Or.inr ⟨by omega, by omega⟩ | (constructor <;> omega) | fail) ?_)
  rw [intsD_natE]
  refine lcW_inv (fun k : Nat => PyData.int (k : Int)) (List.range xs.length) (fun i acc cs => ∃ (ys left : List Str) (ns' : List Int), (ys ++ left).Perm xs ∧ ys.length = i ∧ acc = ys.map .str ∧ cs = [.lst (ns'.map .int), .lst (left.map .str)]) ⟨[], xs, ns, List.Perm.refl _, rfl, rfl, rfl⟩ (fun _ _ _ _ => trivial) ?_ ?_
  · rintro i x acc cs R1 R2 hx ⟨ys, left, ns', hp, hyl, rfl, rfl⟩ hR1 hR2
    have hi : i < xs.length := by have := (List.getElem?_eq_some_iff.mp hx).1; simpa using this
    have hlen := hp.length_eq
    rw [List.length_append] at hlen
    (first | simp_arith [onSome_some] | skip)
    refine take_use (by omega) fun r ns2 hr => ?_
    have hrl : r < left.length := by omega
    have em : (left.map PyData.str)[r]? = some (.str left[r]) := by rw [List.getElem?_map, List.getElem?_eq_getElem hrl]; rfl
    (first | simp_arith [Int.toNat_natCast, em] | skip)
    refine ⟨⟨by omega, by omega⟩, hR1 _ _ ⟨ys ++ [left[r]], left.eraseIdx r, ns2, ?_, by simp [hyl], by simp, by rw [← erase_mapS PyData.str left r]⟩⟩
    refine List.Perm.trans ?_ hp
    rw [List.append_assoc]
    exact List.Perm.append_left ys (perm_outM (List.getElem?_eq_getElem hrl)).symm
  · rintro acc cs ⟨ys, left, ns', hp, hyl, rfl, rfl⟩
    rw [List.length_range] at hyl
    have hlen := hp.length_eq
    rw [List.length_append] at hlen
    have he : left = [] := List.eq_nil_of_length_eq_zero (by omega)
    subst he
    rw [List.append_nil] at hp
    (first | simp_arith [onSome_some] | skip)
    exact q ys ns' hp

/-! part p_o52 -/
theorem pickK (L : List Str) (r : Nat) (hL : ∀ x ∈ L, isKind x = true) (hr : r < L.length) : ∃ x, L2.atI (L.map fun x => AVal.d (.str x)) (r : Int) = some (.d (.str x)) ∧ isKind x = true := by
  refine ⟨L[r], ?_, hL _ (List.getElem_mem hr)⟩
  rw [atI_natE, List.getElem?_map, List.getElem?_eq_getElem hr]
  rfl
theorem cutD_drop (ds : List PyData) (n : Nat) : cutD ds (some (n : Int)) none = ds.drop n := by
  unfold cutD
  rw [HT.sIx_nat, HT.sIx_none]
  by_cases h : n ≤ ds.length
  · rw [Nat.min_eq_left h]
    exact List.take_of_length_le (by rw [List.length_drop]; exact Nat.le_refl _)
  · rw [Nat.min_eq_right (by omega), List.drop_of_length_le (by omega : ds.length ≤ n), List.drop_of_length_le (Nat.le_refl _)]
    simp
theorem many_keys_use {ns : List Int} {P : RV → List Cell → Prop} (q : ∀ (ks : List Str) (ns' : List Int), Kds ks → ks.length ≤ 201 → P (.n (.lst (ks.map .str))) [.lst (ns'.map .int)]) : TT_law_many_keys [.r 0] [.lst (ns.map .int)] P := by
  have szl : 10000 < sizeLine := by decide
  (first | simp_arith! [TT_law_many_keys, tt_law_many_keys] | skip)
  refine take_use (many := 720720) (by decide) fun v ns1 hv => ?_
  (first | simp_arith [CDiv, CMul] | skip)
  repeat (with_reducible refine And.intro (by first | omega | decide | exact Or.inl ⟨by omega, by omega⟩ | exact Or.inr ⟨by omega, by omega⟩ | (constructor <;> omega) | fail) ?_)
  obtain ⟨r, er, hr⟩ := modN (v : Int) 184 (by decide)
  rw [er, show (17 : Int) + (r : Int) = ((17 + r : Nat) : Int) by omega]
  repeat (with_reducible refine And.intro (by first | omega | decide | exact Or.inl ⟨by omega, by omega⟩ | exact Or.inr ⟨by omega, by omega⟩ | (constructor <;> omega) | fail) ?_)
  rw [intsD_natE]
  refine lcW_inv (fun k : Nat => PyData.int (k : Int)) (List.range (17 + r)) (fun i acc cs => ∃ (ks : List Str), Kds ks ∧ ks.length = i ∧ acc = ks.map .str ∧ cs = [.lst (ns1.map .int)]) ⟨[], (fun _ h => nomatch h), rfl, rfl, rfl⟩ (fun _ _ _ _ => trivial) ?_ ?_
  · rintro i x acc cs R1 R2 hx ⟨ks, hk, hl, rfl, rfl⟩ hR1 hR2
    have hi : x < 17 + r := by have := List.mem_of_getElem? hx; simpa using this
    obtain ⟨r2, er2, hr2⟩ := modN ((v : Int) / 7 + (x : Int) * ((v : Int) % 97 + (x : Int))) 8 (by decide)
    obtain ⟨y, hy, hyk⟩ := pickK [("a" : Str), "b", "ab", "c", "zz", "abcd", "ba", "abce"] r2 (by decide +kernel) (by show r2 < 8; omega)
    simp only [List.map_cons, List.map_nil] at hy
    (first | simp_arith [CDiv, CMul, er2, hy] | skip)
    refine ⟨by decide, by decide, Or.inl ⟨by omega, by omega⟩, by decide, hR1 _ _ ⟨ks ++ [y], fun k hk' => ?_, by simp [hl], by simp, rfl⟩⟩
    rcases List.mem_append.mp hk' with z | z
    · exact hk k z
    · rw [List.mem_singleton] at z; subst z; exact hyk
  · rintro acc cs ⟨ks, hk, hl, rfl, rfl⟩
    rw [List.length_range] at hl
    (first | simp_arith [onSome_some] | skip)
    exact q ks ns1 hk (by omega)
theorem many_use {h : House} {ns : List Int} {P : RV → List Cell → Prop} (hk : Kds h.1) (h1 : h.1.length ≤ 13) (hr : Rms h.2) (h2 : h.2.length ≤ 8) (q : ∀ (g : House) (ns' : List Int), Kds g.1 → g.1.length ≤ 201 → Rms g.2 → g.2.length ≤ 8 → P (.f (houseD g)) [.lst (ns'.map .int)]) : TT_law_many [.r 0, .d (houseD h)] [.lst (ns.map .int)] P := by
  have szl : 10000 < sizeLine := by decide
  have ec : cutD (h.2.map roomD) none (some 6) = (h.2.take 6).map roomD := by
    rw [show (6 : Int) = ((6 : Nat) : Int) from rfl, cutD_take, List.map_take]
  have r6 : Rms (h.2.take 6) := ⟨fun r hx => hr.ok r (List.mem_of_mem_take hx), fun r hx => hr.k r (List.mem_of_mem_take hx)⟩
  have l6 : (h.2.take 6).length ≤ 6 := List.length_take_le ..
  (first | simp_arith! [TT_law_many, tt_law_many, ec] | skip)
  generalize h.2.take 6 = rs at r6 l6
  refine many_keys_use fun ks ns1 hks hkl => ?_
  (first | simp_arith! [onSome_some] | skip)
  refine take_use (by omega) fun v ns2 hv => ?_
  by_cases hvl : v = rs.length
  · have d1 : decide ((v : Int) = (rs.length : Int)) = true := decide_eq_true (by omega)
    (first | simp_arith [d1] | skip)
    exact ⟨by omega, q (ks, rs) ns2 hks hkl r6 (by show rs.length ≤ 8; omega)⟩
  · have d1 : decide ((v : Int) = (rs.length : Int)) = false := decide_eq_false (by omega)
    have hvl2 : v < rs.length := by omega
    obtain ⟨r, hrr⟩ : ∃ r, rs[v]? = some r := ⟨_, List.getElem?_eq_getElem hvl2⟩
    have hat : L2.atI rs (v : Int) = some r := by rw [atI_natE]; exact hrr
    have hgr := r6.ok r (List.mem_of_getElem? hrr)
    have e1 : cutD (rs.map roomD) none (some (v : Int)) = (rs.take v).map roomD := by rw [cutD_take, List.map_take]
    have e2 : cutD (rs.map roomD) (some ((v : Int) + 1)) none = (rs.drop (v + 1)).map roomD := by rw [show (v : Int) + 1 = ((v + 1 : Nat) : Int) by omega, cutD_drop, List.map_drop]
    have lt := List.length_take_le v rs
    have ld : (rs.drop (v + 1)).length ≤ rs.length := by rw [List.length_drop]; omega
    have em : (rs.take v).map roomD ++ [PyData.tuple [.list (r.1.map PyData.str), .list (ks.map PyData.str)]] ++ (rs.drop (v + 1)).map roomD = (rs.take v ++ [((r.1, ks) : Room')] ++ rs.drop (v + 1)).map roomD := by
      rw [List.map_append, List.map_append]
      rfl
    (first | simp_arith [d1, hat, e1, e2, List.length_append, List.length_map] | skip)
    repeat (with_reducible refine And.intro (by first | omega | decide | exact Or.inl ⟨by omega, by omega⟩ | exact Or.inr ⟨by omega, by omega⟩ | (constructor <;> omega) | fail) ?_)
    rw [em]
    refine q (h.1, rs.take v ++ [((r.1, ks) : Room')] ++ rs.drop (v + 1)) ns2 hk (by show h.1.length ≤ 201; omega) ⟨fun x hx => ?_, fun x hx => ?_⟩ ?_
    · rcases List.mem_append.mp hx with hx | hx
      · rcases List.mem_append.mp hx with hx | hx
        · exact r6.ok x (List.mem_of_mem_take hx)
        · rw [List.mem_singleton] at hx
          subst hx
          exact ⟨hgr.1, hks, hgr.2.2⟩
      · exact r6.ok x (List.mem_of_mem_drop hx)
    · rcases List.mem_append.mp hx with hx | hx
      · rcases List.mem_append.mp hx with hx | hx
        · exact r6.k x (List.mem_of_mem_take hx)
        · rw [List.mem_singleton] at hx
          subst hx
          show ks.length ≤ 240
          omega
      · exact r6.k x (List.mem_of_mem_drop hx)
    · show (rs.take v ++ [((r.1, ks) : Room')] ++ rs.drop (v + 1)).length ≤ 8
      rw [List.length_append, List.length_append]
      simp only [List.length_cons, List.length_nil, List.length_take, List.length_drop]
      omega
structure Rm2 (rs : List Room') : Prop where
  all : ∀ r ∈ rs, goodRoom r ∧ r.2.length ≤ 300
theorem Rm2.wh {ks : List Str} {rs : List Room'} (h : Rm2 rs) (hk : Kds ks) (h1 : ks.length ≤ 300) (h2 : rs.length ≤ 20) : Wh (ks, rs) :=
  ⟨⟨hk, fun r hr => (h.all r hr).1, by show ks.length ≤ _; omega, by show rs.length ≤ _; omega, fun r hr => by have := (h.all r hr).2; omega⟩, h1, h2, fun r hr => (h.all r hr).2⟩
theorem mem_setR {rs : List Room'} {n : Nat} {r x : Room'} (hx : x ∈ rs.set n r) : x = r ∨ x ∈ rs := by
  rcases List.mem_or_eq_of_mem_set hx with z | z
  · exact .inr z
  · exact .inl z
theorem Rm2.set {rs : List Room'} {n : Nat} {r : Room'} (h : Rm2 rs) (h1 : goodRoom r) (h2 : r.2.length ≤ 300) : Rm2 (rs.set n r) := ⟨fun x hx => by
  rcases mem_setR hx with rfl | hx
  · exact ⟨h1, h2⟩
  · exact h.all x hx⟩
theorem otherwise_use {h : House} {ns : List Int} {P : RV → List Cell → Prop} (hk : Kds h.1) (h1 : h.1.length ≤ 201) (hr : Rms h.2) (h2 : h.2.length ≤ 8) (q : ∀ (g : House) (ns' : List Int), Wh g → P (.f (houseD g)) [.lst (ns'.map .int)]) : TT_law_otherwise [.r 0, .d (houseD h)] [.lst (ns.map .int)] P := by
  have szl : 10000 < sizeLine := by decide
  (first | simp_arith! [TT_law_otherwise, tt_law_otherwise] | skip)
  refine shuffled_use (by omega) fun ks ns1 hp => ?_
  have hks : Kds ks := fun k hx => hk k (hp.mem_iff.mp hx)
  have hkl := hp.length_eq
  (first | simp_arith! [onSome_some] | skip)
  refine lcW_inv roomD h.2 (fun i acc cs => ∃ (rs : List Room') (ns' : List Int), (∀ r ∈ rs, goodRoom r ∧ r.2.length ≤ 240) ∧ rs.length = i ∧ acc = rs.map roomD ∧ cs = [.lst (ns'.map .int), .lst (ks.map .str)]) ⟨[], ns1, (fun _ h => nomatch h), rfl, rfl, rfl⟩ (fun _ _ _ _ => trivial) ?_ ?_
  · rintro i r acc cs R1 R2 hx ⟨rs, ns', hrs, hl, rfl, rfl⟩ hR1 hR2
    have hrm := List.mem_of_getElem? hx
    have hg := hr.ok r hrm
    have hgk := hr.k r hrm
    (first | simp_arith [onSome_some] | skip)
    refine shuffled_use (by omega) fun ys ns2 hys => ?_
    (first | simp_arith [onSome_some] | skip)
    repeat (with_reducible refine And.intro (by first | omega | decide | exact Or.inl ⟨by omega, by omega⟩ | exact Or.inr ⟨by omega, by omega⟩ | (constructor <;> omega) | fail) ?_)
    refine hR1 _ _ ⟨rs ++ [((r.1, ys) : Room')], ns2, fun x hx => ?_, by simp [hl], by simp [roomD, ksD], rfl⟩
    rcases List.mem_append.mp hx with z | z
    · exact hrs x z
    · rw [List.mem_singleton] at z
      subst z
      exact ⟨⟨hg.1, fun k hx => hg.2.1 k (hys.mem_iff.mp hx), hg.2.2⟩, by show ys.length ≤ 240; rw [hys.length_eq]; exact hgk⟩
  rintro acc cs ⟨rs, ns2, hrs, hl, rfl, rfl⟩
  have m2 : Rm2 rs := ⟨fun r hx => ⟨(hrs r hx).1, by have := (hrs r hx).2; omega⟩⟩
  (first | simp_arith! [onSome_some] | skip)
  refine take_use (many := 7) (by decide) fun way ns3 hw => ?_
  have hway : way = 0 ∨ way = 1 ∨ way = 2 ∨ way = 3 ∨ way = 4 ∨ way = 5 ∨ way = 6 := by omega
  have fin : ∀ (ks' : List Str) (rs' : List Room') (ns' : List Int), Kds ks' → ks'.length ≤ 300 → Rm2 rs' → rs'.length ≤ 20 → P (.f (.tuple [.list (ks'.map .str), .list (rs'.map roomD)])) [.lst (ns'.map .int)] := fun ks' rs' ns' a b c d => q (ks', rs') ns' (c.wh a b d)
  have em : ∀ y : Str, ks.map PyData.str ++ [PyData.str y] = (ks ++ [y]).map PyData.str := fun y => by rw [List.map_append]; rfl
  rcases hway with w0 | w0 | w0 | w0 | w0 | w0 | w0
  · have d1 : decide ((way : Int) = 1) = false := decide_eq_false (by omega)
    have d2 : decide ((way : Int) = 2) = false := decide_eq_false (by omega)
    have d3 : decide ((way : Int) = 3) = false := decide_eq_false (by omega)
    have d4 : decide ((way : Int) = 4) = false := decide_eq_false (by omega)
    have d5 : decide ((way : Int) = 5) = false := decide_eq_false (by omega)
    have d6 : decide ((way : Int) = 6) = false := decide_eq_false (by omega)
    have dl : decide ((way : Int) < 2) = true := decide_eq_true (by omega)
    have f0 := fin ks rs ns3 hks (by omega) m2 (by omega)
    (first | simp_arith [d1, d2, d3, d4, d5, d6, dl] | skip)
    cases hre : (rs.map roomD).isEmpty with
    | true =>
      (first | simp_arith [d1, d2, d3, d4, d5, d6, dl] | skip)
      exact ⟨by omega, by omega, f0⟩
    | false =>
      (first | simp_arith [d1, d2, d3, d4, d5, d6, dl] | skip)
      exact ⟨by omega, by omega, f0⟩
  · have d1 : decide ((way : Int) = 1) = true := decide_eq_true (by omega)
    have d2 : decide ((way : Int) = 2) = false := decide_eq_false (by omega)
    have d3 : decide ((way : Int) = 3) = false := decide_eq_false (by omega)
    have d4 : decide ((way : Int) = 4) = false := decide_eq_false (by omega)
    have d5 : decide ((way : Int) = 5) = false := decide_eq_false (by omega)
    have d6 : decide ((way : Int) = 6) = false := decide_eq_false (by omega)
    have dl : decide ((way : Int) < 2) = true := decide_eq_true (by omega)
    (first | simp_arith [d1, d2, d3, d4, d5, d6, dl] | skip)
    refine kindOf_use (few := 8) (by decide) (by decide) fun y ns4 hy => ?_
    have f0 := fin (ks ++ [y]) rs ns4 (fun k hk' => by
      rcases List.mem_append.mp hk' with z | z
      · exact hks k z
      · rw [List.mem_singleton] at z; subst z; exact hy) (by rw [List.length_append]; simp only [List.length_cons, List.length_nil]; omega) m2 (by omega)
    (first | simp_arith [d1, d2, d3, d4, d5, d6, dl, em] | skip)
    refine ⟨by omega, ?_⟩
    cases hre : (rs.map roomD).isEmpty with
    | true =>
      (first | simp_arith [d1, d2, d3, d4, d5, d6, dl] | skip)
      exact ⟨by omega, by omega, f0⟩
    | false =>
      (first | simp_arith [d1, d2, d3, d4, d5, d6, dl] | skip)
      exact ⟨by omega, by omega, f0⟩
  · have d1 : decide ((way : Int) = 1) = false := decide_eq_false (by omega)
    have d2 : decide ((way : Int) = 2) = true := decide_eq_true (by omega)
    have d3 : decide ((way : Int) = 3) = false := decide_eq_false (by omega)
    have d4 : decide ((way : Int) = 4) = false := decide_eq_false (by omega)
    have d5 : decide ((way : Int) = 5) = false := decide_eq_false (by omega)
    have d6 : decide ((way : Int) = 6) = false := decide_eq_false (by omega)
    have dl : decide ((way : Int) < 2) = false := decide_eq_false (by omega)
    (first | simp_arith [d1, d2, d3, d4, d5, d6, dl] | skip)
    cases hre : (rs.map roomD).isEmpty with
    | true =>
      (first | simp_arith [d1, d2, d3, d4, d5, d6, dl] | skip)
      exact ⟨by omega, by omega, fin ks rs ns3 hks (by omega) m2 (by omega)⟩
    | false =>
      have hpos : 0 < rs.length := by
        cases rs with
        | nil => cases hre
        | cons _ _ => simp
      (first | simp_arith [d1, d2, d3, d4, d5, d6, dl] | skip)
      refine take_use (by omega) fun at' ns4 hat => ?_
      have hal : at' < rs.length := by omega
      obtain ⟨r, hrr⟩ : ∃ r, rs[at']? = some r := ⟨_, List.getElem?_eq_getElem hal⟩
      have hati : L2.atI rs (at' : Int) = some r := by rw [atI_natE]; exact hrr
      have hgr := hrs r (List.mem_of_getElem? hrr)
      have hix : ixN rs.length (at' : Int) = some at' := by
        unfold ixN
        rw [if_pos (by omega), if_pos (by omega)]
        rfl
      (first | simp_arith [d1, d2, d3, d4, d5, d6, dl, hati, hix, List.length_map] | skip)
      refine kindOf_use (few := 8) (by decide) (by decide) fun y ns5 hy => ?_
      have e0 : (rs.map roomD).set at' (PyData.tuple [.list (r.1.map PyData.str), .list (r.2.map PyData.str ++ [PyData.str y])]) = (rs.set at' ((r.1, r.2 ++ [y]) : Room')).map roomD := by
        rw [List.map_set]
        congr 1
        show _ = PyData.tuple [.list (r.1.map PyData.str), .list ((r.2 ++ [y]).map PyData.str)]
        rw [List.map_append]
        rfl
      have f0 := fin ks (rs.set at' ((r.1, r.2 ++ [y]) : Room')) ns5 hks (by omega) (m2.set ⟨hgr.1.1, fun k hk' => by
        rcases List.mem_append.mp hk' with z | z
        · exact hgr.1.2.1 k z
        · rw [List.mem_singleton] at z; subst z; exact hy, hgr.1.2.2⟩ (by show (r.2 ++ [y]).length ≤ 300; rw [List.length_append]; simp only [List.length_cons, List.length_nil]; omega)) (by rw [List.length_set]; omega)
      (first | simp_arith [d1, d2, d3, d4, d5, d6, dl, hix, e0, List.length_map] | skip)
      repeat (with_reducible refine And.intro (by first | omega | decide | exact Or.inl ⟨by omega, by omega⟩ | exact Or.inr ⟨by omega, by omega⟩ | (constructor <;> omega) | fail) ?_)
      exact f0
  · have d1 : decide ((way : Int) = 1) = false := decide_eq_false (by omega)
    have d2 : decide ((way : Int) = 2) = false := decide_eq_false (by omega)
    have d3 : decide ((way : Int) = 3) = true := decide_eq_true (by omega)
    have d4 : decide ((way : Int) = 4) = false := decide_eq_false (by omega)
    have d5 : decide ((way : Int) = 5) = false := decide_eq_false (by omega)
    have d6 : decide ((way : Int) = 6) = false := decide_eq_false (by omega)
    have dl : decide ((way : Int) < 2) = false := decide_eq_false (by omega)
    (first | simp_arith [d1, d2, d3, d4, d5, d6, dl] | skip)
    cases hre : (rs.map roomD).isEmpty with
    | true =>
      (first | simp_arith [d1, d2, d3, d4, d5, d6, dl] | skip)
      exact ⟨by omega, by omega, fin ks rs ns3 hks (by omega) m2 (by omega)⟩
    | false =>
      have hpos : 0 < rs.length := by
        cases rs with
        | nil => cases hre
        | cons _ _ => simp
      (first | simp_arith [d1, d2, d3, d4, d5, d6, dl] | skip)
      refine take_use (by omega) fun at' ns4 hat => ?_
      have hal : at' < rs.length := by omega
      obtain ⟨r, hrr⟩ : ∃ r, rs[at']? = some r := ⟨_, List.getElem?_eq_getElem hal⟩
      have hati : L2.atI rs (at' : Int) = some r := by rw [atI_natE]; exact hrr
      have hgr := hrs r (List.mem_of_getElem? hrr)
      have hix : ixN rs.length (at' : Int) = some at' := by
        unfold ixN
        rw [if_pos (by omega), if_pos (by omega)]
        rfl
      (first | simp_arith [d1, d2, d3, d4, d5, d6, dl, hati, hix, List.length_map] | skip)
      have e1 : cutD (r.2.map PyData.str) (some 1) none = (r.2.drop 1).map PyData.str := by rw [show (1 : Int) = ((1 : Nat) : Int) from rfl, cutD_drop, List.map_drop]
      have e0 : (rs.map roomD).set at' (PyData.tuple [.list (r.1.map PyData.str), .list ((r.2.drop 1).map PyData.str)]) = (rs.set at' ((r.1, r.2.drop 1) : Room')).map roomD := by
        rw [List.map_set]
        rfl
      have f0 := fin ks (rs.set at' ((r.1, r.2.drop 1) : Room')) ns4 hks (by omega) (m2.set ⟨hgr.1.1, fun k hk' => hgr.1.2.1 k (List.mem_of_mem_drop hk'), hgr.1.2.2⟩ (by show (r.2.drop 1).length ≤ 300; rw [List.length_drop]; omega)) (by rw [List.length_set]; omega)
      rw [e1, e0]
      repeat (with_reducible refine And.intro (by first | omega | decide | exact Or.inl ⟨by omega, by omega⟩ | exact Or.inr ⟨by omega, by omega⟩ | (constructor <;> omega) | fail) ?_)
      exact f0
  · have d1 : decide ((way : Int) = 1) = false := decide_eq_false (by omega)
    have d2 : decide ((way : Int) = 2) = false := decide_eq_false (by omega)
    have d3 : decide ((way : Int) = 3) = false := decide_eq_false (by omega)
    have d4 : decide ((way : Int) = 4) = true := decide_eq_true (by omega)
    have d5 : decide ((way : Int) = 5) = false := decide_eq_false (by omega)
    have d6 : decide ((way : Int) = 6) = false := decide_eq_false (by omega)
    have dl : decide ((way : Int) < 2) = false := decide_eq_false (by omega)
    (first | simp_arith [d1, d2, d3, d4, d5, d6, dl] | skip)
    cases hre : (rs.map roomD).isEmpty with
    | true =>
      (first | simp_arith [d1, d2, d3, d4, d5, d6, dl] | skip)
      exact ⟨by omega, by omega, fin ks rs ns3 hks (by omega) m2 (by omega)⟩
    | false =>
      have hpos : 0 < rs.length := by
        cases rs with
        | nil => cases hre
        | cons _ _ => simp
      (first | simp_arith [d1, d2, d3, d4, d5, d6, dl] | skip)
      refine take_use (by omega) fun at' ns4 hat => ?_
      have hal : at' < rs.length := by omega
      obtain ⟨r, hrr⟩ : ∃ r, rs[at']? = some r := ⟨_, List.getElem?_eq_getElem hal⟩
      have hati : L2.atI rs (at' : Int) = some r := by rw [atI_natE]; exact hrr
      have hgr := hrs r (List.mem_of_getElem? hrr)
      have hix : ixN rs.length (at' : Int) = some at' := by
        unfold ixN
        rw [if_pos (by omega), if_pos (by omega)]
        rfl
      (first | simp_arith [d1, d2, d3, d4, d5, d6, dl, hati, hix, List.length_map] | skip)
      have eg : (rs.map roomD)[at']? = some (roomD r) := by rw [List.getElem?_map, hrr]; rfl
      have ee : (rs.map roomD).eraseIdx at' = (rs.eraseIdx at').map roomD := erase_mapS roomD rs at'
      have f0 := fin ks (rs.eraseIdx at') ns4 hks (by omega) ⟨fun x hx => m2.all x (List.mem_of_mem_eraseIdx hx)⟩ (by rw [List.length_eraseIdx_of_lt hal]; omega)
      rw [Int.toNat_natCast, eg, ee]
      simp only [onSome_some]
      exact ⟨⟨by omega, by omega⟩, by omega, by omega, f0⟩
  · have d1 : decide ((way : Int) = 1) = false := decide_eq_false (by omega)
    have d2 : decide ((way : Int) = 2) = false := decide_eq_false (by omega)
    have d3 : decide ((way : Int) = 3) = false := decide_eq_false (by omega)
    have d4 : decide ((way : Int) = 4) = false := decide_eq_false (by omega)
    have d5 : decide ((way : Int) = 5) = true := decide_eq_true (by omega)
    have d6 : decide ((way : Int) = 6) = false := decide_eq_false (by omega)
    have dl : decide ((way : Int) < 2) = false := decide_eq_false (by omega)
    (first | simp_arith [d1, d2, d3, d4, d5, d6, dl] | skip)
    cases hre : (rs.map roomD).isEmpty with
    | true =>
      (first | simp_arith [d1, d2, d3, d4, d5, d6, dl] | skip)
      exact ⟨by omega, by omega, fin ks rs ns3 hks (by omega) m2 (by omega)⟩
    | false =>
      have hpos : 0 < rs.length := by
        cases rs with
        | nil => cases hre
        | cons _ _ => simp
      (first | simp_arith [d1, d2, d3, d4, d5, d6, dl] | skip)
      refine take_use (by omega) fun at' ns4 hat => ?_
      have hal : at' < rs.length := by omega
      obtain ⟨r, hrr⟩ : ∃ r, rs[at']? = some r := ⟨_, List.getElem?_eq_getElem hal⟩
      have hati : L2.atI rs (at' : Int) = some r := by rw [atI_natE]; exact hrr
      have hgr := hrs r (List.mem_of_getElem? hrr)
      have hix : ixN rs.length (at' : Int) = some at' := by
        unfold ixN
        rw [if_pos (by omega), if_pos (by omega)]
        rfl
      (first | simp_arith [d1, d2, d3, d4, d5, d6, dl, hati, hix, List.length_map] | skip)
      obtain ⟨r0, hr0⟩ : ∃ r0, rs[0]? = some r0 := ⟨_, List.getElem?_eq_getElem hpos⟩
      have ha0 : L2.atI rs 0 = some r0 := by rw [show (0 : Int) = ((0 : Nat) : Int) from rfl, atI_natE]; exact hr0
      have hix0 : ixN rs.length 0 = some 0 := by
        unfold ixN
        rw [if_pos (by omega), if_pos (by omega)]
        rfl
      have hg0 := hrs r0 (List.mem_of_getElem? hr0)
      have e0 : ((rs.map roomD).set at' (roomD r0)).set 0 (PyData.tuple [.list (r.1.map PyData.str), .list (r.2.map PyData.str)]) = ((rs.set at' r0).set 0 r).map roomD := by
        rw [List.map_set, List.map_set]
        rfl
      have f0 := fin ks ((rs.set at' r0).set 0 r) ns4 hks (by omega) ((m2.set hg0.1 (by have := hg0.2; omega)).set hgr.1 (by have := hgr.2; omega)) (by rw [List.length_set, List.length_set]; omega)
      rw [ha0]
      simp only [Option.map_some, onSome_some, AVal.data?_d, List.length_set, List.length_map, hix0, e0]
      exact ⟨by omega, by omega, by omega, f0⟩
  · have d1 : decide ((way : Int) = 1) = false := decide_eq_false (by omega)
    have d2 : decide ((way : Int) = 2) = false := decide_eq_false (by omega)
    have d3 : decide ((way : Int) = 3) = false := decide_eq_false (by omega)
    have d4 : decide ((way : Int) = 4) = false := decide_eq_false (by omega)
    have d5 : decide ((way : Int) = 5) = false := decide_eq_false (by omega)
    have d6 : decide ((way : Int) = 6) = true := decide_eq_true (by omega)
    have dl : decide ((way : Int) < 2) = false := decide_eq_false (by omega)
    (first | simp_arith [d1, d2, d3, d4, d5, d6, dl] | skip)
    cases hre : (rs.map roomD).isEmpty with
    | true =>
      (first | simp_arith [d1, d2, d3, d4, d5, d6, dl] | skip)
      exact ⟨by omega, by omega, fin ks rs ns3 hks (by omega) m2 (by omega)⟩
    | false =>
      have hpos : 0 < rs.length := by
        cases rs with
        | nil => cases hre
        | cons _ _ => simp
      (first | simp_arith [d1, d2, d3, d4, d5, d6, dl] | skip)
      refine take_use (by omega) fun at' ns4 hat => ?_
      have hal : at' < rs.length := by omega
      obtain ⟨r, hrr⟩ : ∃ r, rs[at']? = some r := ⟨_, List.getElem?_eq_getElem hal⟩
      have hati : L2.atI rs (at' : Int) = some r := by rw [atI_natE]; exact hrr
      have hgr := hrs r (List.mem_of_getElem? hrr)
      have hix : ixN rs.length (at' : Int) = some at' := by
        unfold ixN
        rw [if_pos (by omega), if_pos (by omega)]
        rfl
      (first | simp_arith [d1, d2, d3, d4, d5, d6, dl, hati, hix, List.length_map] | skip)
      refine kindOf_use (few := 8) (by decide) (by decide) fun y ns5 hy => ?_
      have e1 : cutD (r.1.map PyData.str) (some 1) none = (r.1.drop 1).map PyData.str := by rw [show (1 : Int) = ((1 : Nat) : Int) from rfl, cutD_drop, List.map_drop]
      have e2 : srtD (PyData.str y :: (r.1.drop 1).map PyData.str) = some ((srt (y :: r.1.drop 1)).map PyData.str) := srtD_strs (y :: r.1.drop 1)
      have e0 : (rs.map roomD).set at' (PyData.tuple [.list ((srt (y :: r.1.drop 1)).map PyData.str), .list (r.2.map PyData.str)]) = (rs.set at' ((srt (y :: r.1.drop 1), r.2) : Room')).map roomD := by
        rw [List.map_set]
        rfl
      have hlen : (srt (y :: r.1.drop 1)).length = 1 + (r.1.length - 1) := by
        rw [(srt_perm _).length_eq, List.length_cons, List.length_drop]
        omega
      have g4 := hgr.1.2.2.2.1
      have f0 := fin ks (rs.set at' ((srt (y :: r.1.drop 1), r.2) : Room')) ns5 hks (by omega) (m2.set ⟨Kds.srt fun k hk' => by
        rcases List.mem_cons.mp hk' with z | z
        · subst z; exact hy
        · exact hgr.1.1 k (List.mem_of_mem_drop z), hgr.1.2.1, by show 1 ≤ (srt (y :: r.1.drop 1)).length; omega, by show (srt (y :: r.1.drop 1)).length ≤ 4; omega, srt_srt _⟩ (by have := hgr.2; show r.2.length ≤ 300; omega)) (by rw [List.length_set]; omega)
      (first | simp_arith [d1, d2, d3, d4, d5, d6, dl, hix, e1, e2, e0, List.length_map] | skip)
      repeat (with_reducible refine And.intro (by first | omega | decide | exact Or.inl ⟨by omega, by omega⟩ | exact Or.inr ⟨by omega, by omega⟩ | (constructor <;> omega) | fail) ?_)
      refine ⟨by rw [List.length_drop]; omega, ?_⟩
      repeat (with_reducible refine And.intro (by first | omega | decide | exact Or.inl ⟨by omega, by omega⟩ | exact Or.inr ⟨by omega, by omega⟩ | (constructor <;> omega) | fail) ?_)
      exact f0

/-! part p_cell -/
theorem cell_use {K : PySem.W.Frag} {ns : List Int} {k : Nat} {P : RV → List Cell → Prop} (q : ∀ c : Int, P (.f (.int c)) []) : TT_law_cell_at K [.s K ns, .d (.int (k : Int))] [] P := by
  (first | simp_arith [TT_law_cell_at, tt_law_cell_at] | skip)
  split
  · rename_i h
    have h := of_decide_eq_true h
    have e : ns[k]? = some (ns[k]'(by omega)) := List.getElem?_eq_getElem (by omega)
    refine ⟨_, rfl, rfl, _, rfl, (k : Int), rfl, ns[k]'(by omega), by rw [atI_natE]; exact e, ?_⟩
    (first | simp_arith [onSome_some] | skip)
    exact q _
  · exact q 0

/-! part p_law52 -/
theorem keysT_inj {a b : List Str} (ha : Kds a) (hb : Kds b) (e : keysT a = keysT b) : srt a = srt b := by
  have d1 := keysT_dash ha
  have d2 := keysT_dash hb
  rw [e, d2] at d1
  have hab : a = [] ↔ b = [] := by
    have := decide_eq_decide.mp d1
    exact this.symm
  by_cases z : a = []
  · rw [z, hab.mp z]
  · have zb : b ≠ [] := fun y => z (hab.mpr y)
    rw [← keysT_split ha z, e, keysT_split hb zb]
theorem roomT_inj {a b : Room'} (ha : goodRoom a) (hb : goodRoom b) (e : roomT a = roomT b) : ((a.1, srt a.2) : Room') = (b.1, srt b.2) := by
  have p1 := room_part (r := a) ha.1
  have p2 := room_part (r := b) hb.1
  rw [e, p2] at p1
  injection p1 with e1 e2
  injection e2 with _ e2
  have n1 : a.1 ≠ [] := fun z => by have := ha.2.2.1; rw [z] at this; simp at this
  have n2 : b.1 ≠ [] := fun z => by have := hb.2.2.1; rw [z] at this; simp at this
  have l1 := locks_split ha.1 n1
  have l2 := locks_split hb.1 n2
  rw [← e1, l2] at l1
  rw [l1, keysT_inj ha.2.1 hb.2.1 e2.symm]
theorem rooms_inj : ∀ {a b : List Room'}, (∀ r ∈ a, goodRoom r) → (∀ r ∈ b, goodRoom r) → a.map roomT = b.map roomT → (a.map fun r : Room' => ((r.1, srt r.2) : Room')) = b.map fun r : Room' => ((r.1, srt r.2) : Room')
  | [], [], _, _, _ => rfl
  | [], _ :: _, _, _, e => by simp at e
  | _ :: _, [], _, _, e => by simp at e
  | x :: a, y :: b, ha, hb, e => by
    rw [List.map_cons, List.map_cons] at e
    injection e with e1 e2
    rw [List.map_cons, List.map_cons, roomT_inj (ha x (List.mem_cons_self ..)) (hb y (List.mem_cons_self ..)) e1, rooms_inj (fun r hr => ha r (List.mem_cons_of_mem _ hr)) (fun r hr => hb r (List.mem_cons_of_mem _ hr)) e2]
theorem houseT_inj {a b : House} (ha : GoodHouse a) (hb : GoodHouse b) : decide (houseT a = houseT b) = decide (sortH a = sortH b) := by
  refine decide_eq_decide.mpr ⟨fun e => ?_, fun e => by rw [← houseT_sort a, e, houseT_sort]⟩
  have s1 := house_split ha
  have s2 := house_split hb
  rw [e, s2] at s1
  injection s1 with e1 e2
  exact Prod.ext (keysT_inj ha.keys hb.keys e1.symm) (rooms_inj ha.rooms hb.rooms e2.symm)
theorem one_wh {h : House} {r : Room'} (w : Wh h) (hr : r ∈ h.2) : Wh (h.1, [r]) :=
  ⟨⟨w.good.keys, fun x hx => by rw [List.mem_singleton] at hx; subst hx; exact w.good.rooms x hr, w.good.few, by show [r].length ≤ _; simp, fun x hx => by rw [List.mem_singleton] at hx; subst hx; exact w.good.each x hr⟩, w.b, by show [r].length ≤ 20; simp, fun x hx => by rw [List.mem_singleton] at hx; subst hx; exact w.k x hr⟩
theorem one_text (h : House) (r : Room') : houseT (h.1, [r]) = keysT h.1 ++ "\n" ++ roomT r := by
  unfold houseT
  rw [txt_join]
  rfl
theorem zip_rooms : ∀ rs : List Room', zip2D (rs.map roomD) ((rs.map roomT).map PyData.str) = rs.map fun r => .tuple [roomD r, .str (roomT r)]
  | [] => rfl
  | r :: rs => by
    have := zip_rooms rs
    unfold zip2D at this ⊢
    simp only [List.map_cons, List.zip_cons_cons, this]
/-- what is asked of one house and its writing -/
theorem law_plain {K : PySem.W.Frag} (ns : List Int) (hl : ns.length ≤ 63) : TT_law K [.s K ns] [] fun rv _ => rv = .f (.bool true) := by
  have szl : 100000 < sizeLine := by decide
  (first | simp_arith [TT_law, tt_law] | skip)
  obtain ⟨J, eJ, hJ⟩ := maxmin ns.length 8 (by decide)
  have eJ2 : max 1 (min (ns.length : Int) 8) = (J : Int) := by rw [Int.min_comm]; exact eJ
  rw [eJ2]
  refine ⟨by omega, by omega, ?_⟩
  rw [intsD_natE]
  refine forW_fun _ (List.range J) (fun _ => ⟨[some (.s K ns), none, none, none, none, none, none, none, none, none, none], []⟩) rfl ?_ ?_
  · intro i x N hx hN
    (first | simp_arith! [onSome_some] | skip)
    refine cell_use fun c => ?_
    (first | simp_arith! [onSome_some] | skip)
    refine deck_use (many := 520) (by decide) fun ms => ?_
    (first | simp_arith! [onSome_some] | skip)
    refine house_use fun h0 ms1 a1 a2 a3 a4 => ?_
    (first | simp_arith! [onSome_some] | skip)
    refine cutA (fun s => ∃ (h : House) (ms' : List Int), Kds h.1 ∧ h.1.length ≤ 201 ∧ Rms h.2 ∧ h.2.length ≤ 8 ∧ s = ⟨[some (.s K ns), some (.d (.int (x : Int))), some (.r 0), some (.d (houseD h)), none, none, none, none, none, none, none], [.lst (ms'.map .int)]⟩) (fun M hM => ?_) ?_
    · (first | simp_arith [onSome_some] | skip)
      refine take_use (many := 4) (by decide) fun v ms2 hv => ?_
      (first | simp_arith [onSome_some] | skip)
      split
      · refine many_use a1 a2 a3 a4 fun g ms3 b1 b2 b3 b4 => ?_
        (first | simp_arith [onSome_some] | skip)
        exact hM _ ⟨g, ms3, b1, b2, b3, b4, rfl⟩
      · exact hM _ ⟨h0, ms2, a1, by omega, a3, a4, rfl⟩
    · rintro s' ⟨h, ms2, b1, b2, b3, b4, rfl⟩
      (first | simp_arith! [onSome_some] | skip)
      refine otherwise_use b1 b2 b3 b4 fun g ms3 wg => ?_
      have wh : Wh h := b3.wh b1 (by omega) (by omega)
      (first | simp_arith! [onSome_some] | skip)
      refine show_house_use wh ?_
      (first | simp_arith! [onSome_some] | skip)
      refine show_house_use wg ?_
      (first | simp_arith! [onSome_some] | skip)
      have el := lay_house (sort_good wh.good)
      have eg := lay_house (sort_good wg.good)
      have eb : ∀ b : Bool, PyData.eqv (.bool b) (.bool b) = true := fun b => by cases b <;> rfl
      refine ⟨by omega, ?_⟩
      refine cutA (fun s => s = ⟨[some (.s K ns), some (.d (.int (x : Int))), some (.r 0), some (.d (houseD h)), some (.d (houseD g)), some (.d (.list [.str (houseT h), .str (houseT g)])), none, none, none, none, none], [.lst (ms3.map .int)]⟩) (fun M hM => ?_) ?_
      · (first | simp_arith [onSome_some] | skip)
        refine sorted_use ?_
        (first | simp_arith [onSome_some] | skip)
        refine sorted_use ?_
        have ehg : PyData.eqv (.tuple [.list ((sortH h).1.map PyData.str), .list ((sortH h).2.map roomD)]) (.tuple [.list ((sortH g).1.map PyData.str), .list ((sortH g).2.map roomD)]) = decide (sortH h = sortH g) := eqv_house _ _
        (first | simp_arith [ehg, houseT_inj wh.good wg.good, eb] | skip)
        refine ⟨eqOk_lay el eg, ?_⟩
        exact hM _ rfl
      · rintro s' rfl
        (first | simp_arith [onSome_some] | skip)
        repeat (with_reducible refine And.intro (by first | omega | decide | exact Or.inl ⟨by omega, by omega⟩ | exact Or.inr ⟨by omega, by omega⟩ | (constructor <;> omega) | fail) ?_)
        have e2 : [PyData.tuple [PyData.tuple [.list (h.1.map PyData.str), .list (h.2.map roomD)], .str (houseT h)], PyData.tuple [PyData.tuple [.list (g.1.map PyData.str), .list (g.2.map roomD)], .str (houseT g)]] = [h, g].map fun y : House => PyData.tuple [houseD y, .str (houseT y)] := rfl
        rw [e2]
        refine forW_map (fun y : House => PyData.tuple [houseD y, .str (houseT y)]) [h, g] (fun _ s => s = ⟨[some (.s K ns), some (.d (.int (x : Int))), some (.r 0), some (.d (houseD h)), some (.d (houseD g)), some (.d (.list [.str (houseT h), .str (houseT g)])), none, none, none, none, none], [.lst (ms3.map .int)]⟩) rfl ?_ ?_
        · rintro i1 y s' N1 hy rfl hN1
          have wy : Wh y := by
            have := List.mem_of_getElem? hy
            simp only [List.mem_cons, List.mem_nil_iff, or_false] at this
            rcases this with rfl | rfl
            · exact wh
            · exact wg
          have ey := lay_house (sort_good wy.good)
          have hyl := houseT_len wy
          have hsp := house_split wy.good
          have hc : ((Str.ofString "\n").length == 0) = false := rfl
          (first | simp_arith! [onSome_some] | skip)
          refine cutA (fun s => s = ⟨[some (.s K ns), some (.d (.int (x : Int))), some (.r 0), some (.d (houseD h)), some (.d (houseD g)), some (.d (.list [.str (houseT h), .str (houseT g)])), some (.d (houseD y)), some (.d (.str (houseT y))), none, none, none], [.lst (ms3.map .int)]⟩) (fun M hM => ?_) ?_
          · (first | simp_arith [onSome_some] | skip)
            refine read_use wy ?_
            (first | simp_arith [onSome_some] | skip)
            refine sorted_use ?_
            have elf : PyData.eqv (.tuple [.list ((sortH y).1.map PyData.str), .list ((sortH y).2.map roomD)]) (.tuple [.list ((sortH y).1.map PyData.str), .list ((sortH y).2.map roomD)]) = true := lay_self ey
            (first | simp_arith [elf] | skip)
            refine ⟨eqOk_lay ey ey, read_use wy ?_⟩
            (first | simp_arith [onSome_some] | skip)
            refine show_house_use (sort_wh wy) ?_
            (first | simp_arith [houseT_sort] | skip)
            exact hM _ rfl
          · rintro s' rfl
            have ecut : cutD (PyData.str (keysT y.1) :: (y.2.map roomT).map PyData.str) (some 1) none = (y.2.map roomT).map PyData.str := by
              rw [show (1 : Int) = ((1 : Nat) : Int) from rfl, cutD_drop]
              rfl
            (first | simp_arith! [splitN, hsp, hc, iterZ] | skip)
            rw [ecut, zip_rooms]
            refine ⟨by omega, ?_⟩
            refine forW_map (fun r => PyData.tuple [roomD r, .str (roomT r)]) y.2 (fun _ s => s = ⟨[some (.s K ns), some (.d (.int (x : Int))), some (.r 0), some (.d (houseD h)), some (.d (houseD g)), some (.d (.list [.str (houseT h), .str (houseT g)])), some (.d (houseD y)), some (.d (.str (houseT y))), some (.d (.list (PyData.str (keysT y.1) :: (y.2.map roomT).map PyData.str))), none, none], [.lst (ms3.map .int)]⟩) rfl ?_ ?_
            · rintro i2 r s' N2 hr2 rfl hN2
              have hrm := List.mem_of_getElem? hr2
              have w1 := one_wh wy hrm
              have h1 := roomT_len wy hrm
              have h2 := keysT_len wy.good.keys
              have h3 := wy.b
              have hn1 : (Str.ofString "\n").length = 1 := rfl
              have ot := one_text y r
              (first | simp_arith [onSome_some] | skip)
              repeat (with_reducible refine And.intro (by first | omega | decide | exact Or.inl ⟨by omega, by omega⟩ | exact Or.inr ⟨by omega, by omega⟩ | (constructor <;> omega) | fail) ?_)
              refine show_house_use (h := (y.1, [r])) w1 ?_
              (first | simp_arith [onSome_some] | skip)
              refine ⟨by rw [hn1]; omega, by rw [Str.length_append, hn1]; omega, iteE (decide_eq_true ot) (hN2 _ _ (wk_of [] ?_ rfl rfl (by simp)) rfl)⟩
              simp [SubS, ltO, AVal.lt, ksD, roomD, houseD]
            · rintro s' rfl
              refine hN1 _ _ (wk_of [] ?_ rfl rfl (by simp)) rfl
              simp [SubS, ltO, AVal.lt, ksD, roomD, houseD]
        · rintro s' rfl
          refine hN _ (wk_of [_] ?_ rfl rfl (by simp))
          simp [SubS, ltO, AVal.lt]
  · (first | simp_arith [onSome_some] | skip)

theorem ok_law {P : Program} {w : World} {K : PySem.W.Frag} {mg : Str → Option Value} {base : Heap} (T : Tx K mg) : FnOk P w K mg base CX0 7 T.f_law T.d_law ["script"] (spLaw K) := okLaw_A (kk_law T) law_plain
end Kr
namespace Kr
open PySem L2
theorem all_mk {l : PySem.W.OpenLaw} {w : World} {K : PySem.W.Frag} {h : Heap} {mg : Str → Option Value} {fa : Addr} (X : K.In h) (G : h.Ns mainGlobals mg) (hfa : mg "law" = some (.ref fa))
    {f_is_kind : Addr} {od0 an0 : Option Addr} {sl0 : Array (Option Value)} {oc0 kV0 dc0 pm0 cd0 ct0 : Value}
    {f_are_keys : Addr} {od1 an1 : Option Addr} {sl1 : Array (Option Value)} {oc1 kV1 dc1 pm1 cd1 ct1 : Value}
    {f_is_room : Addr} {od2 an2 : Option Addr} {sl2 : Array (Option Value)} {oc2 kV2 dc2 pm2 cd2 ct2 : Value}
    {f_is_house : Addr} {od3 an3 : Option Addr} {sl3 : Array (Option Value)} {oc3 kV3 dc3 pm3 cd3 ct3 : Value}
    {f_show_keys : Addr} {od4 an4 : Option Addr} {sl4 : Array (Option Value)} {oc4 kV4 dc4 pm4 cd4 ct4 : Value}
    {f_show_room : Addr} {od5 an5 : Option Addr} {sl5 : Array (Option Value)} {oc5 kV5 dc5 pm5 cd5 ct5 : Value}
    {f_show_house : Addr} {od6 an6 : Option Addr} {sl6 : Array (Option Value)} {oc6 kV6 dc6 pm6 cd6 ct6 : Value}
    {f_keys_from : Addr} {od7 an7 : Option Addr} {sl7 : Array (Option Value)} {oc7 kV7 dc7 pm7 cd7 ct7 : Value}
    {f_room_from : Addr} {od8 an8 : Option Addr} {sl8 : Array (Option Value)} {oc8 kV8 dc8 pm8 cd8 ct8 : Value}
    {f_read_house : Addr} {od9 an9 : Option Addr} {sl9 : Array (Option Value)} {oc9 kV9 dc9 pm9 cd9 ct9 : Value}
    {f_law_cell_at : Addr} {od10 an10 : Option Addr} {sl10 : Array (Option Value)} {oc10 kV10 dc10 pm10 cd10 ct10 : Value}
    {f_law_numbers : Addr} {od11 an11 : Option Addr} {sl11 : Array (Option Value)} {oc11 kV11 dc11 pm11 cd11 ct11 : Value}
    {f_law_deck : Addr} {od12 an12 : Option Addr} {sl12 : Array (Option Value)} {oc12 kV12 dc12 pm12 cd12 ct12 : Value}
    {f_law_take : Addr} {od13 an13 : Option Addr} {sl13 : Array (Option Value)} {oc13 kV13 dc13 pm13 cd13 ct13 : Value}
    {f_law_kind : Addr} {od14 an14 : Option Addr} {sl14 : Array (Option Value)} {oc14 kV14 dc14 pm14 cd14 ct14 : Value}
    {f_law_keys : Addr} {od15 an15 : Option Addr} {sl15 : Array (Option Value)} {oc15 kV15 dc15 pm15 cd15 ct15 : Value}
    {f_law_house : Addr} {od16 an16 : Option Addr} {sl16 : Array (Option Value)} {oc16 kV16 dc16 pm16 cd16 ct16 : Value}
    {f_law_sorted : Addr} {od17 an17 : Option Addr} {sl17 : Array (Option Value)} {oc17 kV17 dc17 pm17 cd17 ct17 : Value}
    {f_law_shuffled : Addr} {od18 an18 : Option Addr} {sl18 : Array (Option Value)} {oc18 kV18 dc18 pm18 cd18 ct18 : Value}
    {f_law_otherwise : Addr} {od19 an19 : Option Addr} {sl19 : Array (Option Value)} {oc19 kV19 dc19 pm19 cd19 ct19 : Value}
    {f_law_many_keys : Addr} {od20 an20 : Option Addr} {sl20 : Array (Option Value)} {oc20 kV20 dc20 pm20 cd20 ct20 : Value}
    {f_law_many : Addr} {od21 an21 : Option Addr} {sl21 : Array (Option Value)} {oc21 kV21 dc21 pm21 cd21 ct21 : Value}
    {f_law : Addr} {od22 an22 : Option Addr} {sl22 : Array (Option Value)} {oc22 kV22 dc22 pm22 cd22 ct22 : Value}
    {t_LETTERS : Tok}
    {t_LONGEST_KIND : Tok}
    {t_MOST_LOCKS : Tok}
    (a_is_kind : PySem.W.nsIn K mainGlobals "is_kind" = some (some (.ref f_is_kind)))
    (l_is_kind : K.lookup f_is_kind = some ⟨oc0, od0, .func (PySem.W.fnOf "is_kind" "is_kind" (defArgs s_is_kind) (defBody s_is_kind) (defScope s_is_kind) .none kV0 dc0 pm0 an0 cd0 ct0), sl0⟩)
    (e_is_kind : PySem.W.codeIn K cd0 "is_kind" = true) (k_is_kind : PySem.W.keepIn K (.ref f_is_kind) = true)
    (a_are_keys : PySem.W.nsIn K mainGlobals "are_keys" = some (some (.ref f_are_keys)))
    (l_are_keys : K.lookup f_are_keys = some ⟨oc1, od1, .func (PySem.W.fnOf "are_keys" "are_keys" (defArgs s_are_keys) (defBody s_are_keys) (defScope s_are_keys) .none kV1 dc1 pm1 an1 cd1 ct1), sl1⟩)
    (e_are_keys : PySem.W.codeIn K cd1 "are_keys" = true) (k_are_keys : PySem.W.keepIn K (.ref f_are_keys) = true)
    (a_is_room : PySem.W.nsIn K mainGlobals "is_room" = some (some (.ref f_is_room)))
    (l_is_room : K.lookup f_is_room = some ⟨oc2, od2, .func (PySem.W.fnOf "is_room" "is_room" (defArgs s_is_room) (defBody s_is_room) (defScope s_is_room) .none kV2 dc2 pm2 an2 cd2 ct2), sl2⟩)
    (e_is_room : PySem.W.codeIn K cd2 "is_room" = true) (k_is_room : PySem.W.keepIn K (.ref f_is_room) = true)
    (a_is_house : PySem.W.nsIn K mainGlobals "is_house" = some (some (.ref f_is_house)))
    (l_is_house : K.lookup f_is_house = some ⟨oc3, od3, .func (PySem.W.fnOf "is_house" "is_house" (defArgs s_is_house) (defBody s_is_house) (defScope s_is_house) .none kV3 dc3 pm3 an3 cd3 ct3), sl3⟩)
    (e_is_house : PySem.W.codeIn K cd3 "is_house" = true) (k_is_house : PySem.W.keepIn K (.ref f_is_house) = true)
    (a_show_keys : PySem.W.nsIn K mainGlobals "show_keys" = some (some (.ref f_show_keys)))
    (l_show_keys : K.lookup f_show_keys = some ⟨oc4, od4, .func (PySem.W.fnOf "show_keys" "show_keys" (defArgs s_show_keys) (defBody s_show_keys) (defScope s_show_keys) .none kV4 dc4 pm4 an4 cd4 ct4), sl4⟩)
    (e_show_keys : PySem.W.codeIn K cd4 "show_keys" = true) (k_show_keys : PySem.W.keepIn K (.ref f_show_keys) = true)
    (a_show_room : PySem.W.nsIn K mainGlobals "show_room" = some (some (.ref f_show_room)))
    (l_show_room : K.lookup f_show_room = some ⟨oc5, od5, .func (PySem.W.fnOf "show_room" "show_room" (defArgs s_show_room) (defBody s_show_room) (defScope s_show_room) .none kV5 dc5 pm5 an5 cd5 ct5), sl5⟩)
    (e_show_room : PySem.W.codeIn K cd5 "show_room" = true) (k_show_room : PySem.W.keepIn K (.ref f_show_room) = true)
    (a_show_house : PySem.W.nsIn K mainGlobals "show_house" = some (some (.ref f_show_house)))
    (l_show_house : K.lookup f_show_house = some ⟨oc6, od6, .func (PySem.W.fnOf "show_house" "show_house" (defArgs s_show_house) (defBody s_show_house) (defScope s_show_house) .none kV6 dc6 pm6 an6 cd6 ct6), sl6⟩)
    (e_show_house : PySem.W.codeIn K cd6 "show_house" = true) (k_show_house : PySem.W.keepIn K (.ref f_show_house) = true)
    (a_keys_from : PySem.W.nsIn K mainGlobals "keys_from" = some (some (.ref f_keys_from)))
    (l_keys_from : K.lookup f_keys_from = some ⟨oc7, od7, .func (PySem.W.fnOf "keys_from" "keys_from" (defArgs s_keys_from) (defBody s_keys_from) (defScope s_keys_from) .none kV7 dc7 pm7 an7 cd7 ct7), sl7⟩)
    (e_keys_from : PySem.W.codeIn K cd7 "keys_from" = true) (k_keys_from : PySem.W.keepIn K (.ref f_keys_from) = true)
    (a_room_from : PySem.W.nsIn K mainGlobals "room_from" = some (some (.ref f_room_from)))
    (l_room_from : K.lookup f_room_from = some ⟨oc8, od8, .func (PySem.W.fnOf "room_from" "room_from" (defArgs s_room_from) (defBody s_room_from) (defScope s_room_from) .none kV8 dc8 pm8 an8 cd8 ct8), sl8⟩)
    (e_room_from : PySem.W.codeIn K cd8 "room_from" = true) (k_room_from : PySem.W.keepIn K (.ref f_room_from) = true)
    (a_read_house : PySem.W.nsIn K mainGlobals "read_house" = some (some (.ref f_read_house)))
    (l_read_house : K.lookup f_read_house = some ⟨oc9, od9, .func (PySem.W.fnOf "read_house" "read_house" (defArgs s_read_house) (defBody s_read_house) (defScope s_read_house) .none kV9 dc9 pm9 an9 cd9 ct9), sl9⟩)
    (e_read_house : PySem.W.codeIn K cd9 "read_house" = true) (k_read_house : PySem.W.keepIn K (.ref f_read_house) = true)
    (a_law_cell_at : PySem.W.nsIn K mainGlobals "_law_cell_at" = some (some (.ref f_law_cell_at)))
    (l_law_cell_at : K.lookup f_law_cell_at = some ⟨oc10, od10, .func (PySem.W.fnOf "_law_cell_at" "_law_cell_at" (defArgs s_law_cell_at) (defBody s_law_cell_at) (defScope s_law_cell_at) .none kV10 dc10 pm10 an10 cd10 ct10), sl10⟩)
    (e_law_cell_at : PySem.W.codeIn K cd10 "_law_cell_at" = true) (k_law_cell_at : PySem.W.keepIn K (.ref f_law_cell_at) = true)
    (a_law_numbers : PySem.W.nsIn K mainGlobals "_law_numbers" = some (some (.ref f_law_numbers)))
    (l_law_numbers : K.lookup f_law_numbers = some ⟨oc11, od11, .func (PySem.W.fnOf "_law_numbers" "_law_numbers" (defArgs s_law_numbers) (defBody s_law_numbers) (defScope s_law_numbers) .none kV11 dc11 pm11 an11 cd11 ct11), sl11⟩)
    (e_law_numbers : PySem.W.codeIn K cd11 "_law_numbers" = true) (k_law_numbers : PySem.W.keepIn K (.ref f_law_numbers) = true)
    (a_law_deck : PySem.W.nsIn K mainGlobals "_law_deck" = some (some (.ref f_law_deck)))
    (l_law_deck : K.lookup f_law_deck = some ⟨oc12, od12, .func (PySem.W.fnOf "_law_deck" "_law_deck" (defArgs s_law_deck) (defBody s_law_deck) (defScope s_law_deck) .none kV12 dc12 pm12 an12 cd12 ct12), sl12⟩)
    (e_law_deck : PySem.W.codeIn K cd12 "_law_deck" = true) (k_law_deck : PySem.W.keepIn K (.ref f_law_deck) = true)
    (a_law_take : PySem.W.nsIn K mainGlobals "_law_take" = some (some (.ref f_law_take)))
    (l_law_take : K.lookup f_law_take = some ⟨oc13, od13, .func (PySem.W.fnOf "_law_take" "_law_take" (defArgs s_law_take) (defBody s_law_take) (defScope s_law_take) .none kV13 dc13 pm13 an13 cd13 ct13), sl13⟩)
    (e_law_take : PySem.W.codeIn K cd13 "_law_take" = true) (k_law_take : PySem.W.keepIn K (.ref f_law_take) = true)
    (a_law_kind : PySem.W.nsIn K mainGlobals "_law_kind" = some (some (.ref f_law_kind)))
    (l_law_kind : K.lookup f_law_kind = some ⟨oc14, od14, .func (PySem.W.fnOf "_law_kind" "_law_kind" (defArgs s_law_kind) (defBody s_law_kind) (defScope s_law_kind) .none kV14 dc14 pm14 an14 cd14 ct14), sl14⟩)
    (e_law_kind : PySem.W.codeIn K cd14 "_law_kind" = true) (k_law_kind : PySem.W.keepIn K (.ref f_law_kind) = true)
    (a_law_keys : PySem.W.nsIn K mainGlobals "_law_keys" = some (some (.ref f_law_keys)))
    (l_law_keys : K.lookup f_law_keys = some ⟨oc15, od15, .func (PySem.W.fnOf "_law_keys" "_law_keys" (defArgs s_law_keys) (defBody s_law_keys) (defScope s_law_keys) .none kV15 dc15 pm15 an15 cd15 ct15), sl15⟩)
    (e_law_keys : PySem.W.codeIn K cd15 "_law_keys" = true) (k_law_keys : PySem.W.keepIn K (.ref f_law_keys) = true)
    (a_law_house : PySem.W.nsIn K mainGlobals "_law_house" = some (some (.ref f_law_house)))
    (l_law_house : K.lookup f_law_house = some ⟨oc16, od16, .func (PySem.W.fnOf "_law_house" "_law_house" (defArgs s_law_house) (defBody s_law_house) (defScope s_law_house) .none kV16 dc16 pm16 an16 cd16 ct16), sl16⟩)
    (e_law_house : PySem.W.codeIn K cd16 "_law_house" = true) (k_law_house : PySem.W.keepIn K (.ref f_law_house) = true)
    (a_law_sorted : PySem.W.nsIn K mainGlobals "_law_sorted" = some (some (.ref f_law_sorted)))
    (l_law_sorted : K.lookup f_law_sorted = some ⟨oc17, od17, .func (PySem.W.fnOf "_law_sorted" "_law_sorted" (defArgs s_law_sorted) (defBody s_law_sorted) (defScope s_law_sorted) .none kV17 dc17 pm17 an17 cd17 ct17), sl17⟩)
    (e_law_sorted : PySem.W.codeIn K cd17 "_law_sorted" = true) (k_law_sorted : PySem.W.keepIn K (.ref f_law_sorted) = true)
    (a_law_shuffled : PySem.W.nsIn K mainGlobals "_law_shuffled" = some (some (.ref f_law_shuffled)))
    (l_law_shuffled : K.lookup f_law_shuffled = some ⟨oc18, od18, .func (PySem.W.fnOf "_law_shuffled" "_law_shuffled" (defArgs s_law_shuffled) (defBody s_law_shuffled) (defScope s_law_shuffled) .none kV18 dc18 pm18 an18 cd18 ct18), sl18⟩)
    (e_law_shuffled : PySem.W.codeIn K cd18 "_law_shuffled" = true) (k_law_shuffled : PySem.W.keepIn K (.ref f_law_shuffled) = true)
    (a_law_otherwise : PySem.W.nsIn K mainGlobals "_law_otherwise" = some (some (.ref f_law_otherwise)))
    (l_law_otherwise : K.lookup f_law_otherwise = some ⟨oc19, od19, .func (PySem.W.fnOf "_law_otherwise" "_law_otherwise" (defArgs s_law_otherwise) (defBody s_law_otherwise) (defScope s_law_otherwise) .none kV19 dc19 pm19 an19 cd19 ct19), sl19⟩)
    (e_law_otherwise : PySem.W.codeIn K cd19 "_law_otherwise" = true) (k_law_otherwise : PySem.W.keepIn K (.ref f_law_otherwise) = true)
    (a_law_many_keys : PySem.W.nsIn K mainGlobals "_law_many_keys" = some (some (.ref f_law_many_keys)))
    (l_law_many_keys : K.lookup f_law_many_keys = some ⟨oc20, od20, .func (PySem.W.fnOf "_law_many_keys" "_law_many_keys" (defArgs s_law_many_keys) (defBody s_law_many_keys) (defScope s_law_many_keys) .none kV20 dc20 pm20 an20 cd20 ct20), sl20⟩)
    (e_law_many_keys : PySem.W.codeIn K cd20 "_law_many_keys" = true) (k_law_many_keys : PySem.W.keepIn K (.ref f_law_many_keys) = true)
    (a_law_many : PySem.W.nsIn K mainGlobals "_law_many" = some (some (.ref f_law_many)))
    (l_law_many : K.lookup f_law_many = some ⟨oc21, od21, .func (PySem.W.fnOf "_law_many" "_law_many" (defArgs s_law_many) (defBody s_law_many) (defScope s_law_many) .none kV21 dc21 pm21 an21 cd21 ct21), sl21⟩)
    (e_law_many : PySem.W.codeIn K cd21 "_law_many" = true) (k_law_many : PySem.W.keepIn K (.ref f_law_many) = true)
    (a_law : PySem.W.nsIn K mainGlobals "law" = some (some (.ref f_law)))
    (l_law : K.lookup f_law = some ⟨oc22, od22, .func (PySem.W.fnOf "law" "law" (defArgs s_law) (defBody s_law) (defScope s_law) .none kV22 dc22 pm22 an22 cd22 ct22), sl22⟩)
    (e_law : PySem.W.codeIn K cd22 "law" = true) (k_law : PySem.W.keepIn K (.ref f_law) = true)
    (z_isinstance : PySem.W.nsIn K mainGlobals "isinstance" = some none)
    (z_str : PySem.W.nsIn K mainGlobals "str" = some none)
    (z_len : PySem.W.nsIn K mainGlobals "len" = some none)
    (z_list : PySem.W.nsIn K mainGlobals "list" = some none)
    (z_tuple : PySem.W.nsIn K mainGlobals "tuple" = some none)
    (z_sorted : PySem.W.nsIn K mainGlobals "sorted" = some none)
    (z_range : PySem.W.nsIn K mainGlobals "range" = some none)
    (z_int : PySem.W.nsIn K mainGlobals "int" = some none)
    (z_max : PySem.W.nsIn K mainGlobals "max" = some none)
    (z_min : PySem.W.nsIn K mainGlobals "min" = some none)
    (z_zip : PySem.W.nsIn K mainGlobals "zip" = some none)
    (n_LETTERS : PySem.W.nsIn K mainGlobals "LETTERS" = some (some (.str "abcdefghijklmnopqrstuvwxyz" t_LETTERS)))
    (n_LONGEST_KIND : PySem.W.nsIn K mainGlobals "LONGEST_KIND" = some (some (.int 4 t_LONGEST_KIND)))
    (n_MOST_LOCKS : PySem.W.nsIn K mainGlobals "MOST_LOCKS" = some (some (.int 4 t_MOST_LOCKS)))
    : ∃ fd : FuncData, (∀ (s : Shared) (v : Value), BindsTo s fd ⟨[v], []⟩ [("script", v)]) ∧ ∀ base : Heap, K.In base → base.Ns mainGlobals mg → FnOk l.prog w K mg base CX0 7 fa fd ["script"] (spLaw K) := by
  have e := hfa.symm.trans (PySem.W.mg_of X G a_law)
  cases e
  have F_is_kind := fun_mk (st := s_is_kind) l_is_kind e_is_kind k_is_kind
  have b_is_kind := F_is_kind.binds (ps := ["thing"]) fun _ _ _ _ _ _ us hl => match us, hl with | [_], _ => rfl
  have F_are_keys := fun_mk (st := s_are_keys) l_are_keys e_are_keys k_are_keys
  have b_are_keys := F_are_keys.binds (ps := ["thing"]) fun _ _ _ _ _ _ us hl => match us, hl with | [_], _ => rfl
  have F_is_room := fun_mk (st := s_is_room) l_is_room e_is_room k_is_room
  have b_is_room := F_is_room.binds (ps := ["thing"]) fun _ _ _ _ _ _ us hl => match us, hl with | [_], _ => rfl
  have F_is_house := fun_mk (st := s_is_house) l_is_house e_is_house k_is_house
  have b_is_house := F_is_house.binds (ps := ["thing"]) fun _ _ _ _ _ _ us hl => match us, hl with | [_], _ => rfl
  have F_show_keys := fun_mk (st := s_show_keys) l_show_keys e_show_keys k_show_keys
  have b_show_keys := F_show_keys.binds (ps := ["keys"]) fun _ _ _ _ _ _ us hl => match us, hl with | [_], _ => rfl
  have F_show_room := fun_mk (st := s_show_room) l_show_room e_show_room k_show_room
  have b_show_room := F_show_room.binds (ps := ["room"]) fun _ _ _ _ _ _ us hl => match us, hl with | [_], _ => rfl
  have F_show_house := fun_mk (st := s_show_house) l_show_house e_show_house k_show_house
  have b_show_house := F_show_house.binds (ps := ["house"]) fun _ _ _ _ _ _ us hl => match us, hl with | [_], _ => rfl
  have F_keys_from := fun_mk (st := s_keys_from) l_keys_from e_keys_from k_keys_from
  have b_keys_from := F_keys_from.binds (ps := ["text"]) fun _ _ _ _ _ _ us hl => match us, hl with | [_], _ => rfl
  have F_room_from := fun_mk (st := s_room_from) l_room_from e_room_from k_room_from
  have b_room_from := F_room_from.binds (ps := ["line"]) fun _ _ _ _ _ _ us hl => match us, hl with | [_], _ => rfl
  have F_read_house := fun_mk (st := s_read_house) l_read_house e_read_house k_read_house
  have b_read_house := F_read_house.binds (ps := ["text"]) fun _ _ _ _ _ _ us hl => match us, hl with | [_], _ => rfl
  have F_law_cell_at := fun_mk (st := s_law_cell_at) l_law_cell_at e_law_cell_at k_law_cell_at
  have b_law_cell_at := F_law_cell_at.binds (ps := ["script", "k"]) fun _ _ _ _ _ _ us hl => match us, hl with | [_, _], _ => rfl
  have F_law_numbers := fun_mk (st := s_law_numbers) l_law_numbers e_law_numbers k_law_numbers
  have b_law_numbers := F_law_numbers.binds (ps := ["cell", "many"]) fun _ _ _ _ _ _ us hl => match us, hl with | [_, _], _ => rfl
  have F_law_deck := fun_mk (st := s_law_deck) l_law_deck e_law_deck k_law_deck
  have b_law_deck := F_law_deck.binds (ps := ["cell", "many"]) fun _ _ _ _ _ _ us hl => match us, hl with | [_, _], _ => rfl
  have F_law_take := fun_mk (st := s_law_take) l_law_take e_law_take k_law_take
  have b_law_take := F_law_take.binds (ps := ["deck", "many"]) fun _ _ _ _ _ _ us hl => match us, hl with | [_, _], _ => rfl
  have F_law_kind := fun_mk (st := s_law_kind) l_law_kind e_law_kind k_law_kind
  have b_law_kind := F_law_kind.binds (ps := ["deck", "few"]) fun _ _ _ _ _ _ us hl => match us, hl with | [_, _], _ => rfl
  have F_law_keys := fun_mk (st := s_law_keys) l_law_keys e_law_keys k_law_keys
  have b_law_keys := F_law_keys.binds (ps := ["deck", "few", "most"]) fun _ _ _ _ _ _ us hl => match us, hl with | [_, _, _], _ => rfl
  have F_law_house := fun_mk (st := s_law_house) l_law_house e_law_house k_law_house
  have b_law_house := F_law_house.binds (ps := ["deck", "most", "locks"]) fun _ _ _ _ _ _ us hl => match us, hl with | [_, _, _], _ => rfl
  have F_law_sorted := fun_mk (st := s_law_sorted) l_law_sorted e_law_sorted k_law_sorted
  have b_law_sorted := F_law_sorted.binds (ps := ["house"]) fun _ _ _ _ _ _ us hl => match us, hl with | [_], _ => rfl
  have F_law_shuffled := fun_mk (st := s_law_shuffled) l_law_shuffled e_law_shuffled k_law_shuffled
  have b_law_shuffled := F_law_shuffled.binds (ps := ["deck", "things"]) fun _ _ _ _ _ _ us hl => match us, hl with | [_, _], _ => rfl
  have F_law_otherwise := fun_mk (st := s_law_otherwise) l_law_otherwise e_law_otherwise k_law_otherwise
  have b_law_otherwise := F_law_otherwise.binds (ps := ["deck", "house"]) fun _ _ _ _ _ _ us hl => match us, hl with | [_, _], _ => rfl
  have F_law_many_keys := fun_mk (st := s_law_many_keys) l_law_many_keys e_law_many_keys k_law_many_keys
  have b_law_many_keys := F_law_many_keys.binds (ps := ["deck"]) fun _ _ _ _ _ _ us hl => match us, hl with | [_], _ => rfl
  have F_law_many := fun_mk (st := s_law_many) l_law_many e_law_many k_law_many
  have b_law_many := F_law_many.binds (ps := ["deck", "house"]) fun _ _ _ _ _ _ us hl => match us, hl with | [_, _], _ => rfl
  have F_law := fun_mk (st := s_law) l_law e_law k_law
  have b_law := F_law.binds (ps := ["script"]) fun _ _ _ _ _ _ us hl => match us, hl with | [_], _ => rfl
  let T : Tx K mg := {
    f_is_kind := _, d_is_kind := _, F_is_kind := F_is_kind, b_is_kind := b_is_kind, g_is_kind := PySem.W.mg_of X G a_is_kind,
    f_are_keys := _, d_are_keys := _, F_are_keys := F_are_keys, b_are_keys := b_are_keys, g_are_keys := PySem.W.mg_of X G a_are_keys,
    f_is_room := _, d_is_room := _, F_is_room := F_is_room, b_is_room := b_is_room, g_is_room := PySem.W.mg_of X G a_is_room,
    f_is_house := _, d_is_house := _, F_is_house := F_is_house, b_is_house := b_is_house, g_is_house := PySem.W.mg_of X G a_is_house,
    f_show_keys := _, d_show_keys := _, F_show_keys := F_show_keys, b_show_keys := b_show_keys, g_show_keys := PySem.W.mg_of X G a_show_keys,
    f_show_room := _, d_show_room := _, F_show_room := F_show_room, b_show_room := b_show_room, g_show_room := PySem.W.mg_of X G a_show_room,
    f_show_house := _, d_show_house := _, F_show_house := F_show_house, b_show_house := b_show_house, g_show_house := PySem.W.mg_of X G a_show_house,
    f_keys_from := _, d_keys_from := _, F_keys_from := F_keys_from, b_keys_from := b_keys_from, g_keys_from := PySem.W.mg_of X G a_keys_from,
    f_room_from := _, d_room_from := _, F_room_from := F_room_from, b_room_from := b_room_from, g_room_from := PySem.W.mg_of X G a_room_from,
    f_read_house := _, d_read_house := _, F_read_house := F_read_house, b_read_house := b_read_house, g_read_house := PySem.W.mg_of X G a_read_house,
    f_law_cell_at := _, d_law_cell_at := _, F_law_cell_at := F_law_cell_at, b_law_cell_at := b_law_cell_at, g_law_cell_at := PySem.W.mg_of X G a_law_cell_at,
    f_law_numbers := _, d_law_numbers := _, F_law_numbers := F_law_numbers, b_law_numbers := b_law_numbers, g_law_numbers := PySem.W.mg_of X G a_law_numbers,
    f_law_deck := _, d_law_deck := _, F_law_deck := F_law_deck, b_law_deck := b_law_deck, g_law_deck := PySem.W.mg_of X G a_law_deck,
    f_law_take := _, d_law_take := _, F_law_take := F_law_take, b_law_take := b_law_take, g_law_take := PySem.W.mg_of X G a_law_take,
    f_law_kind := _, d_law_kind := _, F_law_kind := F_law_kind, b_law_kind := b_law_kind, g_law_kind := PySem.W.mg_of X G a_law_kind,
    f_law_keys := _, d_law_keys := _, F_law_keys := F_law_keys, b_law_keys := b_law_keys, g_law_keys := PySem.W.mg_of X G a_law_keys,
    f_law_house := _, d_law_house := _, F_law_house := F_law_house, b_law_house := b_law_house, g_law_house := PySem.W.mg_of X G a_law_house,
    f_law_sorted := _, d_law_sorted := _, F_law_sorted := F_law_sorted, b_law_sorted := b_law_sorted, g_law_sorted := PySem.W.mg_of X G a_law_sorted,
    f_law_shuffled := _, d_law_shuffled := _, F_law_shuffled := F_law_shuffled, b_law_shuffled := b_law_shuffled, g_law_shuffled := PySem.W.mg_of X G a_law_shuffled,
    f_law_otherwise := _, d_law_otherwise := _, F_law_otherwise := F_law_otherwise, b_law_otherwise := b_law_otherwise, g_law_otherwise := PySem.W.mg_of X G a_law_otherwise,
    f_law_many_keys := _, d_law_many_keys := _, F_law_many_keys := F_law_many_keys, b_law_many_keys := b_law_many_keys, g_law_many_keys := PySem.W.mg_of X G a_law_many_keys,
    f_law_many := _, d_law_many := _, F_law_many := F_law_many, b_law_many := b_law_many, g_law_many := PySem.W.mg_of X G a_law_many,
    f_law := _, d_law := _, F_law := F_law, b_law := b_law, g_law := PySem.W.mg_of X G a_law,
    m_isinstance := PySem.W.mg_none_of X G z_isinstance,
    m_str := PySem.W.mg_none_of X G z_str,
    m_len := PySem.W.mg_none_of X G z_len,
    m_list := PySem.W.mg_none_of X G z_list,
    m_tuple := PySem.W.mg_none_of X G z_tuple,
    m_sorted := PySem.W.mg_none_of X G z_sorted,
    m_range := PySem.W.mg_none_of X G z_range,
    m_int := PySem.W.mg_none_of X G z_int,
    m_max := PySem.W.mg_none_of X G z_max,
    m_min := PySem.W.mg_none_of X G z_min,
    m_zip := PySem.W.mg_none_of X G z_zip,
    c_LETTERS := ⟨_, PySem.W.mg_of X G n_LETTERS, ⟨_, rfl⟩⟩,
    c_LONGEST_KIND := ⟨_, PySem.W.mg_of X G n_LONGEST_KIND, ⟨_, rfl⟩⟩,
    c_MOST_LOCKS := ⟨_, PySem.W.mg_of X G n_MOST_LOCKS, ⟨_, rfl⟩⟩ }
  exact ⟨_, fun s v => .of_eq rfl, fun base _ _ => ok_law T⟩
end Kr
open PySem PySem.W PyProof.Rows
set_option maxHeartbeats 0 in
theorem PySem.Challenge.cw_keyrooms_k52_whole_one_writing_each_holds : PySem.Challenge.rw_keyrooms_k52_whole_one_writing_each.Holds := by
  w_on; o_law; k_head; (case hw => w_witness2)
  k_fill
  refine L2.walk_of (l := PySem.Challenge.rw_keyrooms_k52_whole_one_writing_each) (n := 63) (k := 7) (x := "script") (CX := fun _ => L2.CX0) (sp := fun w => Kr.spLaw _) rfl (by decide) rfl ⟨rfl, by decide, by decide⟩ (fun w h Y => PySem.W.kIn_of Y) ?F (fun _ _ a ns hl _ hS => ⟨a, ns, rfl, hS, hl, fun _ => rfl⟩) (fun _ _ _ _ _ h => h)
  case F =>
    intro w mg fa h KX G hmg
    refine' Kr.all_mk KX G hmg ?a_is_kind ?l_is_kind ?e_is_kind ?k_is_kind ?a_are_keys ?l_are_keys ?e_are_keys ?k_are_keys ?a_is_room ?l_is_room ?e_is_room ?k_is_room ?a_is_house ?l_is_house ?e_is_house ?k_is_house ?a_show_keys ?l_show_keys ?e_show_keys ?k_show_keys ?a_show_room ?l_show_room ?e_show_room ?k_show_room ?a_show_house ?l_show_house ?e_show_house ?k_show_house ?a_keys_from ?l_keys_from ?e_keys_from ?k_keys_from ?a_room_from ?l_room_from ?e_room_from ?k_room_from ?a_read_house ?l_read_house ?e_read_house ?k_read_house ?a_law_cell_at ?l_law_cell_at ?e_law_cell_at ?k_law_cell_at ?a_law_numbers ?l_law_numbers ?e_law_numbers ?k_law_numbers ?a_law_deck ?l_law_deck ?e_law_deck ?k_law_deck ?a_law_take ?l_law_take ?e_law_take ?k_law_take ?a_law_kind ?l_law_kind ?e_law_kind ?k_law_kind ?a_law_keys ?l_law_keys ?e_law_keys ?k_law_keys ?a_law_house ?l_law_house ?e_law_house ?k_law_house ?a_law_sorted ?l_law_sorted ?e_law_sorted ?k_law_sorted ?a_law_shuffled ?l_law_shuffled ?e_law_shuffled ?k_law_shuffled ?a_law_otherwise ?l_law_otherwise ?e_law_otherwise ?k_law_otherwise ?a_law_many_keys ?l_law_many_keys ?e_law_many_keys ?k_law_many_keys ?a_law_many ?l_law_many ?e_law_many ?k_law_many ?a_law ?l_law ?e_law ?k_law ?z_isinstance ?z_str ?z_len ?z_list ?z_tuple ?z_sorted ?z_range ?z_int ?z_max ?z_min ?z_zip ?n_LETTERS ?n_LONGEST_KIND ?n_MOST_LOCKS
    case a_is_kind => k_is
    case l_is_kind => k_is
    case e_is_kind => k_is
    case k_is_kind => k_is
    case a_are_keys => k_is
    case l_are_keys => k_is
    case e_are_keys => k_is
    case k_are_keys => k_is
    case a_is_room => k_is
    case l_is_room => k_is
    case e_is_room => k_is
    case k_is_room => k_is
    case a_is_house => k_is
    case l_is_house => k_is
    case e_is_house => k_is
    case k_is_house => k_is
    case a_show_keys => k_is
    case l_show_keys => k_is
    case e_show_keys => k_is
    case k_show_keys => k_is
    case a_show_room => k_is
    case l_show_room => k_is
    case e_show_room => k_is
    case k_show_room => k_is
    case a_show_house => k_is
    case l_show_house => k_is
    case e_show_house => k_is
    case k_show_house => k_is
    case a_keys_from => k_is
    case l_keys_from => k_is
    case e_keys_from => k_is
    case k_keys_from => k_is
    case a_room_from => k_is
    case l_room_from => k_is
    case e_room_from => k_is
    case k_room_from => k_is
    case a_read_house => k_is
    case l_read_house => k_is
    case e_read_house => k_is
    case k_read_house => k_is
    case a_law_cell_at => k_is
    case l_law_cell_at => k_is
    case e_law_cell_at => k_is
    case k_law_cell_at => k_is
    case a_law_numbers => k_is
    case l_law_numbers => k_is
    case e_law_numbers => k_is
    case k_law_numbers => k_is
    case a_law_deck => k_is
    case l_law_deck => k_is
    case e_law_deck => k_is
    case k_law_deck => k_is
    case a_law_take => k_is
    case l_law_take => k_is
    case e_law_take => k_is
    case k_law_take => k_is
    case a_law_kind => k_is
    case l_law_kind => k_is
    case e_law_kind => k_is
    case k_law_kind => k_is
    case a_law_keys => k_is
    case l_law_keys => k_is
    case e_law_keys => k_is
    case k_law_keys => k_is
    case a_law_house => k_is
    case l_law_house => k_is
    case e_law_house => k_is
    case k_law_house => k_is
    case a_law_sorted => k_is
    case l_law_sorted => k_is
    case e_law_sorted => k_is
    case k_law_sorted => k_is
    case a_law_shuffled => k_is
    case l_law_shuffled => k_is
    case e_law_shuffled => k_is
    case k_law_shuffled => k_is
    case a_law_otherwise => k_is
    case l_law_otherwise => k_is
    case e_law_otherwise => k_is
    case k_law_otherwise => k_is
    case a_law_many_keys => k_is
    case l_law_many_keys => k_is
    case e_law_many_keys => k_is
    case k_law_many_keys => k_is
    case a_law_many => k_is
    case l_law_many => k_is
    case e_law_many => k_is
    case k_law_many => k_is
    case a_law => k_is
    case l_law => k_is
    case e_law => k_is
    case k_law => k_is
    case z_isinstance => k_is
    case z_str => k_is
    case z_len => k_is
    case z_list => k_is
    case z_tuple => k_is
    case z_sorted => k_is
    case z_range => k_is
    case z_int => k_is
    case z_max => k_is
    case z_min => k_is
    case z_zip => k_is
    case n_LETTERS => k_is
    case n_LONGEST_KIND => k_is
    case n_MOST_LOCKS => k_is
