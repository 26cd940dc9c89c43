import PyProof.Rows.All
import Wide.All
import OpenK.AllK
import Wide.FinOn
import HandS.Base
import HandS.Call
import HandS.List
import HandS.Comp
import HandS.Ends
import HandS.Dict
import HandS.Iter
import HandS.Text
import HandS.Words
import HandS.WordsList
import HandS.IsInst
import PyProof.Rows.SortShellAny
import HandS.Set
import HandS.SetFor
import HandS.Strs
import HandS.SortInts
import PySem.Challenge.RW_keyrooms_k12_whole_what_comes
set_option Elab.async false
set_option linter.all false
set_option maxRecDepth 100000
set_option maxHeartbeats 4000000
/-! layer Kr1 -/
namespace Kr
open PySem L2

/-! ## data in the abstract heap -/
/-- a dict's key as data -/
def KeyD : PyData → Key → Prop
  | .int i, .inl j => i = j
  | .str x, .inr y => x = y
  | _, _ => False
mutual
def Da (H : Hp) : PyData → V → Prop
  | .none, v => v = .non
  | .bool b, v => v = .bl b
  | .int i, v => v = .int i
  | .str x, v => v = .str x
  | .list ds, v => ∃ a xs, v = .ref a ∧ H a = some (.lst xs) ∧ DaAll H ds xs
  | .tuple ds, v => ∃ a xs, v = .ref a ∧ H a = some (.tup xs) ∧ DaAll H ds xs
  | .dict kvs, v => ∃ a es, v = .ref a ∧ H a = some (.dK es) ∧ DaKV H kvs es
def DaAll (H : Hp) : List PyData → List V → Prop
  | [], vs => vs = []
  | d :: ds, vs => ∃ v r, vs = v :: r ∧ Da H d v ∧ DaAll H ds r
def DaKV (H : Hp) : List (PyData × PyData) → List (Key × V) → Prop
  | [], es => es = []
  | (k, d) :: kvs, es => ∃ k' v r, es = (k', v) :: r ∧ KeyD k k' ∧ Da H d v ∧ DaKV H kvs r
end
mutual
theorem Da.mono {H H' : Hp} (s : Same H H') : ∀ {d : PyData} {v : V}, Da H d v → Da H' d v
  | .none, _, h => h
  | .bool _, _, h => h
  | .int _, _, h => h
  | .str _, _, h => h
  | .list ds, v, h => by
    obtain ⟨a, xs, e, h1, h2⟩ := (show ∃ a xs, v = .ref a ∧ H a = some (.lst xs) ∧ DaAll H ds xs from h)
    exact (show ∃ a xs, v = .ref a ∧ H' a = some (.lst xs) ∧ DaAll H' ds xs from ⟨a, xs, e, s _ _ h1, DaAll.mono s h2⟩)
  | .tuple ds, v, h => by
    obtain ⟨a, xs, e, h1, h2⟩ := (show ∃ a xs, v = .ref a ∧ H a = some (.tup xs) ∧ DaAll H ds xs from h)
    exact (show ∃ a xs, v = .ref a ∧ H' a = some (.tup xs) ∧ DaAll H' ds xs from ⟨a, xs, e, s _ _ h1, DaAll.mono s h2⟩)
  | .dict kvs, v, h => by
    obtain ⟨a, xs, e, h1, h2⟩ := (show ∃ a es, v = .ref a ∧ H a = some (.dK es) ∧ DaKV H kvs es from h)
    exact (show ∃ a es, v = .ref a ∧ H' a = some (.dK es) ∧ DaKV H' kvs es from ⟨a, xs, e, s _ _ h1, DaKV.mono s h2⟩)
theorem DaAll.mono {H H' : Hp} (s : Same H H') : ∀ {ds : List PyData} {vs : List V}, DaAll H ds vs → DaAll H' ds vs
  | [], _, h => h
  | d :: ds, vs, h => by
    obtain ⟨v, r, e, h1, h2⟩ := (show ∃ v r, vs = v :: r ∧ Da H d v ∧ DaAll H ds r from h)
    exact (show ∃ v r, vs = v :: r ∧ Da H' d v ∧ DaAll H' ds r from ⟨v, r, e, h1.mono s, DaAll.mono s h2⟩)
theorem DaKV.mono {H H' : Hp} (s : Same H H') : ∀ {kvs : List (PyData × PyData)} {es : List (Key × V)}, DaKV H kvs es → DaKV H' kvs es
  | [], _, h => h
  | (k, d) :: kvs, es, h => by
    obtain ⟨k', v, r, e, h0, h1, h2⟩ := (show ∃ k' v r, es = (k', v) :: r ∧ KeyD k k' ∧ Da H d v ∧ DaKV H kvs r from h)
    exact (show ∃ k' v r, es = (k', v) :: r ∧ KeyD k k' ∧ Da H' d v ∧ DaKV H' kvs r from ⟨k', v, r, e, h0, h1.mono s, DaKV.mono s h2⟩)
end
mutual
theorem Da.dp {K : PySem.W.Frag} {H : Hp} : ∀ {d : PyData} {v : V}, Da H d v → d.canLay0 = true → Dp K H v d
  | .none, v, h, _ => by obtain rfl : v = .non := h; exact .non
  | .bool b, v, h, _ => by obtain rfl : v = .bl b := h; exact .bl b
  | .int i, v, h, _ => by obtain rfl : v = .int i := h; exact .int i
  | .str x, v, h, _ => by obtain rfl : v = .str x := h; exact .str x
  | .list ds, v, h, c => by
    obtain ⟨a, xs, rfl, h1, h2⟩ := (show ∃ a xs, v = .ref a ∧ H a = some (.lst xs) ∧ DaAll H ds xs from h)
    exact .lst (SqL.of h1) (DaAll.dp h2 (by simpa [PyData.canLay0] using c))
  | .tuple ds, v, h, c => by
    obtain ⟨a, xs, rfl, h1, h2⟩ := (show ∃ a xs, v = .ref a ∧ H a = some (.tup xs) ∧ DaAll H ds xs from h)
    exact .tup (SqT.of h1) (DaAll.dp h2 (by simpa [PyData.canLay0] using c))
  | .dict _, _, h, c => by simp [PyData.canLay0] at c
theorem DaAll.dp {K : PySem.W.Frag} {H : Hp} : ∀ {ds : List PyData} {vs : List V}, DaAll H ds vs → PyData.canLayAll0 ds = true → DpAll K H vs ds
  | [], vs, h, _ => by obtain rfl : vs = [] := h; exact .nil
  | d :: ds, vs, h, c => by
    obtain ⟨v, r, rfl, h1, h2⟩ := (show ∃ v r, vs = v :: r ∧ Da H d v ∧ DaAll H ds r from h)
    have c' : d.canLay0 = true ∧ PyData.canLayAll0 ds = true := by simpa [PyData.canLayAll0] using c
    exact .cons (h1.dp c'.1) (DaAll.dp h2 c'.2)
end
section
variable {H : Hp}
theorem daAll_nil : DaAll H [] [] := rfl
theorem daAll_cons {d : PyData} {ds : List PyData} {v : V} {vs : List V} (h : Da H d v) (t : DaAll H ds vs) : DaAll H (d :: ds) (v :: vs) := ⟨v, vs, rfl, h, t⟩
theorem DaAll.length : ∀ {ds : List PyData} {vs : List V}, DaAll H ds vs → vs.length = ds.length
  | [], _, h => by obtain rfl := (show _ = [] from h); rfl
  | d :: ds, _, h => by
    obtain ⟨v, r, rfl, _, h2⟩ := (show ∃ v r, _ = v :: r ∧ Da H d v ∧ DaAll H ds r from h)
    simp [DaAll.length h2]
theorem DaAll.get : ∀ {ds : List PyData} {vs : List V} {i : Nat} {d : PyData}, DaAll H ds vs → ds[i]? = some d → ∃ v, vs[i]? = some v ∧ Da H d v
  | [], _, _, _, _, e => by simp at e
  | d0 :: ds, _, i, d, h, e => by
    obtain ⟨v, r, rfl, h1, h2⟩ := (show ∃ v r, _ = v :: r ∧ Da H d0 v ∧ DaAll H ds r from h)
    cases i with
    | zero => simp at e; subst e; exact ⟨v, rfl, h1⟩
    | succ i => simpa using DaAll.get h2 (by simpa using e)
theorem DaAll.getV : ∀ {ds : List PyData} {vs : List V} {i : Nat} {v : V}, DaAll H ds vs → vs[i]? = some v → ∃ d, ds[i]? = some d ∧ Da H d v
  | [], _, _, _, h, e => by obtain rfl := (show _ = [] from h); simp at e
  | d0 :: ds, _, i, v, h, e => by
    obtain ⟨v0, r, rfl, h1, h2⟩ := (show ∃ v r, _ = v :: r ∧ Da H d0 v ∧ DaAll H ds r from h)
    cases i with
    | zero => simp at e; subst e; exact ⟨d0, rfl, h1⟩
    | succ i => simpa using DaAll.getV h2 (by simpa using e)
theorem DaAll.append : ∀ {ds es : List PyData} {vs us : List V}, DaAll H ds vs → DaAll H es us → DaAll H (ds ++ es) (vs ++ us)
  | [], _, _, _, h, h' => by obtain rfl := (show _ = [] from h); exact h'
  | d0 :: ds, _, _, _, h, h' => by
    obtain ⟨v0, r, rfl, h1, h2⟩ := (show ∃ v r, _ = v :: r ∧ Da H d0 v ∧ DaAll H ds r from h)
    exact daAll_cons h1 (DaAll.append h2 h')
theorem DaAll.snoc {ds : List PyData} {vs : List V} {d : PyData} {v : V} (h : DaAll H ds vs) (h' : Da H d v) : DaAll H (ds ++ [d]) (vs ++ [v]) := h.append (daAll_cons h' daAll_nil)
theorem DaAll.take : ∀ {ds : List PyData} {vs : List V} (n : Nat), DaAll H ds vs → DaAll H (ds.take n) (vs.take n)
  | [], _, n, h => by obtain rfl := (show _ = [] from h); simp [daAll_nil]
  | d0 :: ds, _, n, h => by
    obtain ⟨v0, r, rfl, h1, h2⟩ := (show ∃ v r, _ = v :: r ∧ Da H d0 v ∧ DaAll H ds r from h)
    cases n with
    | zero => exact daAll_nil
    | succ n => exact daAll_cons h1 (DaAll.take n h2)
theorem DaAll.drop : ∀ {ds : List PyData} {vs : List V} (n : Nat), DaAll H ds vs → DaAll H (ds.drop n) (vs.drop n)
  | [], _, n, h => by obtain rfl := (show _ = [] from h); simp [daAll_nil]
  | d0 :: ds, _, n, h => by
    obtain ⟨v0, r, rfl, h1, h2⟩ := (show ∃ v r, _ = v :: r ∧ Da H d0 v ∧ DaAll H ds r from h)
    cases n with
    | zero => exact daAll_cons h1 h2
    | succ n => exact DaAll.drop n h2
theorem daAll_strs : ∀ xs : List Str, DaAll H (xs.map .str) (xs.map V.str)
  | [] => daAll_nil
  | x :: xs => daAll_cons (show V.str x = V.str x from rfl) (daAll_strs xs)
theorem daAll_ints : ∀ xs : List Int, DaAll H (xs.map .int) (xs.map V.int)
  | [] => daAll_nil
  | x :: xs => daAll_cons (show V.int x = V.int x from rfl) (daAll_ints xs)
theorem DaAll.strs : ∀ {xs : List Str} {vs : List V}, DaAll H (xs.map .str) vs → vs = xs.map V.str
  | [], _, h => h
  | x :: xs, vs, h => by
    obtain ⟨v, r, rfl, h1, h2⟩ := (show ∃ v r, _ = v :: r ∧ Da H (.str x) v ∧ DaAll H (xs.map .str) r from h)
    obtain rfl : v = .str x := h1
    rw [DaAll.strs h2]; rfl
theorem DaAll.ints : ∀ {xs : List Int} {vs : List V}, DaAll H (xs.map .int) vs → vs = xs.map V.int
  | [], _, h => h
  | x :: xs, vs, h => by
    obtain ⟨v, r, rfl, h1, h2⟩ := (show ∃ v r, _ = v :: r ∧ Da H (.int x) v ∧ DaAll H (xs.map .int) r from h)
    obtain rfl : v = .int x := h1
    rw [DaAll.ints h2]; rfl
theorem DaAll.strsAll : ∀ {xs : List Bool} {vs : List V}, DaAll H (xs.map .bool) vs → vs = xs.map V.bl
  | [], _, h => h
  | x :: xs, vs, h => by
    obtain ⟨v, r, rfl, h1, h2⟩ := (show ∃ v r, _ = v :: r ∧ Da H (.bool x) v ∧ DaAll H (xs.map .bool) r from h)
    obtain rfl : v = .bl x := h1
    rw [DaAll.strsAll h2]; rfl
end

/-! ## heaps that grow: F what is told for good, H all -/
structure Gr (F H F2 H2 : Hp) : Prop where
  ff : Same F F2
  fh : Same F2 H2
  hh : Same H H2
  new : ∀ b, F b = none → H b ≠ none → F2 b = none
section
variable {F H F1 H1 F2 H2 F3 H3 : Hp} {p : Addr} {o : HO}
theorem Gr.refl (h : Same F H) : Gr F H F H := ⟨Same.refl _, h, Same.refl _, fun _ e _ => e⟩
theorem Gr.trans (a : Gr F H F1 H1) (b : Gr F1 H1 F2 H2) : Gr F H F2 H2 :=
  ⟨a.ff.trans b.ff, b.fh, a.hh.trans b.hh, fun q e n => b.new q (a.new q e n) (fun z => n (a.hh.free z))⟩
theorem same_upd (h : H p = none) : Same H (upd H p o) := fun b x e => by
  rw [upd_ne (ne_of_none e h)]
  exact e
theorem same_mut (s : Same F H) (h : F p = none) : Same F (upd H p o) := fun b x e => by
  rw [upd_ne (ne_of_none e h)]
  exact s _ _ e
theorem same_both (s : Same F H) : Same (upd F p o) (upd H p o) := fun b x e => by
  by_cases hb : b = p
  · subst hb; rw [upd_same] at e ⊢; exact e
  · rw [upd_ne hb] at e ⊢; exact s _ _ e
theorem upd_self (h : H p = some o) : upd H p o = H := by
  funext b
  by_cases hb : b = p
  · subst hb; rw [upd_same, h]
  · rw [upd_ne hb]
/-- a new object that stays open -/
theorem Gr.open' (g : Gr F H F1 H1) (h : H1 p = none) : Gr F H F1 (upd H1 p o) :=
  ⟨g.ff, same_mut g.fh (g.fh.free h), g.hh.trans (same_upd h), g.new⟩
/-- a new object that is told for good -/
theorem Gr.shut (g : Gr F H F1 H1) (h : H1 p = none) : Gr F H (upd F1 p o) (upd H1 p o) :=
  ⟨g.ff.trans (same_upd (g.fh.free h)), same_both g.fh, g.hh.trans (same_upd h), fun b e n => by
    have hb : b ≠ p := fun z => by subst z; exact n (g.hh.free h)
    rw [upd_ne hb]; exact g.new b e n⟩
/-- an open object of our own changes -/
theorem Gr.mut (g : Gr F H F1 H1) (h : H p = none) (h1 : F1 p = none) : Gr F H F1 (upd H1 p o) :=
  ⟨g.ff, same_mut g.fh h1, same_mut g.hh h, g.new⟩
/-- an open object of our own is told for good -/
theorem Gr.tell (g : Gr F H F1 H1) (h : H p = none) (h1 : F1 p = none) (ho : H1 p = some o) : Gr F H (upd F1 p o) H1 :=
  ⟨g.ff.trans (same_upd h1), fun b x e => by
    by_cases hb : b = p
    · subst hb; rw [upd_same] at e; rw [ho]; exact e
    · rw [upd_ne hb] at e; exact g.fh _ _ e, g.hh, fun b e n => by
    have hb : b ≠ p := fun z => by subst z; exact n h
    rw [upd_ne hb]; exact g.new b e n⟩
theorem Gr.da (g : Gr F H F1 H1) {d : PyData} {v : V} (h : Da F d v) : Da F1 d v := h.mono g.ff
theorem Gr.daH (g : Gr F H F1 H1) {d : PyData} {v : V} (h : Da F d v) : Da H1 d v := h.mono (g.ff.trans g.fh)
theorem Gr.f0 (g : Gr F H F1 H1) (h : F p = none) (hH : H p = some o) : F1 p = none := g.new p h (by rw [hH]; exact fun z => nomatch z)
theorem Gr.same (g : Gr F H F1 H1) : Same F H1 := g.ff.trans g.fh
end

/-! ## what running a piece of text wants -/
section
variable (X : Cx)
def WE (e : Expr) (σ : St) (H : Hp) (Q : VK) : Prop := ∀ (pins : List (Addr × Obj)) (s : Shared), Inv X pins σ H s → wpAny (model X.prog X.w) X.A (eval e X.env) (EP X pins σ Q) X.xe s
def WT (e : Expr) (σ : St) (H : Hp) (Q : Bool → Hp → Prop) : Prop := ∀ (pins : List (Addr × Obj)) (s : Shared), Inv X pins σ H s → wpAny (model X.prog X.w) X.A (isTrue e X.env (eval e X.env)) (TP X pins σ Q) X.xe s
def WW (e : Expr) (σ : St) (H : Hp) (Q : Bool → Hp → Prop) : Prop := ∀ (whole : Sem Value) (pins : List (Addr × Obj)) (s : Shared), Inv X pins σ H s → wpAny (model X.prog X.w) X.A (isTrue e X.env whole) (TP X pins σ Q) X.xe s
def WA (es : List Expr) (σ : St) (H : Hp) (Q : List V → Hp → Prop) : Prop := ∀ (pos : Pos) (pins : List (Addr × Obj)) (s : Shared), Inv X pins σ H s → wpAny (model X.prog X.w) X.A (spliced (backTo pos (starEach es X.env))) (AP X pins σ Q) X.xe s
def WS (st : Stmt) (D : Ends) (σ : St) (H : Hp) : Prop := ∀ (pins : List (Addr × Obj)) (s : Shared), Inv X pins σ H s → wpAny (model X.prog X.w) X.A (exec st X.env) (SP X pins D) X.xe s
def WSs (st : List Stmt) (D : Ends) (σ : St) (H : Hp) : Prop := ∀ (pins : List (Addr × Obj)) (s : Shared), Inv X pins σ H s → wpAny (model X.prog X.w) X.A (execs st X.env) (SP X pins D) X.xe s
def WI (tg iter : Expr) (σ : St) (H : Hp) (R : It → Hp → Prop) : Prop := ∀ (pins : List (Addr × Obj)) (s : Shared), Inv X pins σ H s →
  wpAny (model X.prog X.w) X.A (eval iter X.env) (fun v s1 => wpAny (model X.prog X.w) X.A (pyIter v) (PIE X pins σ tg R) X.xe s1) X.xe s
end
section
variable {X : Cx}
theorem pe_we {e : Expr} : PE X e (WE X e) := ⟨fun pins s σ H Q I h => h pins s I⟩
theorem pt_wt {e : Expr} : PT X e (WT X e) := ⟨fun pins s σ H Q I h => h pins s I⟩
theorem pw_ww {e : Expr} : PW X e (WW X e) := ⟨fun whole pins s σ H Q I h => h whole pins s I⟩
theorem pa_wa {es : List Expr} : PA X es (WA X es) := ⟨fun pos pins s σ H Q I h => h pos pins s I⟩
theorem ps_ws {st : Stmt} : PS X st (WS X st) := ⟨fun pins s σ H D I h => h pins s I⟩
theorem pss_wss {st : List Stmt} : PSs X st (WSs X st) := ⟨fun pins s σ H D I h => h pins s I⟩
theorem pi_wi {tg iter : Expr} : PI X tg iter (WI X tg iter) := ⟨fun pins s σ H R I h => h pins s I⟩
theorem we_of {e : Expr} {t : TE} {σ : St} {H : Hp} {Q : VK} (h : PE X e t) (q : t σ H Q) : WE X e σ H Q := fun pins s I => h.run pins s σ H Q I q
theorem wt_of {e : Expr} {t : TT} {σ : St} {H : Hp} {Q : Bool → Hp → Prop} (h : PT X e t) (q : t σ H Q) : WT X e σ H Q := fun pins s I => h.run pins s σ H Q I q
theorem ww_of {e : Expr} {t : TT} {σ : St} {H : Hp} {Q : Bool → Hp → Prop} (h : PW X e t) (q : t σ H Q) : WW X e σ H Q := fun whole pins s I => h.run whole pins s σ H Q I q
theorem wa_of {es : List Expr} {t : TA} {σ : St} {H : Hp} {Q : List V → Hp → Prop} (h : PA X es t) (q : t σ H Q) : WA X es σ H Q := fun pos pins s I => h.run pos pins s σ H Q I q
theorem ws_of {st : Stmt} {t : TS} {σ : St} {H : Hp} {D : Ends} (h : PS X st t) (q : t D σ H) : WS X st D σ H := fun pins s I => h.run pins s σ H D I q
theorem wss_of {st : List Stmt} {t : TS} {σ : St} {H : Hp} {D : Ends} (h : PSs X st t) (q : t D σ H) : WSs X st D σ H := fun pins s I => h.run pins s σ H D I q
theorem wi_of {tg iter : Expr} {t : TI} {σ : St} {H : Hp} {R : It → Hp → Prop} (h : PI X tg iter t) (q : t σ H R) : WI X tg iter σ H R := fun pins s I => h.run pins s σ H R I q
theorem WE.imp {e : Expr} {σ : St} {H : Hp} {Q Q' : VK} (h : WE X e σ H Q) (q : ∀ v H', Q v H' → Q' v H') : WE X e σ H Q' := fun pins s I => thn (h pins s I) fun u s' ⟨v, H', I', r, k⟩ => ⟨v, H', I', r, q v H' k⟩
theorem WT.imp {e : Expr} {σ : St} {H : Hp} {Q Q' : Bool → Hp → Prop} (h : WT X e σ H Q) (q : ∀ v H', Q v H' → Q' v H') : WT X e σ H Q' := fun pins s I => thn (h pins s I) fun u s' ⟨H', I', k⟩ => ⟨H', I', q _ H' k⟩
end

/-! ## expressions that tell data -/
section
variable (X : Cx)
def DE (e : Expr) (σ : St) (F H : Hp) (d : PyData) : Prop := ∀ F1 H1, Gr F H F1 H1 → ∀ Q : VK, (∀ v F2 H2, Gr F1 H1 F2 H2 → Da F2 d v → Q v H2) → WE X e σ H1 Q
def DT (e : Expr) (σ : St) (F H : Hp) (b : Bool) : Prop := ∀ F1 H1, Gr F H F1 H1 → ∀ Q : Bool → Hp → Prop, (∀ F2 H2, Gr F1 H1 F2 H2 → Q b H2) → WT X e σ H1 Q
def DW (e : Expr) (σ : St) (F H : Hp) (b : Bool) : Prop := ∀ F1 H1, Gr F H F1 H1 → ∀ Q : Bool → Hp → Prop, (∀ F2 H2, Gr F1 H1 F2 H2 → Q b H2) → WW X e σ H1 Q
def DL (es : List Expr) (σ : St) (F H : Hp) (ds : List PyData) : Prop := ∀ F1 H1, Gr F H F1 H1 → ∀ Q : List V → Hp → Prop, (∀ vs F2 H2, Gr F1 H1 F2 H2 → DaAll F2 ds vs → Q vs H2) → WA X es σ H1 Q
/-- a value that is known -/
def VE (e : Expr) (σ : St) (F H : Hp) (v : V) : Prop := ∀ F1 H1, Gr F H F1 H1 → ∀ Q : VK, (∀ F2 H2, Gr F1 H1 F2 H2 → Q v H2) → WE X e σ H1 Q
end
section
variable {X : Cx} {σ : St} {F H : Hp} {e a b : Expr} {es : List Expr} {d d1 d2 : PyData} {ds : List PyData} {v : V} {i j : Int} {pos p : Pos} {x : Str}
theorem DE.mono {F' H' : Hp} (g : Gr F H F' H') (h : DE X e σ F H d) : DE X e σ F' H' d := fun F1 H1 g1 => h F1 H1 (g.trans g1)
theorem DT.mono {F' H' : Hp} {c : Bool} (g : Gr F H F' H') (h : DT X e σ F H c) : DT X e σ F' H' c := fun F1 H1 g1 => h F1 H1 (g.trans g1)
theorem VE.mono {F' H' : Hp} (g : Gr F H F' H') (h : VE X e σ F H v) : VE X e σ F' H' v := fun F1 H1 g1 => h F1 H1 (g.trans g1)
theorem DE.go (h : DE X e σ F H d) (s : Same F H) {Q : VK} (q : ∀ v F2 H2, Gr F H F2 H2 → Da F2 d v → Q v H2) : WE X e σ H Q := h F H (.refl s) Q q
theorem VE.go (h : VE X e σ F H v) (s : Same F H) {Q : VK} (q : ∀ F2 H2, Gr F H F2 H2 → Q v H2) : WE X e σ H Q := h F H (.refl s) Q q
theorem DT.go {c : Bool} (h : DT X e σ F H c) (s : Same F H) {Q : Bool → Hp → Prop} (q : ∀ F2 H2, Gr F H F2 H2 → Q c H2) : WT X e σ H Q := h F H (.refl s) Q q
theorem de_of (h : VE X e σ F H v) (hd : Da F d v) : DE X e σ F H d := fun F1 H1 g Q q => h F1 H1 g Q fun F2 H2 g2 => q v F2 H2 g2 (g2.da (g.da hd))
theorem ve_int (h : DE X e σ F H (.int i)) : VE X e σ F H (.int i) := fun F1 H1 g Q q => h F1 H1 g Q fun v F2 H2 g2 e => by obtain rfl : v = .int i := e; exact q F2 H2 g2
theorem ve_str (h : DE X e σ F H (.str x)) : VE X e σ F H (.str x) := fun F1 H1 g Q q => h F1 H1 g Q fun v F2 H2 g2 e => by obtain rfl : v = .str x := e; exact q F2 H2 g2
theorem ve_bool {c : Bool} (h : DE X e σ F H (.bool c)) : VE X e σ F H (.bl c) := fun F1 H1 g Q q => h F1 H1 g Q fun v F2 H2 g2 e => by obtain rfl : v = .bl c := e; exact q F2 H2 g2
/-- by a rule of the layer that leaves the heap -/
theorem ve_of {t : TE} (h : PE X e t) (q : ∀ F1 H1, Gr F H F1 H1 → ∀ Q : VK, Q v H1 → t σ H1 Q) : VE X e σ F H v := fun F1 H1 g Q k => we_of h (q F1 H1 g Q (k F1 H1 (.refl g.fh)))
/-- names and constants -/
theorem ve_v (k : Nat) {w : V} (h : σ[k]? = some (some w) := by rfl) (hN : X.N[k]? = some x := by rfl) (hv : Vis X.env.scope x := by first | exact Or.inl rfl | exact Or.inr (Or.inl rfl) | exact Or.inr (Or.inr rfl)) (hd : (x == ("__debug__" : Str)) = false := by decide)
    (hcd : (x == ("__classdict__" : Str)) = false := by decide) : VE X (.Name x pos) σ F H w := ve_of (pe_var hN hv hd hcd) fun F1 H1 _ Q q => ⟨w, h, q⟩
theorem de_v (k : Nat) {w : V} (hw : Da F d w) (h : σ[k]? = some (some w) := by rfl) (hN : X.N[k]? = some x := by rfl) (hv : Vis X.env.scope x := by first | exact Or.inl rfl | exact Or.inr (Or.inl rfl) | exact Or.inr (Or.inr rfl)) (hd : (x == ("__debug__" : Str)) = false := by decide)
    (hcd : (x == ("__classdict__" : Str)) = false := by decide) : DE X (.Name x pos) σ F H d := de_of (ve_v k h hN hv hd hcd) hw
theorem de_int {k : Nat} : DE X (.Constant (.int i) k pos) σ F H (.int i) := de_of (v := .int i) (ve_of pe_int fun _ _ _ _ q => q) rfl
theorem de_str {k : Nat} : DE X (.Constant (.str x) k pos) σ F H (.str x) := de_of (v := .str x) (ve_of pe_str fun _ _ _ _ q => q) rfl
theorem de_bool {k : Nat} {c : Bool} : DE X (.Constant (.bool c) k pos) σ F H (.bool c) := de_of (v := .bl c) (ve_of pe_bl fun _ _ _ _ q => q) rfl
theorem de_none {k : Nat} : DE X (.Constant .none k pos) σ F H .none := de_of (v := .non) (ve_of pe_non fun _ _ _ _ q => q) rfl
/-- two operands -/
theorem de_op {op : Operator} {r : R2} (ho : OpR X (binaryOp op) r) (ha : DE X a σ F H d1) (hb : DE X b σ F H d2) (hr : ∀ x y F1 H1, Gr F H F1 H1 → Da F1 d1 x → Da F1 d2 y → ∀ Q : VK, (∀ v F2 H2, Gr F1 H1 F2 H2 → Da F2 d v → Q v H2) → r x y H1 Q) :
    DE X (.BinOp a op b pos) σ F H d := fun F1 H1 g Q q => we_of (pe_op ho pe_we pe_we) (ha F1 H1 g _ fun x F2 H2 g2 hx => hb F2 H2 (g.trans g2) _ fun y F3 H3 g3 hy =>
      hr x y F3 H3 ((g.trans g2).trans g3) (g3.da hx) hy Q fun v F4 H4 g4 hv => q v F4 H4 ((g2.trans g3).trans g4) hv)
theorem de_cmp {op : CmpOp} {r : R2} (ho : OpR X (compareOp op) r) (hm : behindInMarks op b = false) (ha : DE X a σ F H d1) (hb : DE X b σ F H d2) (hr : ∀ x y F1 H1, Gr F H F1 H1 → Da F1 d1 x → Da F1 d2 y → ∀ Q : VK, (∀ v F2 H2, Gr F1 H1 F2 H2 → Da F2 d v → Q v H2) → r x y H1 Q) :
    DE X (.Compare a [op] [b] pos) σ F H d := fun F1 H1 g Q q => we_of (pe_cmpR ho pe_we pe_we hm) (ha F1 H1 g _ fun x F2 H2 g2 hx => hb F2 H2 (g.trans g2) _ fun y F3 H3 g3 hy =>
      hr x y F3 H3 ((g.trans g2).trans g3) (g3.da hx) hy Q fun v F4 H4 g4 hv => q v F4 H4 ((g2.trans g3).trans g4) hv)
end
end Kr

/-! layer Kr2 -/
namespace Kr
open PySem L2
section
variable {X : Cx} {σ : St} {F H : Hp} {e a b c : Expr} {es : List Expr} {d d1 d2 : PyData} {ds ds' : List PyData} {v : V} {i j k : Int} {pos p : Pos} {x y : Str} {bb cc : Bool}
structure Pl (X : Cx) (e : Expr) (es : List Expr) (pos : Pos) : Prop where
  he : starEach (e :: es) X.env = (false, eval e X.env) :: starEach es X.env
  hpl : (backTo pos (starEach es X.env)).any (·.1) = false
structure Nm (x : Str) : Prop where
  hn : x ≠ "__name__"
  hdb : (x == ("__debug__" : Str)) = false
theorem de_is (h : DE X e σ F H d) (q : d = d1) : DE X e σ F H d1 := q ▸ h
theorem dt_is (h : DT X e σ F H bb) (q : bb = cc) : DT X e σ F H cc := q ▸ h
/-! ### numbers -/
theorem de_I0 {op : Operator} {g : Int → Int → Int} (ho : OpR X (binaryOp op) (rI0 fun i j => .int (g i j))) (ha : DE X a σ F H (.int i)) (hb : DE X b σ F H (.int j)) : DE X (.BinOp a op b pos) σ F H (.int (g i j)) :=
  de_op ho ha hb fun x y F1 H1 g1 hx hy Q q => ⟨i, j, hx, hy, q (.int (g i j)) F1 H1 (.refl g1.fh) rfl⟩
theorem de_I {op : Operator} {C : Int → Int → Prop} {g : Int → Int → Int} (ho : OpR X (binaryOp op) (rI C fun i j => .int (g i j))) (ha : DE X a σ F H (.int i)) (hb : DE X b σ F H (.int j)) (hc : C i j) : DE X (.BinOp a op b pos) σ F H (.int (g i j)) :=
  de_op ho ha hb fun x y F1 H1 g1 hx hy Q q => ⟨i, j, hx, hy, hc, q (.int (g i j)) F1 H1 (.refl g1.fh) rfl⟩
theorem de_add (ha : DE X a σ F H (.int i)) (hb : DE X b σ F H (.int j)) : DE X (.BinOp a .Add b pos) σ F H (.int (i + j)) := de_I0 op_add ha hb
theorem de_sub (ha : DE X a σ F H (.int i)) (hb : DE X b σ F H (.int j)) : DE X (.BinOp a .Sub b pos) σ F H (.int (i - j)) := de_I0 op_sub ha hb
theorem de_mul (ha : DE X a σ F H (.int i)) (hb : DE X b σ F H (.int j)) (hc : CMul i j) : DE X (.BinOp a .Mult b pos) σ F H (.int (i * j)) := de_I op_mul ha hb hc
theorem de_fdiv (ha : DE X a σ F H (.int i)) (hb : DE X b σ F H (.int j)) (hc : CDiv i j) : DE X (.BinOp a .FloorDiv b pos) σ F H (.int (i / j)) := de_I op_fdiv ha hb hc
theorem de_mod (ha : DE X a σ F H (.int i)) (hb : DE X b σ F H (.int j)) (hc : 0 < j) : DE X (.BinOp a .Mod b pos) σ F H (.int (i % j)) := de_I op_mod ha hb hc
theorem de_pow (ha : DE X a σ F H (.int i)) (hb : DE X b σ F H (.int j)) (hc : CPow i j) : DE X (.BinOp a .Pow b pos) σ F H (.int (i ^ j.toNat)) := de_I op_pow ha hb hc
theorem de_neg (ha : DE X a σ F H (.int i)) : DE X (.UnaryOp .USub a pos) σ F H (.int (-i)) := fun F1 H1 g Q q =>
  we_of (pe_un un_neg pe_we) (ha F1 H1 g _ fun v F2 H2 g2 hv => ⟨i, hv, q _ F2 H2 g2 rfl⟩)
/-- a comparison, as a value or as a test -/
def DC (X : Cx) (op : CmpOp) (a b : Expr) (σ : St) (F H : Hp) (bb : Bool) : Prop := behindInMarks op b = false ∧ ∃ r, OpR X (compareOp op) r ∧ ∀ F1 H1, Gr F H F1 H1 → ∀ Q : VK, (∀ F2 H2, Gr F1 H1 F2 H2 → Q (.bl bb) H2) → tOp r (WE X a) (WE X b) σ H1 Q
theorem de_c {op : CmpOp} (h : DC X op a b σ F H bb) : DE X (.Compare a [op] [b] pos) σ F H (.bool bb) := by
  obtain ⟨hm, r, ho, h⟩ := h
  exact fun F1 H1 g Q q => we_of (pe_cmpR ho pe_we pe_we hm) (h F1 H1 g Q fun F2 H2 g2 => q _ F2 H2 g2 rfl)
theorem dt_c {op : CmpOp} (h : DC X op a b σ F H bb) : DT X (.Compare a [op] [b] pos) σ F H bb := by
  obtain ⟨hm, r, ho, h⟩ := h
  exact fun F1 H1 g Q q => wt_of (pt_cmpR ho pe_we pe_we hm) (h F1 H1 g _ fun F2 H2 g2 => ⟨bb, rfl, q F2 H2 g2⟩)
theorem c_is {op : CmpOp} (h : DC X op a b σ F H bb) (q : bb = cc) : DC X op a b σ F H cc := q ▸ h
theorem c_cmp {op : CmpOp} {r : R2} (ho : OpR X (compareOp op) r) (hm : behindInMarks op b = false) (ha : DE X a σ F H d1) (hb : DE X b σ F H d2) (hr : ∀ x y F1 H1, Gr F H F1 H1 → Da F1 d1 x → Da F1 d2 y → ∀ Q : VK, (∀ v F2 H2, Gr F1 H1 F2 H2 → Da F2 (.bool bb) v → Q v H2) → r x y H1 Q) :
    DC X op a b σ F H bb := ⟨hm, r, ho, fun F1 H1 g Q q => ha F1 H1 g _ fun x F2 H2 g2 hx => hb F2 H2 (g.trans g2) _ fun y F3 H3 g3 hy =>
      hr x y F3 H3 ((g.trans g2).trans g3) (g3.da hx) hy Q fun v F4 H4 g4 hv => by obtain rfl : v = .bl bb := hv; exact q F4 H4 ((g2.trans g3).trans g4)⟩
theorem c_cI {op : CmpOp} {g : Int → Int → Bool} (ho : OpR X (compareOp op) (rI0 fun i j => .bl (g i j))) (hm : behindInMarks op b = false) (ha : DE X a σ F H (.int i)) (hb : DE X b σ F H (.int j)) : DC X op a b σ F H (g i j) :=
  c_cmp ho hm ha hb fun x y F1 H1 g1 hx hy Q q => ⟨i, j, hx, hy, q (.bl (g i j)) F1 H1 (.refl g1.fh) rfl⟩
theorem c_lt (ha : DE X a σ F H (.int i)) (hb : DE X b σ F H (.int j)) : DC X .Lt a b σ F H (decide (i < j)) := c_cI op_lt (nomark _) ha hb
theorem c_le (ha : DE X a σ F H (.int i)) (hb : DE X b σ F H (.int j)) : DC X .LtE a b σ F H (decide (i ≤ j)) := c_cI op_le (nomark _) ha hb
theorem c_gt (ha : DE X a σ F H (.int i)) (hb : DE X b σ F H (.int j)) : DC X .Gt a b σ F H (decide (j < i)) := c_cI op_gt (nomark _) ha hb
theorem c_ge (ha : DE X a σ F H (.int i)) (hb : DE X b σ F H (.int j)) : DC X .GtE a b σ F H (decide (j ≤ i)) := c_cI op_ge (nomark _) ha hb
/-- i <= j <= k -/
theorem de_lele (ha : DE X a σ F H (.int i)) (hb : DE X b σ F H (.int j)) (hc : DE X c σ F H (.int k)) (hm : lastMarks [.LtE, .LtE] [b, c] = false := by with_unfolding_all rfl) : DE X (.Compare a [.LtE, .LtE] [b, c] pos) σ F H (.bool (decide (i ≤ j) && decide (j ≤ k))) := fun F1 H1 g Q q =>
  we_of (pe_chain op_le op_le pe_we pe_we pe_we hm) (ha F1 H1 g _ fun x F2 H2 g2 hx => hb F2 H2 (g.trans g2) _ fun y F3 H3 g3 hy => by
    refine ⟨i, j, hx, hy, _, rfl, ?_⟩
    by_cases hij : i ≤ j
    · rw [decide_eq_true hij]
      refine iteT (hc F3 H3 ((g.trans g2).trans g3) _ fun z F4 H4 g4 hz => ⟨j, k, hy, hz, ?_⟩)
      exact q _ F4 H4 ((g2.trans g3).trans g4) (by show V.bl _ = V.bl _; simp [hij])
    · rw [decide_eq_false hij]
      exact iteF (q _ F3 H3 (g2.trans g3) (by show V.bl _ = V.bl _; simp [hij])))
/-- i <= j < k -/
theorem de_lelt (ha : DE X a σ F H (.int i)) (hb : DE X b σ F H (.int j)) (hc : DE X c σ F H (.int k)) (hm : lastMarks [.LtE, .Lt] [b, c] = false := by with_unfolding_all rfl) : DE X (.Compare a [.LtE, .Lt] [b, c] pos) σ F H (.bool (decide (i ≤ j) && decide (j < k))) := fun F1 H1 g Q q =>
  we_of (pe_chain op_le op_lt pe_we pe_we pe_we hm) (ha F1 H1 g _ fun x F2 H2 g2 hx => hb F2 H2 (g.trans g2) _ fun y F3 H3 g3 hy => by
    refine ⟨i, j, hx, hy, _, rfl, ?_⟩
    by_cases hij : i ≤ j
    · rw [decide_eq_true hij]
      refine iteT (hc F3 H3 ((g.trans g2).trans g3) _ fun z F4 H4 g4 hz => ⟨j, k, hy, hz, ?_⟩)
      exact q _ F4 H4 ((g2.trans g3).trans g4) (by show V.bl _ = V.bl _; simp [hij])
    · rw [decide_eq_false hij]
      exact iteF (q _ F3 H3 (g2.trans g3) (by show V.bl _ = V.bl _; simp [hij])))
/-- i <= j <= k -/
theorem dt_lele (ha : DE X a σ F H (.int i)) (hb : DE X b σ F H (.int j)) (hc : DE X c σ F H (.int k)) (hm : lastMarks [.LtE, .LtE] [b, c] = false := by with_unfolding_all rfl) : DT X (.Compare a [.LtE, .LtE] [b, c] pos) σ F H (decide (i ≤ j) && decide (j ≤ k)) := fun F1 H1 g Q q =>
  wt_of (pt_chain op_le op_le pe_we pe_we pe_we hm) (ha F1 H1 g _ fun x F2 H2 g2 hx => hb F2 H2 (g.trans g2) _ fun y F3 H3 g3 hy => by
    refine ⟨i, j, hx, hy, _, rfl, ?_⟩
    by_cases hij : i ≤ j
    · rw [decide_eq_true hij]
      refine iteT (hc F3 H3 ((g.trans g2).trans g3) _ fun z F4 H4 g4 hz => ⟨j, k, hy, hz, _, rfl, ?_⟩)
      have := q F4 H4 ((g2.trans g3).trans g4)
      simpa [hij] using this
    · rw [decide_eq_false hij]
      have := q F3 H3 (g2.trans g3)
      exact iteF ⟨_, rfl, by simpa [hij] using this⟩)
/-- i <= j < k -/
theorem dt_lelt (ha : DE X a σ F H (.int i)) (hb : DE X b σ F H (.int j)) (hc : DE X c σ F H (.int k)) (hm : lastMarks [.LtE, .Lt] [b, c] = false := by with_unfolding_all rfl) : DT X (.Compare a [.LtE, .Lt] [b, c] pos) σ F H (decide (i ≤ j) && decide (j < k)) := fun F1 H1 g Q q =>
  wt_of (pt_chain op_le op_lt pe_we pe_we pe_we hm) (ha F1 H1 g _ fun x F2 H2 g2 hx => hb F2 H2 (g.trans g2) _ fun y F3 H3 g3 hy => by
    refine ⟨i, j, hx, hy, _, rfl, ?_⟩
    by_cases hij : i ≤ j
    · rw [decide_eq_true hij]
      refine iteT (hc F3 H3 ((g.trans g2).trans g3) _ fun z F4 H4 g4 hz => ⟨j, k, hy, hz, _, rfl, ?_⟩)
      have := q F4 H4 ((g2.trans g3).trans g4)
      simpa [hij] using this
    · rw [decide_eq_false hij]
      have := q F3 H3 (g2.trans g3)
      exact iteF ⟨_, rfl, by simpa [hij] using this⟩)
/-! ### equality -/
theorem c_eq (hu : X.A.units + 64 < cLine) (ha : DE X a σ F H d1) (hb : DE X b σ F H d2) (h1 : SeqAt.shaped d1 = true) (h2 : SeqAt.shaped d2 = true) : DC X .Eq a b σ F H (PyData.eqv d1 d2) :=
  c_cmp (op_eqD hu) (nomark _) ha hb fun x y F1 H1 g1 hx hy Q q => ⟨d1, d2, (hx.mono g1.fh).dp (SeqAt.canLay_of_shaped h1), (hy.mono g1.fh).dp (SeqAt.canLay_of_shaped h2), h1, h2, q (.bl _) F1 H1 (.refl g1.fh) rfl⟩
theorem c_ne (hu : X.A.units + 64 < cLine) (ha : DE X a σ F H d1) (hb : DE X b σ F H d2) (h1 : SeqAt.shaped d1 = true) (h2 : SeqAt.shaped d2 = true) : DC X .NotEq a b σ F H (!PyData.eqv d1 d2) :=
  c_cmp (op_neD hu) (nomark _) ha hb fun x y F1 H1 g1 hx hy Q q => ⟨d1, d2, (hx.mono g1.fh).dp (SeqAt.canLay_of_shaped h1), (hy.mono g1.fh).dp (SeqAt.canLay_of_shaped h2), h1, h2, q (.bl _) F1 H1 (.refl g1.fh) rfl⟩
theorem c_eqI (ha : DE X a σ F H (.int i)) (hb : DE X b σ F H (.int j)) : DC X .Eq a b σ F H (decide (i = j)) :=
  c_cmp op_eq (nomark _) ha hb fun x y F1 H1 g1 hx hy Q q => by
    obtain rfl : x = .int i := hx
    obtain rfl : y = .int j := hy
    exact ⟨rfl, q _ F1 H1 (.refl g1.fh) (by show V.bl _ = V.bl _; simp)⟩
theorem c_neI (ha : DE X a σ F H (.int i)) (hb : DE X b σ F H (.int j)) : DC X .NotEq a b σ F H (!decide (i = j)) :=
  c_cmp op_ne (nomark _) ha hb fun x y F1 H1 g1 hx hy Q q => by
    obtain rfl : x = .int i := hx
    obtain rfl : y = .int j := hy
    exact ⟨rfl, q _ F1 H1 (.refl g1.fh) (by show V.bl _ = V.bl _; simp)⟩
theorem c_eqS (ha : DE X a σ F H (.str x)) (hb : DE X b σ F H (.str y)) : DC X .Eq a b σ F H (decide (x = y)) :=
  c_cmp op_eq (nomark _) ha hb fun x' y' F1 H1 g1 hx hy Q q => by
    obtain rfl : x' = .str x := hx
    obtain rfl : y' = .str y := hy
    exact ⟨rfl, q _ F1 H1 (.refl g1.fh) (by show V.bl _ = V.bl _; simp)⟩
theorem c_neS (ha : DE X a σ F H (.str x)) (hb : DE X b σ F H (.str y)) : DC X .NotEq a b σ F H (!decide (x = y)) :=
  c_cmp op_ne (nomark _) ha hb fun x' y' F1 H1 g1 hx hy Q q => by
    obtain rfl : x' = .str x := hx
    obtain rfl : y' = .str y := hy
    exact ⟨rfl, q _ F1 H1 (.refl g1.fh) (by show V.bl _ = V.bl _; simp)⟩
theorem c_eqB (ha : DE X a σ F H (.bool bb)) (hb : DE X b σ F H (.bool cc)) : DC X .Eq a b σ F H (decide (bb = cc)) :=
  c_cmp op_eq (nomark _) ha hb fun x' y' F1 H1 g1 hx hy Q q => by
    obtain rfl : x' = .bl bb := hx
    obtain rfl : y' = .bl cc := hy
    exact ⟨rfl, q _ F1 H1 (.refl g1.fh) (by show V.bl _ = V.bl _; simp)⟩
theorem c_neB (ha : DE X a σ F H (.bool bb)) (hb : DE X b σ F H (.bool cc)) : DC X .NotEq a b σ F H (!decide (bb = cc)) :=
  c_cmp op_ne (nomark _) ha hb fun x' y' F1 H1 g1 hx hy Q q => by
    obtain rfl : x' = .bl bb := hx
    obtain rfl : y' = .bl cc := hy
    exact ⟨rfl, q _ F1 H1 (.refl g1.fh) (by show V.bl _ = V.bl _; simp)⟩
/-! ### truth -/
theorem dt_val (h : DE X e σ F H (.bool bb)) (he : ∀ whole, isTrue e X.env whole = (do let v ← whole; standAt e.pos; holding [v] (truthy v)) := by intro _; rfl) : DT X e σ F H bb := fun F1 H1 g Q q =>
  wt_of (pt_val pe_we he) (h F1 H1 g _ fun v F2 H2 g2 hv => ⟨bb, hv, q F2 H2 g2⟩)
theorem DT.of_w (h : DW X e σ F H bb) : DT X e σ F H bb := fun F1 H1 g Q q => wt_of (PW.pt pw_ww) (h F1 H1 g Q q)
theorem dt_not (h : DT X a σ F H bb) : DT X (.UnaryOp .Not a pos) σ F H (!bb) := fun F1 H1 g Q q => wt_of (pt_not pt_wt) (h F1 H1 g _ fun F2 H2 g2 => q F2 H2 g2)
theorem dw_and1 (h : DT X a σ F H bb) : DW X (.BoolOp .And [a] pos) σ F H bb := fun F1 H1 g Q q => ww_of (pw_and1 pt_wt) (h F1 H1 g Q q)
theorem dt_is_w (h : DW X e σ F H bb) (q : bb = cc) : DW X e σ F H cc := q ▸ h
theorem dw_or1 (h : DT X a σ F H bb) : DW X (.BoolOp .Or [a] pos) σ F H bb := fun F1 H1 g Q q => ww_of (pw_or1 pt_wt) (h F1 H1 g Q q)
theorem dw_and (h : DT X a σ F H bb) (h2 : bb = true → DW X (.BoolOp .And (b :: es) pos) σ F H cc) : DW X (.BoolOp .And (a :: b :: es) pos) σ F H (bb && cc) := fun F1 H1 g Q q =>
  ww_of (pw_and pt_wt pw_ww) (h F1 H1 g _ fun F2 H2 g2 => by
    cases bb with
    | true => exact iteT (h2 rfl F2 H2 (g.trans g2) _ fun F3 H3 g3 => q F3 H3 (g2.trans g3))
    | false => exact iteF (q F2 H2 g2))
theorem dw_or (h : DT X a σ F H bb) (h2 : bb = false → DW X (.BoolOp .Or (b :: es) pos) σ F H cc) : DW X (.BoolOp .Or (a :: b :: es) pos) σ F H (bb || cc) := fun F1 H1 g Q q =>
  ww_of (pw_or pt_wt pw_ww) (h F1 H1 g _ fun F2 H2 g2 => by
    cases bb with
    | true => exact iteT (q F2 H2 g2)
    | false => exact iteF (h2 rfl F2 H2 (g.trans g2) _ fun F3 H3 g3 => q F3 H3 (g2.trans g3)))
theorem de_one {op} (h : DE X a σ F H d) : DE X (.BoolOp op [a] pos) σ F H d := fun F1 H1 g Q q => we_of (pe_one pe_we) (h F1 H1 g Q q)
theorem de_and (h : DE X a σ F H (.bool bb)) (h2 : bb = true → DE X (.BoolOp .And (b :: es) pos) σ F H (.bool cc)) : DE X (.BoolOp .And (a :: b :: es) pos) σ F H (.bool (bb && cc)) := fun F1 H1 g Q q =>
  we_of (pe_and pe_we pe_we) (h F1 H1 g _ fun v F2 H2 g2 hv => ⟨bb, hv, by
    cases bb with
    | true => exact iteT (h2 rfl F2 H2 (g.trans g2) _ fun w F3 H3 g3 hw => q w F3 H3 (g2.trans g3) hw)
    | false => exact iteF (q _ F2 H2 g2 rfl)⟩)
theorem de_or (h : DE X a σ F H (.bool bb)) (h2 : bb = false → DE X (.BoolOp .Or (b :: es) pos) σ F H (.bool cc)) : DE X (.BoolOp .Or (a :: b :: es) pos) σ F H (.bool (bb || cc)) := fun F1 H1 g Q q =>
  we_of (pe_or pe_we pe_we) (h F1 H1 g _ fun v F2 H2 g2 hv => ⟨bb, hv, by
    cases bb with
    | true => exact iteT (q _ F2 H2 g2 rfl)
    | false => exact iteF (h2 rfl F2 H2 (g.trans g2) _ fun w F3 H3 g3 hw => q w F3 H3 (g2.trans g3) hw)⟩)
theorem de_not (h : DE X a σ F H (.bool bb)) : DE X (.UnaryOp .Not a pos) σ F H (.bool (!bb)) := fun F1 H1 g Q q => we_of (pe_not pe_we) (h F1 H1 g _ fun v F2 H2 g2 hv => ⟨bb, hv, q _ F2 H2 g2 rfl⟩)
theorem de_ifExp (hc : DT X c σ F H bb) (ha : bb = true → DE X a σ F H d) (hb : bb = false → DE X b σ F H d) : DE X (.IfExp c a b pos) σ F H d := fun F1 H1 g Q q =>
  we_of (pe_ifExp pt_wt pe_we pe_we) (hc F1 H1 g _ fun F2 H2 g2 => by
    cases bb with
    | true => exact iteT (ha rfl F2 H2 (g.trans g2) _ fun w F3 H3 g3 hw => q w F3 H3 (g2.trans g3) hw)
    | false => exact iteF (hb rfl F2 H2 (g.trans g2) _ fun w F3 H3 g3 hw => q w F3 H3 (g2.trans g3) hw))
/-! ### argument lists, displays -/
theorem dl_nil : DL X [] σ F H [] := fun F1 H1 g Q q => wa_of pa_nil (q [] F1 H1 (.refl g.fh) daAll_nil)
theorem dl_cons (h : DE X e σ F H d) (t : DL X es σ F H ds) (hs : starEach (e :: es) X.env = (false, eval e X.env) :: starEach es X.env := by rfl) : DL X (e :: es) σ F H (d :: ds) := fun F1 H1 g Q q =>
  wa_of (pa_cons pe_we pa_wa hs) (h F1 H1 g _ fun v F2 H2 g2 hv => t F2 H2 (g.trans g2) _ fun vs F3 H3 g3 hvs => q (v :: vs) F3 H3 (g2.trans g3) (daAll_cons (g3.da hv) hvs))
theorem de_lst (h : DL X es σ F H ds) (hz : ds.length ≤ sizeLine := by decide) : DE X (.List es pos) σ F H (.list ds) := fun F1 H1 g Q q =>
  we_of (pe_lst pa_wa) (h F1 H1 g _ fun vs F2 H2 g2 hvs => ⟨by rw [hvs.length]; exact hz, fun p hp => q (.ref p) (upd F2 p (.lst vs)) _ (g2.shut hp) ⟨p, vs, rfl, upd_same, hvs.mono (same_upd (g2.fh.free hp))⟩⟩)
theorem de_tup {x1} (h : DL X es σ F H ds) (hz : ds.length ≤ sizeLine := by decide) : DE X (.Tuple es x1 pos) σ F H (.tuple ds) := fun F1 H1 g Q q =>
  we_of (pe_tup pa_wa) (h F1 H1 g _ fun vs F2 H2 g2 hvs => ⟨by rw [hvs.length]; exact hz, fun p hp => q (.ref p) (upd F2 p (.tup vs)) _ (g2.shut hp) ⟨p, vs, rfl, upd_same, hvs.mono (same_upd (g2.fh.free hp))⟩⟩)
/-! ### items -/
theorem ixN_len {n m : Nat} {i : Int} (h : n = m) : ixN n i = ixN m i := by rw [h]
theorem DaAll.atI {H : Hp} {ds : List PyData} {vs : List V} {i : Int} {d : PyData} (h : DaAll H ds vs) (e : L2.atI ds i = some d) : ∃ v, L2.atI vs i = some v ∧ Da H d v := by
  unfold L2.atI at e ⊢
  rw [h.length]
  cases hj : ixN ds.length i with
  | none => rw [hj] at e; simp at e
  | some j =>
    rw [hj] at e
    exact h.get (by simpa using e)
theorem de_ixT (ha : DE X a σ F H (.tuple ds)) (hb : DE X b σ F H (.int i)) (h : L2.atI ds i = some d) (hs : PlainIx b := by exact fun _ _ => rfl) : DE X (.Subscript a b pos) σ F H d := fun F1 H1 g Q q =>
  we_of (pe_ix ix_tup pe_we pe_we hs) (ha F1 H1 g _ fun x F2 H2 g2 hx => hb F2 H2 (g.trans g2) _ fun y F3 H3 g3 hy => by
    obtain ⟨p, vs, rfl, h1, h2⟩ := hx
    obtain ⟨v, hv, hd⟩ := h2.atI h
    exact ⟨p, vs, i, v, rfl, hy, SqT.of (g3.same _ _ h1), hv, q v F3 H3 (g2.trans g3) (g3.da hd)⟩)
theorem de_ixL (ha : DE X a σ F H (.list ds)) (hb : DE X b σ F H (.int i)) (h : L2.atI ds i = some d) (hs : PlainIx b := by exact fun _ _ => rfl) : DE X (.Subscript a b pos) σ F H d := fun F1 H1 g Q q =>
  we_of (pe_ix ix_list pe_we pe_we hs) (ha F1 H1 g _ fun x F2 H2 g2 hx => hb F2 H2 (g.trans g2) _ fun y F3 H3 g3 hy => by
    obtain ⟨p, vs, rfl, h1, h2⟩ := hx
    obtain ⟨v, hv, hd⟩ := h2.atI h
    exact ⟨p, vs, i, v, rfl, hy, SqL.of (g3.same _ _ h1), hv, q v F3 H3 (g2.trans g3) (g3.da hd)⟩)
theorem de_ixS {z : Str} {cp : Nat} (ha : DE X a σ F H (.str z)) (hb : DE X b σ F H (.int i)) (hz : z.length ≤ sizeLine) (h : L2.atI z.cps.toList i = some cp) (hs : PlainIx b := by exact fun _ _ => rfl) : DE X (.Subscript a b pos) σ F H (.str ⟨#[cp]⟩) := fun F1 H1 g Q q =>
  we_of (pe_ix ix_str pe_we pe_we hs) (ha F1 H1 g _ fun x F2 H2 g2 hx => hb F2 H2 (g.trans g2) _ fun y F3 H3 g3 hy => by
    exact ⟨z, i, cp, hx, hy, hz, h, q _ F3 H3 (g2.trans g3) rfl⟩)
/-! ### calls of what is built in -/
theorem de_callB {id : String} {r : List V → Hp → VK → Prop} (hc : CallR X (.builtin id) r) (hg : Gl X x) (hm : X.mg x = none) (hv : bootBuiltins x = some (.builtin id)) (ha : DL X (e :: es) σ F H ds)
    (hr : ∀ vs F1 H1, Gr F H F1 H1 → DaAll F1 ds vs → ∀ Q : VK, (∀ v F2 H2, Gr F1 H1 F2 H2 → Da F2 d v → Q v H2) → r vs H1 Q)
    (n : Nm x) (l : Pl X e es pos) : DE X (.Call (.Name x p) (e :: es) [] pos) σ F H d := fun F1 H1 g Q q =>
  we_of (pe_callB hc hg hm hv pa_wa n.hn n.hdb l.he l.hpl) (ha F1 H1 g _ fun vs F2 H2 g2 hvs => hr vs F2 H2 (g.trans g2) hvs Q fun v F3 H3 g3 hv => q v F3 H3 (g2.trans g3) hv)
theorem de_callTy {T : String} {r : List V → Hp → VK → Prop} (hc : CallR X (.type T) r) (hg : Gl X x) (hm : X.mg x = none) (hv : bootBuiltins x = some (.type T)) (ha : DL X (e :: es) σ F H ds)
    (hr : ∀ vs F1 H1, Gr F H F1 H1 → DaAll F1 ds vs → ∀ Q : VK, (∀ v F2 H2, Gr F1 H1 F2 H2 → Da F2 d v → Q v H2) → r vs H1 Q)
    (n : Nm x) (l : Pl X e es pos) : DE X (.Call (.Name x p) (e :: es) [] pos) σ F H d := fun F1 H1 g Q q =>
  we_of (pe_callTy hc hg hm hv pa_wa n.hn n.hdb l.he l.hpl) (ha F1 H1 g _ fun vs F2 H2 g2 hvs => hr vs F2 H2 (g.trans g2) hvs Q fun v F3 H3 g3 hv => q v F3 H3 (g2.trans g3) hv)
theorem daAll1 {H : Hp} {vs : List V} (h : DaAll H [d] vs) : ∃ v, vs = [v] ∧ Da H d v := by
  obtain ⟨v, r, rfl, h1, h2⟩ := h
  obtain rfl : r = [] := h2
  exact ⟨v, rfl, h1⟩
theorem daAll2 {H : Hp} {vs : List V} (h : DaAll H [d1, d2] vs) : ∃ v u, vs = [v, u] ∧ Da H d1 v ∧ Da H d2 u := by
  obtain ⟨v, r, rfl, h1, h2⟩ := h
  obtain ⟨u, rfl, h3⟩ := daAll1 h2
  exact ⟨v, u, rfl, h1, h3⟩
theorem de_lenL (hm : X.mg "len" = none) (ha : DE X e σ F H (.list ds)) (hg : Gl X "len" := by rfl) (l : Pl X e [] pos := by exact ⟨rfl, rfl⟩) : DE X (.Call (.Name "len" p) [e] [] pos) σ F H (.int ds.length) :=
  de_callB call_len hg hm PySem.boot_len (dl_cons ha dl_nil l.he) (fun vs F1 H1 g1 hv Q q => by
    obtain ⟨v, rfl, a, xs, rfl, h1, h2⟩ := daAll1 hv
    exact ⟨_, xs.length, rfl, .inl ⟨xs, SqL.of (g1.fh _ _ h1), rfl⟩, q _ F1 H1 (.refl g1.fh) (by rw [h2.length]; rfl)⟩) ⟨by decide, by decide⟩ l
theorem de_lenT (hm : X.mg "len" = none) (ha : DE X e σ F H (.tuple ds)) (hg : Gl X "len" := by rfl) (l : Pl X e [] pos := by exact ⟨rfl, rfl⟩) : DE X (.Call (.Name "len" p) [e] [] pos) σ F H (.int ds.length) :=
  de_callB call_len hg hm PySem.boot_len (dl_cons ha dl_nil l.he) (fun vs F1 H1 g1 hv Q q => by
    obtain ⟨v, rfl, a, xs, rfl, h1, h2⟩ := daAll1 hv
    exact ⟨_, xs.length, rfl, .inr ⟨xs, SqT.of (g1.fh _ _ h1), rfl⟩, q _ F1 H1 (.refl g1.fh) (by rw [h2.length]; rfl)⟩) ⟨by decide, by decide⟩ l
theorem de_lenS {z : Str} (hm : X.mg "len" = none) (ha : DE X e σ F H (.str z)) (hz : z.length ≤ sizeLine) (hg : Gl X "len" := by rfl) (l : Pl X e [] pos := by exact ⟨rfl, rfl⟩) : DE X (.Call (.Name "len" p) [e] [] pos) σ F H (.int z.length) :=
  de_callB call_len hg hm PySem.boot_len (dl_cons ha dl_nil l.he) (fun vs F1 H1 g1 hv Q q => by
    obtain ⟨v, rfl, h1⟩ := daAll1 hv
    obtain rfl : v = .str z := h1
    exact ⟨_, z.length, rfl, ⟨hz, rfl⟩, q _ F1 H1 (.refl g1.fh) rfl⟩) ⟨by decide, by decide⟩ l
theorem de_listL (hm : X.mg "list" = none) (ha : DE X e σ F H (.list ds)) (hg : Gl X "list" := by rfl) (l : Pl X e [] pos := by exact ⟨rfl, rfl⟩) : DE X (.Call (.Name "list" p) [e] [] pos) σ F H (.list ds) :=
  de_callTy call_list_of hg hm (by decide +kernel) (dl_cons ha dl_nil l.he) (fun vs F1 H1 g1 hv Q q => by
    obtain ⟨v, rfl, a, xs, rfl, h1, h2⟩ := daAll1 hv
    exact ⟨_, xs, rfl, .inl (SqL.of (g1.fh _ _ h1)), fun l hl => q _ (upd F1 l (.lst xs)) _ ((Gr.refl g1.fh).shut hl) ⟨l, xs, rfl, upd_same, h2.mono (same_upd (g1.fh.free hl))⟩⟩) ⟨by decide, by decide⟩ l
theorem de_cat {ds es : List PyData} (ha : DE X a σ F H (.list ds)) (hb : DE X b σ F H (.list es)) (hz : ds.length + es.length ≤ sizeLine) : DE X (.BinOp a .Add b pos) σ F H (.list (ds ++ es)) :=
  de_op op_cat ha hb fun x y F1 H1 g1 hx hy Q q => by
    obtain ⟨p, xs, rfl, h1, h2⟩ := hx
    obtain ⟨r, ys, rfl, h3, h4⟩ := hy
    exact ⟨p, r, xs, ys, rfl, rfl, g1.fh _ _ h1, g1.fh _ _ h3, by rw [h2.length, h4.length]; exact hz, fun l hl => q _ (upd F1 l (.lst (xs ++ ys))) _ ((Gr.refl g1.fh).shut hl) ⟨l, xs ++ ys, rfl, upd_same, (h2.append h4).mono (same_upd (g1.fh.free hl))⟩⟩
theorem daAll_rep {H : Hp} {vs : List V} (h : DaAll H ds vs) : ∀ n : Nat, DaAll H (List.replicate n ds).flatten (List.replicate n vs).flatten
  | 0 => daAll_nil
  | n + 1 => by
    rw [List.replicate_succ, List.replicate_succ, List.flatten_cons, List.flatten_cons]
    exact h.append (daAll_rep h n)
theorem de_rep {n : Int} (ha : DE X a σ F H (.list ds)) (hb : DE X b σ F H (.int n)) (h1 : -(2 ^ 63) ≤ n) (h2 : n < 2 ^ 63) (hz : ds.length * n.toNat ≤ sizeLine) : DE X (.BinOp a .Mult b pos) σ F H (.list (List.replicate n.toNat ds).flatten) :=
  de_op op_rep ha hb fun x y F1 H1 g1 hx hy Q q => by
    obtain ⟨p, xs, rfl, h3, h4⟩ := hx
    exact ⟨p, n, xs, rfl, hy, g1.fh _ _ h3, h1, h2, by rw [h4.length]; exact hz, fun l hl => q _ (upd F1 l (.lst (List.replicate n.toNat xs).flatten)) _ ((Gr.refl g1.fh).shut hl) ⟨l, _, rfl, upd_same, (daAll_rep h4 _).mono (same_upd (g1.fh.free hl))⟩⟩
theorem de_addS {x y : Str} (ha : DE X a σ F H (.str x)) (hb : DE X b σ F H (.str y)) (hz : x.length + y.length ≤ sizeLine) : DE X (.BinOp a .Add b pos) σ F H (.str (x ++ y)) :=
  de_op op_add_str ha hb fun x' y' F1 H1 g1 hx hy Q q => ⟨x, y, hx, hy, hz, q _ F1 H1 (.refl g1.fh) rfl⟩
/-! ### isinstance -/
def tyName : PyData → String
  | .none => "NoneType"
  | .bool _ => "bool"
  | .int _ => "int"
  | .str _ => "str"
  | .list _ => "list"
  | .tuple _ => "tuple"
  | .dict _ => "dict"
theorem da_ty {K : PySem.W.Frag} {H : Hp} {d : PyData} {v : V} (h : Da H d v) : TyX K H v (.type (tyName d)) := by
  cases d with
  | none => obtain rfl : v = .non := h; exact .base .non
  | bool c => obtain rfl : v = .bl c := h; exact .base (.bl c)
  | int c => obtain rfl : v = .int c := h; exact .base (.int c)
  | str c => obtain rfl : v = .str c := h; exact .base (.str c)
  | list ds => obtain ⟨p, vs, rfl, h1, h2⟩ := h; exact .base (.lst h1)
  | tuple ds => obtain ⟨p, vs, rfl, h1, h2⟩ := h; exact .base (.tup h1)
  | dict _ => obtain ⟨p, es, rfl, h1, h2⟩ := h; exact .base (.dK h1)
theorem de_isi {T : Str} {tn : String} {q1 q2 : Pos} (hm : X.mg "isinstance" = none) (hmT : X.mg T = none) (ha : DE X e σ F H d) (hb : kitB (tyName d) tn = some bb) (hv : bootBuiltins T = some (.type tn) := by decide +kernel) (hg : Gl X "isinstance" := by rfl) (hgT : Gl X T := by rfl) (n : Nm T := by exact ⟨by decide, by decide⟩)
    (l : Pl X e [.Name T pos] q2 := by exact ⟨rfl, rfl⟩) (l2 : starEach [.Name T pos] X.env = [(false, eval (.Name T pos) X.env)] := by rfl) : DE X (.Call (.Name "isinstance" q1) [e, .Name T pos] [] q2) σ F H (.bool bb) := fun F1 H1 g Q q =>
  we_of (pe_callB call_isi hg hm (by decide +kernel) (pa_cons pe_we (pa_cons (pe_bltn (v := .ty tn) hgT hmT hv rfl n.hn n.hdb) pa_nil l2) l.he) (by decide) (by decide) l.he l.hpl) (ha F1 H1 g _ fun v F2 H2 g2 hv2 =>
    ⟨v, .ty tn, .type (tyName d), .type tn, bb, rfl, .ty tn, da_ty (hv2.mono g2.fh), kit_ty hb, q _ F2 H2 g2 rfl⟩)
end
end Kr

/-! layer Kr3 -/
namespace Kr
open PySem L2
/-! ## targets -/
def WG (X : Cx) (tg : Expr) : TG := fun v σ H Q => ∀ (pins : List (Addr × Obj)) (s : Shared) (u : Value), Inv X pins σ H s → RelV v u →
  wpAny (model X.prog X.w) X.A (assign tg X.env u) (fun _ s' => ∃ σ' H', Inv X pins σ' H' s' ∧ Q σ' H') X.xe s
theorem pg_wg {X : Cx} {tg : Expr} : PG X tg (WG X tg) := ⟨fun pins s σ H v u Q I r h => h pins s u I r⟩
theorem wg_of {X : Cx} {tg : Expr} {t : TG} {v : V} {σ : St} {H : Hp} {Q : St → Hp → Prop} (h : PG X tg t) (q : t v σ H Q) : WG X tg v σ H Q := fun pins s u I r => h.run pins s σ H v u Q I r q
section
variable {X : Cx} {σ : St} {F H : Hp} {v : V} {Q : St → Hp → Prop} {x : Str} {pos : Pos} {t1 t2 t3 : Expr} {d1 d2 d3 : PyData}
theorem wg_name (i : Nat) (hN : X.N.Nodup) (q : Q (σ.set i (some v)) H) (hi : X.N[i]? = some x := by rfl) (hx : Loc X.env.scope x := by first | exact .inl rfl | exact .inr rfl) (hf : X.fn x = true ∨ X.env.scope.names.lookup x = some .local := by first | exact .inl rfl | exact .inr rfl) : WG X (.Name x pos) v σ H Q := wg_of (pg_name hN hi hx hf) q
theorem wg_tup2 {k : Nat} (hc : X.calm = true) (h : Da F (.tuple [d1, d2]) v) (s : Same F H) (q : ∀ v1 v2, Da F d1 v1 → Da F d2 v2 → WG X t1 v1 σ H (fun σ1 H1 => WG X t2 v2 σ1 H1 Q))
    (hs : (assignEach [t1, t2] X.env).map (·.2) = assign t1 X.env :: (assignEach [t2] X.env).map (·.2) := by rfl) (hs2 : (assignEach [t2] X.env).map (·.2) = assign t2 X.env :: (assignEach [] X.env).map (·.2) := by rfl)
    (hn : (assignEach [t1, t2] X.env).length = 2 := by rfl) (hst : (assignEach [t1, t2] X.env).findIdx? (·.1) = none := by rfl) : WG X (.Tuple [t1, t2] k pos) v σ H Q := by
  obtain ⟨a, xs, rfl, h1, h2⟩ := h
  obtain ⟨v1, v2, rfl, e1, e2⟩ := daAll2 h2
  refine wg_of (pg_tup hc (pgs_cons pg_wg (pgs_cons pg_wg pgs_nil hs2) hs) hn hst) ⟨a, [v1, v2], rfl, SqT.of (s _ _ h1), rfl, v1, [v2], rfl, ?_⟩
  intro pins sh u I r
  refine thn (q v1 v2 e1 e2 pins sh u I r) fun _ s' ⟨σ1, H1, I1, q1⟩ => ⟨σ1, H1, I1, v2, [], rfl, ?_⟩
  intro pins' sh' u' I' r'
  exact thn (q1 pins' sh' u' I' r') fun _ s2 ⟨σ2, H2, I2, q2⟩ => ⟨σ2, H2, I2, rfl, q2⟩
theorem wg_tup3 {k : Nat} (hc : X.calm = true) (h : Da F (.tuple [d1, d2, d3]) v) (s : Same F H) (q : ∀ v1 v2 v3, Da F d1 v1 → Da F d2 v2 → Da F d3 v3 → WG X t1 v1 σ H (fun σ1 H1 => WG X t2 v2 σ1 H1 (fun σ2 H2 => WG X t3 v3 σ2 H2 Q)))
    (hs : (assignEach [t1, t2, t3] X.env).map (·.2) = assign t1 X.env :: (assignEach [t2, t3] X.env).map (·.2) := by rfl) (hs2 : (assignEach [t2, t3] X.env).map (·.2) = assign t2 X.env :: (assignEach [t3] X.env).map (·.2) := by rfl) (hs3 : (assignEach [t3] X.env).map (·.2) = assign t3 X.env :: (assignEach [] X.env).map (·.2) := by rfl)
    (hn : (assignEach [t1, t2, t3] X.env).length = 3 := by rfl) (hst : (assignEach [t1, t2, t3] X.env).findIdx? (·.1) = none := by rfl) : WG X (.Tuple [t1, t2, t3] k pos) v σ H Q := by
  obtain ⟨a, xs, rfl, h1, v1, r, rfl, e1, h2⟩ := h
  obtain ⟨v2, v3, rfl, e2, e3⟩ := daAll2 h2
  refine wg_of (pg_tup hc (pgs_cons pg_wg (pgs_cons pg_wg (pgs_cons pg_wg pgs_nil hs3) hs2) hs) hn hst) ⟨a, [v1, v2, v3], rfl, SqT.of (s _ _ h1), rfl, v1, [v2, v3], rfl, ?_⟩
  intro pins sh u I r
  refine thn (q v1 v2 v3 e1 e2 e3 pins sh u I r) fun _ s' ⟨σ1, H1, I1, q1⟩ => ⟨σ1, H1, I1, v2, [v3], rfl, ?_⟩
  intro pins' sh' u' I' r'
  refine thn (q1 pins' sh' u' I' r') fun _ s2 ⟨σ2, H2, I2, q2⟩ => ⟨σ2, H2, I2, v3, [], rfl, ?_⟩
  intro pins3 sh3 u3 I3 r3
  exact thn (q2 pins3 sh3 u3 I3 r3) fun _ s4 ⟨σ4, H4, I4, q4⟩ => ⟨σ4, H4, I4, rfl, q4⟩
/-- o[i] = v of an open list -/
theorem wg_sub {o i : Expr} {l : Addr} {xs : List V} {k : Int} {j : Nat} (ho : VE X o σ F H (.ref l)) (hi : DE X i σ F H (.int k)) (s : Same F H) (hl : H l = some (.lst xs)) (hj : ixN xs.length k = some j) (q : ∀ F2 H2, Gr F H F2 H2 → Q σ (upd H2 l (.lst (xs.set j v))))
    (ha : ∀ v, assign (.Subscript o i pos) X.env v = (do
      let ov ← holding [v] (eval o X.env)
      let iv ← holding [v, ov] (eval i X.env)
      standAt pos
      holding [v, ov, iv] (setItem ov iv v)
      release [v, ov, iv] []) := by intro _; rfl) : WG X (.Subscript o i pos) v σ H Q :=
  wg_of (pg_sub pe_we pe_we set_list ha) (ho F H (.refl s) _ fun F2 H2 g2 => hi F2 H2 g2 _ fun y F3 H3 g3 hy => ⟨l, xs, k, j, rfl, hy, (g2.trans g3).hh _ _ hl, hj, q F3 H3 (g2.trans g3)⟩)
end

/-! ## what is walked -/
def Walks (J : It) (F2 : Hp) (ds : List PyData) : Prop := ∀ F3 H3, Same F2 F3 → Same F3 H3 →
  (∀ (i : Nat) d, ds[i]? = some d → J.go i H3 ∧ ∀ x H4, J.yld i H3 x H4 → ∃ F4, Gr F3 H3 F4 H4 ∧ Da F4 d x) ∧ J.stop ds.length H3
/-- .. leaving the heap at each turn -/
def Walks0 (J : It) (F2 : Hp) (ds : List PyData) : Prop := ∀ F3 H3, Same F2 F3 → Same F3 H3 →
  (∀ (i : Nat) d, ds[i]? = some d → J.go i H3 ∧ ∀ x H4, J.yld i H3 x H4 → H4 = H3 ∧ Da F3 d x) ∧ J.stop ds.length H3
theorem Walks0.w {J : It} {F2 : Hp} {ds : List PyData} (h : Walks0 J F2 ds) : Walks J F2 ds := fun F3 H3 s1 s2 => ⟨fun i d e => ⟨((h F3 H3 s1 s2).1 i d e).1, fun x H4 y => by
  obtain ⟨rfl, hd⟩ := ((h F3 H3 s1 s2).1 i d e).2 x H4 y
  exact ⟨F3, .refl s2, hd⟩⟩, (h F3 H3 s1 s2).2⟩
def DI (X : Cx) (tg iter : Expr) (σ : St) (F H : Hp) (ds : List PyData) : Prop := ∀ F1 H1, Gr F H F1 H1 → ∀ R : It → Hp → Prop, (∀ J F2 H2, Gr F1 H1 F2 H2 → Walks J F2 ds → R J H2) → WI X tg iter σ H1 R
def DI0 (X : Cx) (tg iter : Expr) (σ : St) (F H : Hp) (ds : List PyData) : Prop := ∀ F1 H1, Gr F H F1 H1 → ∀ R : It → Hp → Prop, (∀ J F2 H2, Gr F1 H1 F2 H2 → Walks0 J F2 ds → R J H2) → WI X tg iter σ H1 R
theorem DI0.i {X : Cx} {tg iter : Expr} {σ : St} {F H : Hp} {ds : List PyData} (h : DI0 X tg iter σ F H ds) : DI X tg iter σ F H ds := fun F1 H1 g R q => h F1 H1 g R fun J F2 H2 g2 w => q J F2 H2 g2 w.w
theorem getV {H : Hp} {ds : List PyData} {xs : List V} {i : Nat} {d : PyData} {x : V} (h : DaAll H ds xs) (e : ds[i]? = some d) (ex : xs[i]? = some x) : Da H d x := by
  obtain ⟨v, hv, hd⟩ := h.get e
  rw [ex] at hv; cases hv; exact hd
section
variable {X : Cx} {tg e e2 : Expr} {σ : St} {F H : Hp} {ds es : List PyData} {i j : Int} {pos p : Pos} {x : Str}
theorem di_list (h : DE X e σ F H (.list ds)) : DI0 X tg e σ F H ds := fun F1 H1 g R q => wi_of (pi_list pe_we) (h F1 H1 g _ fun v F2 H2 g2 hv => by
  obtain ⟨a, xs, rfl, h1, h2⟩ := hv
  refine ⟨a, rfl, ⟨xs, SqL.of (g2.fh _ _ h1)⟩, q _ F2 H2 g2 fun F3 H3 s1 s2 => ⟨fun i d e => ?_, xs, SqL.of (s2 _ _ (s1 _ _ h1)), by rw [h2.length]; exact Nat.le_refl _⟩⟩
  obtain ⟨v, hv, hd⟩ := h2.get e
  exact ⟨⟨xs, v, SqL.of (s2 _ _ (s1 _ _ h1)), hv⟩, fun x H4 y => ⟨y.1, (getV h2 e (y.2 xs (SqL.of (s2 _ _ (s1 _ _ h1))))).mono s1⟩⟩)
theorem di_tup (h : DE X e σ F H (.tuple ds)) : DI0 X tg e σ F H ds := fun F1 H1 g R q => wi_of (pi_tup pe_we) (h F1 H1 g _ fun v F2 H2 g2 hv => by
  obtain ⟨a, xs, rfl, h1, h2⟩ := hv
  refine ⟨a, rfl, ⟨xs, SqT.of (g2.fh _ _ h1)⟩, q _ F2 H2 g2 fun F3 H3 s1 s2 => ⟨fun i d e => ?_, xs, SqT.of (s2 _ _ (s1 _ _ h1)), by rw [h2.length]; exact Nat.le_refl _⟩⟩
  obtain ⟨v, hv, hd⟩ := h2.get e
  exact ⟨⟨xs, v, SqT.of (s2 _ _ (s1 _ _ h1)), hv⟩, fun x H4 y => ⟨y.1, (getV h2 e (y.2 xs (SqT.of (s2 _ _ (s1 _ _ h1))))).mono s1⟩⟩)
def signsD (z : Str) : List PyData := z.cps.toList.map fun c => .str ⟨#[c]⟩
theorem di_str {z : Str} (h : DE X e σ F H (.str z)) : DI0 X tg e σ F H (signsD z) := fun F1 H1 g R q => wi_of (pi_str pe_we) (h F1 H1 g _ fun v F2 H2 g2 hv => by
  refine ⟨z, hv, q _ F2 H2 g2 fun F3 H3 s1 s2 => ⟨fun i d e => ?_, by show z.cps.size ≤ _; simp [signsD]⟩⟩
  unfold signsD at e
  rw [List.getElem?_map] at e
  cases hc : z.cps.toList[i]? with
  | none => rw [hc] at e; simp at e
  | some c =>
    rw [hc] at e
    have e' : PyData.str ⟨#[c]⟩ = d := by simpa using e
    subst e'
    have hlt : i < z.cps.size := by
      have := (List.getElem?_eq_some_iff.mp hc).1
      simpa using this
    refine ⟨hlt, fun x H4 y => ⟨y.1, ?_⟩⟩
    obtain ⟨c', hc', rfl⟩ := y.2
    have : some c' = some c := by rw [← hc', ← hc]; simp
    cases this
    rfl)
/-- the intsD from i on, below j -/
def intsD (i j : Int) : List PyData := (List.range (j - i).toNat).map fun k => .int (i + (k : Nat))
theorem intsD_length {i j : Int} : (intsD i j).length = (j - i).toNat := by simp [intsD]
theorem intsD_get {i j : Int} {k : Nat} {d : PyData} (h : (intsD i j)[k]? = some d) : d = .int (i + k) ∧ k < (j - i).toNat := by
  unfold intsD at h
  rw [List.getElem?_map] at h
  cases hc : (List.range (j - i).toNat)[k]? with
  | none => rw [hc] at h; simp at h
  | some c =>
    rw [hc] at h
    obtain ⟨hl, e⟩ := List.getElem?_eq_some_iff.mp hc
    simp at e hl
    subst e
    simp at h
    exact ⟨h.symm, by omega⟩
theorem walks_rng (i : Int) (n : Nat) {F2 : Hp} {j : Int} (hn : n = (j - i).toNat) : Walks0 (Itr i n) F2 (intsD i j) := fun F3 H3 s1 s2 => ⟨fun k d e => by
  obtain ⟨rfl, hk⟩ := intsD_get e
  exact ⟨by show k < n; omega, fun x H4 y => ⟨y.1, y.2⟩⟩, by show n ≤ _; rw [intsD_length]; omega⟩
theorem di_range1 (hm : X.mg "range" = none) (h : DE X e σ F H (.int j)) (hj : -(2 ^ 62) ≤ j ∧ j < 2 ^ 62) (hg : Gl X "range" := by rfl) (l : Pl X e [] pos := by exact ⟨rfl, rfl⟩) : DI0 X tg (.Call (.Name "range" p) [e] [] pos) σ F H (intsD 0 j) := fun F1 H1 g R q =>
  wi_of (pi_range1 hg hm (pa_cons pe_we pa_nil l.he) (hs := l.he)) (h F1 H1 g _ fun v F2 H2 g2 hv => by
    obtain rfl : v = .int j := hv
    exact ⟨j, rfl, hj.1, hj.2, q _ F2 H2 g2 (walks_rng 0 _ (by simp))⟩)
theorem di_range2 (hm : X.mg "range" = none) (h : DE X e σ F H (.int i)) (h2 : DE X e2 σ F H (.int j)) (hi : -(2 ^ 62) ≤ i ∧ i < 2 ^ 62) (hj : -(2 ^ 62) ≤ j ∧ j < 2 ^ 62) (hg : Gl X "range" := by rfl) (l : Pl X e [e2] pos := by exact ⟨rfl, rfl⟩) (l2 : starEach [e2] X.env = [(false, eval e2 X.env)] := by rfl) :
    DI0 X tg (.Call (.Name "range" p) [e, e2] [] pos) σ F H (intsD i j) := fun F1 H1 g R q =>
  wi_of (pi_range2 hg hm (pa_cons pe_we (pa_cons pe_we pa_nil l2) l.he) (hs := l.he.trans (by rw [l2])) (hs2 := l2)) (h F1 H1 g _ fun v F2 H2 g2 hv => h2 F2 H2 (g.trans g2) _ fun v' F3 H3 g3 hv' => by
    obtain rfl : v = .int i := hv
    obtain rfl : v' = .int j := hv'
    exact ⟨i, j, rfl, ⟨hi.1, hi.2, hj.1, hj.2⟩, q _ F3 H3 (g2.trans g3) (walks_rng i _ rfl)⟩)
def enumsD (ds : List PyData) : List PyData := ds.mapIdx fun k d => .tuple [.int (k : Nat), d]
theorem di_enum {elts : List Expr} {kk : Nat} {tpos : Pos} (hm : X.mg "enumerate" = none) (h : DE X e σ F H (.list ds)) (hg : Gl X "enumerate" := by rfl) (l : starEach [e] X.env = [(false, eval e X.env)] := by rfl) : DI X (.Tuple elts kk tpos) (.Call (.Name "enumerate" p) [e] [] pos) σ F H (enumsD ds) := fun F1 H1 g R q =>
  wi_of (pi_enum hg hm (pa_cons pe_we pa_nil l) l) (h F1 H1 g _ fun v F2 H2 g2 hv => by
    obtain ⟨a, xs, rfl, h1, h2⟩ := hv
    refine ⟨a, xs, rfl, SqL.of (g2.fh _ _ h1), q _ F2 H2 g2 fun F3 H3 s1 s2 => ⟨fun i d e => ?_, xs, SqL.of (s2 _ _ (s1 _ _ h1)), by simp [enumsD, h2.length]⟩⟩
    unfold enumsD at e
    rw [List.getElem?_mapIdx] at e
    cases hc : ds[i]? with
    | none => rw [hc] at e; simp at e
    | some d0 =>
      rw [hc] at e
      have e' : PyData.tuple [.int (i : Nat), d0] = d := by simpa using e
      subst e'
      obtain ⟨v, hv, hd⟩ := h2.get hc
      refine ⟨⟨xs, v, SqL.of (s2 _ _ (s1 _ _ h1)), hv⟩, fun x H4 y => ?_⟩
      obtain ⟨T, x0, rfl, nT, rfl, hx⟩ := y
      have hx0 := (getV h2 hc (hx xs (SqL.of (s2 _ _ (s1 _ _ h1))))).mono s1
      exact ⟨upd F3 T (.tup [.int (i : Nat), x0]), (Gr.refl s2).shut nT, T, _, rfl, upd_same, daAll_cons rfl (daAll_cons (hx0.mono (same_upd (s2.free nT))) daAll_nil)⟩)
def zipsD (ds es : List PyData) : List PyData := (ds.zip es).map fun p => .tuple [p.1, p.2]
theorem di_zip {elts : List Expr} {kk : Nat} {tpos : Pos} (hm : X.mg "zip" = none) (h : DE X e σ F H (.list ds)) (h' : DE X e2 σ F H (.list es)) (hg : Gl X "zip" := by rfl) (l : Pl X e [e2] pos := by exact ⟨rfl, rfl⟩) (l2 : starEach [e2] X.env = [(false, eval e2 X.env)] := by rfl) :
    DI X (.Tuple elts kk tpos) (.Call (.Name "zip" p) [e, e2] [] pos) σ F H (zipsD ds es) := fun F1 H1 g R q =>
  wi_of (pi_zip hg hm (pa_cons pe_we (pa_cons pe_we pa_nil l2) l.he) l.he l.hpl) (h F1 H1 g _ fun v F2 H2 g2 hv => h' F2 H2 (g.trans g2) _ fun v' F3 H3 g3 hv' => by
    obtain ⟨a, xs, rfl, h1, h2⟩ := g3.da hv
    obtain ⟨b, ys, rfl, h3, h4⟩ := hv'
    refine ⟨a, b, xs, ys, rfl, SqL.of (g3.fh _ _ h1), SqL.of (g3.fh _ _ h3), q _ F3 H3 (g2.trans g3) fun F5 H5 s1 s2 => ⟨fun i d e => ?_, xs, ys, SqL.of (s2 _ _ (s1 _ _ h1)), SqL.of (s2 _ _ (s1 _ _ h3)), ?_⟩⟩
    · unfold zipsD at e
      rw [List.getElem?_map] at e
      cases hc : (ds.zip es)[i]? with
      | none => rw [hc] at e; simp at e
      | some pr =>
        rw [hc] at e
        have e' : PyData.tuple [pr.1, pr.2] = d := by simpa using e
        subst e'
        have hc' := List.getElem?_zip_eq_some.mp hc
        obtain ⟨v, hv, hd⟩ := h2.get hc'.1
        obtain ⟨v2, hv2, hd2⟩ := h4.get hc'.2
        refine ⟨⟨xs, ys, v, v2, SqL.of (s2 _ _ (s1 _ _ h1)), SqL.of (s2 _ _ (s1 _ _ h3)), hv, hv2⟩, fun x H6 y => ?_⟩
        obtain ⟨T, x0, y0, rfl, nT, rfl, hx, hy⟩ := y
        have hx0 := (getV h2 hc'.1 (hx xs (SqL.of (s2 _ _ (s1 _ _ h1))))).mono s1
        have hy0 := (getV h4 hc'.2 (hy ys (SqL.of (s2 _ _ (s1 _ _ h3))))).mono s1
        exact ⟨upd F5 T (.tup [x0, y0]), (Gr.refl s2).shut nT, T, _, rfl, upd_same, daAll_cons (hx0.mono (same_upd (s2.free nT))) (daAll_cons (hy0.mono (same_upd (s2.free nT))) daAll_nil)⟩
    · unfold zipsD
      rw [List.length_map, List.length_zip, h2.length, h4.length]
      omega)
end

/-! ## statements -/
section
variable {X : Cx} {σ : St} {F H : Hp} {e c : Expr} {d : PyData} {v : V} {D : Ends} {st : Stmt} {rest body orelse : List Stmt} {x : Str} {pos p : Pos} {b : Bool}
theorem ss_nil (q : D.nx σ H) : WSs X [] D σ H := wss_of pss_nil q
theorem ss_cons (h : WS X st { D with nx := WSs X rest D } σ H) : WSs X (st :: rest) D σ H := wss_of (pss_cons ps_ws pss_wss) h
theorem WS.nx {M N : St → Hp → Prop} (h : WS X st { D with nx := M } σ H) (k : ∀ σ' H', M σ' H' → N σ' H') : WS X st { D with nx := N } σ H := fun pins s I => thn (h pins s I) fun f s' q => by
  cases f with
  | next => obtain ⟨σ', H', I', q⟩ := q; exact ⟨σ', H', I', k σ' H' q⟩
  | brk => exact q
  | cont => exact q
  | ret u => exact q
/-- a word between a statement and the rest -/
theorem ss_cut (M : St → Hp → Prop) (h : WS X st { D with nx := M } σ H) (k : ∀ σ' H', M σ' H' → WSs X rest D σ' H') : WSs X (st :: rest) D σ H := ss_cons (h.nx k)
theorem ss_one (h : WS X st D σ H) : WSs X [st] D σ H := wss_of (pss_one ps_ws) h
theorem ws_set (i : Nat) (hN : X.N.Nodup) (h : WE X e σ H fun v H1 => D.nx (σ.set i (some v)) H1) (hs : swapsWith e (some (.Name x p)) pos.line X.env = pure false := by rfl) (hi : X.N[i]? = some x := by rfl) (hx : Loc X.env.scope x := by first | exact .inl rfl | exact .inr rfl)
    (hf : X.fn x = true ∨ X.env.scope.names.lookup x = some .local := by first | exact .inl rfl | exact .inr rfl) : WS X (.Assign [.Name x p] e pos) D σ H := ws_of (ps_set hN hi hx pe_we hs hf) h
theorem ws_ret (h : WE X e σ H D.rt) : WS X (.Return (some e) pos) D σ H := ws_of (ps_ret pe_we) h
theorem ws_retN (h : D.rt .non H) : WS X (.Return none pos) D σ H := ws_of ps_retN h
theorem ws_expr (h : WE X e σ H fun _ H1 => D.nx σ H1) (hs : swapsWith e none pos.line X.env = pure false := by rfl) : WS X (.Expr e pos) D σ H := ws_of (ps_expr pe_we hs) h
theorem ws_if (h : WT X c σ H fun b H1 => if b = true then WSs X body D σ H1 else WSs X orelse D σ H1) : WS X (.If c body orelse pos) D σ H := ws_of (ps_if pt_wt pss_wss pss_wss) h
theorem ws_ifD (h : DT X c σ F H b) (s : Same F H) (h1 : b = true → ∀ F2 H2, Gr F H F2 H2 → WSs X body D σ H2) (h2 : b = false → ∀ F2 H2, Gr F H F2 H2 → WSs X orelse D σ H2) : WS X (.If c body orelse pos) D σ H :=
  ws_if (h.go s fun F2 H2 g => by
    cases b with
    | true => exact iteT (h1 rfl F2 H2 g)
    | false => exact iteF (h2 rfl F2 H2 g))
theorem ws_setD (i : Nat) (hN : X.N.Nodup) (h : DE X e σ F H d) (s : Same F H) (q : ∀ v F2 H2, Gr F H F2 H2 → Da F2 d v → D.nx (σ.set i (some v)) H2) (hs : swapsWith e (some (.Name x p)) pos.line X.env = pure false := by rfl) (hi : X.N[i]? = some x := by rfl) (hx : Loc X.env.scope x := by first | exact .inl rfl | exact .inr rfl)
    (hf : X.fn x = true ∨ X.env.scope.names.lookup x = some .local := by first | exact .inl rfl | exact .inr rfl) : WS X (.Assign [.Name x p] e pos) D σ H := ws_set i hN (h.go s q) hs hi hx hf
theorem ws_retD (h : DE X e σ F H d) (s : Same F H) (q : ∀ v F2 H2, Gr F H F2 H2 → Da F2 d v → D.rt v H2) : WS X (.Return (some e) pos) D σ H := ws_ret (h.go s q)
theorem ws_asg {tg : Expr} (h : WE X e σ H fun v H1 => WG X tg v σ H1 D.nx) (hs : swapsWithSole [tg] e pos.line X.env = pure false := by rfl) (hw : swappedStores [tg] e X.env = pure none := by rfl)
    (h1 : (assignEach [tg] X.env).map (·.2) = [assign tg X.env] := by rfl) : WS X (.Assign [tg] e pos) D σ H := ws_of (ps_asg pe_we pg_wg hs hw h1) h

/-- for, by a word of the turn, the slots and both heaps -/
theorem ws_for {tg iter : Expr} {ds : List PyData} (hp : PassesOwn (model X.prog X.w) X.A X.env X.xe) (hc : X.calm = true) (hi : DI X tg iter σ F H ds) (s : Same F H)
    (k : ∀ F1 H1, Gr F H F1 H1 → ∃ Pv : Nat → St → Hp → Hp → Prop, Pv 0 σ F1 H1 ∧ (∀ i σ' F' H', Pv i σ' F' H' → Same F1 F' ∧ Same F' H') ∧
      (∀ i d v σ' F' H' F4 H4, ds[i]? = some d → Pv i σ' F' H' → Gr F' H' F4 H4 → Da F4 d v → WG X tg v σ' H4 fun σ2 H2 => WSs X body { D with nx := fun σ3 H3 => ∃ F3, Pv (i + 1) σ3 F3 H3, ct := fun σ3 H3 => ∃ F3, Pv (i + 1) σ3 F3 H3, bk := D.nx } σ2 H2) ∧
      (∀ σ' F' H', Pv ds.length σ' F' H' → D.nx σ' H')) (hs : ∀ x, foldedSetIterable iter X.env x = pure x := by intro _; rfl) : WS X (.For tg iter body [] pos) D σ H :=
  ws_of (ps_for hp hc pi_wi pg_wg pss_wss hs) (hi F H (.refl s) _ fun J F2 H2 g2 w => by
    obtain ⟨Pv, h0, hF, hS, hD⟩ := k F2 H2 g2
    refine ⟨fun i m σ' H' => m = ds.length - i ∧ i ≤ ds.length ∧ ∃ F', Pv i σ' F' H', ⟨ds.length, by simp, Nat.zero_le _, F2, h0⟩, ?_⟩
    rintro i m σ' H' ⟨rfl, hi', F', p⟩
    obtain ⟨s1, s2⟩ := hF _ _ _ _ p
    obtain ⟨w1, w2⟩ := w F' H' s1 s2
    by_cases hlt : i < ds.length
    · have e : ds[i]? = some ds[i] := List.getElem?_eq_getElem hlt
      obtain ⟨go, yl⟩ := w1 i _ e
      refine .inr ⟨go, fun σ3 H3 => ∃ F3, Pv (i + 1) σ3 F3 H3, fun σ3 H3 p' => ⟨ds.length - (i + 1), by omega, rfl, hlt, p'⟩, fun x H4 y => ?_⟩
      obtain ⟨F4, g4, hd⟩ := yl x H4 y
      exact hS i _ x σ' F' H' F4 H4 e p g4 hd
    · have e : i = ds.length := by omega
      subst e
      exact .inl ⟨w2, hD σ' F' H' p⟩)
/-- .. where the walk leaves the heap -/
theorem ws_for0 {tg iter : Expr} {ds : List PyData} (hp : PassesOwn (model X.prog X.w) X.A X.env X.xe) (hc : X.calm = true) (hi : DI0 X tg iter σ F H ds) (s : Same F H)
    (k : ∀ F1 H1, Gr F H F1 H1 → ∃ Pv : Nat → St → Hp → Hp → Prop, Pv 0 σ F1 H1 ∧ (∀ i σ' F' H', Pv i σ' F' H' → Same F1 F' ∧ Same F' H') ∧
      (∀ i d v σ' F' H', ds[i]? = some d → Pv i σ' F' H' → Da F' d v → WG X tg v σ' H' fun σ2 H2 => WSs X body { D with nx := fun σ3 H3 => ∃ F3, Pv (i + 1) σ3 F3 H3, ct := fun σ3 H3 => ∃ F3, Pv (i + 1) σ3 F3 H3, bk := D.nx } σ2 H2) ∧
      (∀ σ' F' H', Pv ds.length σ' F' H' → D.nx σ' H')) (hs : ∀ x, foldedSetIterable iter X.env x = pure x := by intro _; rfl) : WS X (.For tg iter body [] pos) D σ H :=
  ws_of (ps_for hp hc pi_wi pg_wg pss_wss hs) (hi F H (.refl s) _ fun J F2 H2 g2 w => by
    obtain ⟨Pv, h0, hF, hS, hD⟩ := k F2 H2 g2
    refine ⟨fun i m σ' H' => m = ds.length - i ∧ i ≤ ds.length ∧ ∃ F', Pv i σ' F' H', ⟨ds.length, by simp, Nat.zero_le _, F2, h0⟩, ?_⟩
    rintro i m σ' H' ⟨rfl, hi', F', p⟩
    obtain ⟨s1, s2⟩ := hF _ _ _ _ p
    obtain ⟨w1, w2⟩ := w F' H' s1 s2
    by_cases hlt : i < ds.length
    · have e : ds[i]? = some ds[i] := List.getElem?_eq_getElem hlt
      obtain ⟨go, yl⟩ := w1 i _ e
      refine .inr ⟨go, fun σ3 H3 => ∃ F3, Pv (i + 1) σ3 F3 H3, fun σ3 H3 p' => ⟨ds.length - (i + 1), by omega, rfl, hlt, p'⟩, fun x H4 y => ?_⟩
      obtain ⟨rfl, hd⟩ := yl x H4 y
      exact hS i _ x σ' F' _ e p hd
    · have e : i = ds.length := by omega
      subst e
      exact .inl ⟨w2, hD σ' F' H' p⟩)
/-- while, by a measure -/
theorem ws_while (hp : PassesOwn (model X.prog X.w) X.A X.env X.xe) (W : Nat → St → Hp → Prop) (m0 : Nat) (h0 : W m0 σ H)
    (hs : ∀ m σ' H', W m σ' H' → WT X c σ' H' fun b H1 => if b = true then WSs X body { D with nx := fun σ2 H2 => ∃ m', m' < m ∧ W m' σ2 H2, ct := fun σ2 H2 => ∃ m', m' < m ∧ W m' σ2 H2, bk := D.nx } σ' H1 else D.nx σ' H1) : WS X (.While c body [] pos) D σ H :=
  ws_of (ps_while hp pt_wt pss_wss) ⟨W, ⟨m0, h0⟩, fun m σ' H' w => (hs m σ' H' w).imp fun b H1 q => by
    cases b with
    | true => exact ⟨fun σ2 H2 => ∃ m', m' < m ∧ W m' σ2 H2, fun _ _ z => z, q⟩
    | false => exact q⟩
end
end Kr

/-! layer Kr4 -/
namespace Kr
open PySem L2
/-! ## comprehensions -/
def DEt (t : TE) (σ : St) (F H : Hp) (d : PyData) : Prop := ∀ F1 H1, Gr F H F1 H1 → ∀ Q : VK, (∀ v F2 H2, Gr F1 H1 F2 H2 → Da F2 d v → Q v H2) → t σ H1 Q
def DTt (t : TT) (σ : St) (F H : Hp) (b : Bool) : Prop := ∀ F1 H1, Gr F H F1 H1 → ∀ Q : Bool → Hp → Prop, (∀ F2 H2, Gr F1 H1 F2 H2 → Q b H2) → t σ H1 Q
def TG.Mono (g : TG) : Prop := ∀ v σ H (Q Q' : St → Hp → Prop), (∀ σ' H', Q σ' H' → Q' σ' H') → g v σ H Q → g v σ H Q'
theorem WG.mono {X : Cx} {tg : Expr} {v : V} {σ : St} {H : Hp} {Q Q' : St → Hp → Prop} (k : ∀ σ' H', Q σ' H' → Q' σ' H') (h : WG X tg v σ H Q) : WG X tg v σ H Q' := fun pins s u I r =>
  thn (h pins s u I r) fun _ s' ⟨σ', H', I', q⟩ => ⟨σ', H', I', k σ' H' q⟩
theorem det_lc {α : Type} {X : Cx} {tg iter : Expr} {g : TG} {tt : TT} {te : TE} {vs : List Nat} {σ : St} {F H : Hp} {D : α → PyData} {xs : List α} (f : α → Bool) (h : α → PyData) (hz : xs.length ≤ sizeLine) (hg : TG.Mono g) (hi : DI X tg iter σ F H (xs.map D))
    (hs : ∀ x ∈ xs, ∀ v F' H', Gr F H F' H' → Da F' (D x) v → g v (wipe σ vs) H' fun σ2 H2 => H2 = H' ∧ wipe σ2 vs = wipe σ vs ∧ DTt tt σ2 F' H' (f x) ∧ (f x = true → DEt te σ2 F' H' (h x))) :
    DEt (tLc (WI X tg iter) g tt te vs) σ F H (.list ((xs.filter f).map h)) := fun F1 H1 g1 Q q => hi F1 H1 g1 _ fun J F2 H2 g2 w Dl hDl => by
  refine ⟨fun i m H' => m = xs.length - i ∧ i ≤ xs.length ∧ ∃ F' ys, Gr F2 H2 F' H' ∧ F' Dl = none ∧ H' Dl = some (.lst ys) ∧ DaAll F' (((xs.take i).filter f).map h) ys,
    ⟨xs.length, by simp, Nat.zero_le _, F2, [], (Gr.refl g2.fh).open' hDl, g2.fh.free hDl, upd_same, daAll_nil⟩, ?_⟩
  rintro i m H' ⟨rfl, hi', F', ys, g', n', e', a'⟩
  obtain ⟨w1, w2⟩ := w F' H' g'.ff g'.fh
  rw [List.length_map] at w2
  by_cases hlt : i < xs.length
  · have e0 : xs[i]? = some xs[i] := List.getElem?_eq_getElem hlt
    have e : (xs.map D)[i]? = some (D xs[i]) := by rw [List.getElem?_map, e0]; rfl
    obtain ⟨go, yl⟩ := w1 i _ e
    have htk : xs.take (i + 1) = xs.take i ++ [xs[i]] := by rw [List.take_add_one, e0]; rfl
    have hly : ys.length < sizeLine := by
      have h1 := a'.length
      have h2 : (((xs.take i).filter f).map h).length ≤ i := by
        rw [List.length_map]
        exact Nat.le_trans (List.length_filter_le _ _) (by rw [List.length_take]; omega)
      omega
    refine .inr ⟨go, fun H3 => i + 1 ≤ xs.length ∧ ∃ F' ys, Gr F2 H2 F' H3 ∧ F' Dl = none ∧ H3 Dl = some (.lst ys) ∧ DaAll F' (((xs.take (i + 1)).filter f).map h) ys, fun H3 p' => ⟨xs.length - (i + 1), by omega, rfl, p'⟩, fun x H4 y => ?_⟩
    obtain ⟨F4, g4, hd⟩ := yl x H4 y
    have gg := (g1.trans g2).trans (g'.trans g4)
    refine hg _ _ _ _ _ ?_ (hs xs[i] (List.getElem_mem hlt) x F4 H4 gg hd)
    rintro σ2 H5 ⟨rfl, hw, ht, he⟩
    refine ⟨hw, ht F4 H5 (.refl g4.fh) _ fun F6 H6 g6 => ?_⟩
    have n6 : F6 Dl = none := (g4.trans g6).f0 n' e'
    have e6 : H6 Dl = some (.lst ys) := (g4.trans g6).hh _ _ e'
    cases hf : f xs[i] with
    | true =>
      refine iteT (he hf F6 H6 g6 _ fun v F7 H7 g7 hv => ⟨ys, g7.hh _ _ e6, hly, hlt, F7, ys ++ [v], ?_, g7.f0 n6 e6, upd_same, ?_⟩)
      · exact ((((g'.trans g4).trans g6).trans g7)).mut hDl (g7.f0 n6 e6)
      · rw [htk, List.filter_append, List.map_append]
        have : [xs[i]].filter f = [xs[i]] := by simp [hf]
        rw [this]
        exact (a'.mono ((g4.trans g6).trans g7).ff).snoc hv
    | false =>
      refine iteF ⟨hlt, F6, ys, (g'.trans g4).trans g6, n6, e6, ?_⟩
      rw [htk, List.filter_append, List.map_append]
      have : [xs[i]].filter f = [] := by simp [hf]
      rw [this, List.map_nil, List.append_nil]
      exact a'.mono (g4.trans g6).ff
  · have e : i = xs.length := by omega
    subst e
    refine .inl ⟨w2, q (.ref Dl) (upd F' Dl (.lst ys)) H' (g2.trans (g'.tell hDl n' e')) ?_⟩
    rw [List.take_length] at a'
    exact ⟨Dl, ys, rfl, upd_same, a'.mono (same_upd n')⟩
/-- a comprehension's block -/
abbrev Blk (X : Cx) (scope : Scope) (s : Shared) (H : Hp) (C : Addr) (cl : List (Str × Addr)) (fp : List Addr) : Cx := X.blk s H scope (compEnvC scope cl C X.env) fp
def gB (X : Cx) (scope : Scope) (tg : Expr) : TG := fun v σ H Q => ∀ s H0 C cl fp, WG (Blk X scope s H0 C cl fp) tg v σ H Q
def tB' (X : Cx) (scope : Scope) (c : Expr) : TT := fun σ H Q => ∀ s H0 C cl fp, WT (Blk X scope s H0 C cl fp) c σ H Q
def eB (X : Cx) (scope : Scope) (e : Expr) : TE := fun σ H Q => ∀ s H0 C cl fp, WE (Blk X scope s H0 C cl fp) e σ H Q
section
variable {α : Type} {X : Cx} {σ : St} {F H : Hp} {elt tg iter c : Expr} {scope : Scope} {pos spos py : Pos} {Dx : α → PyData} {xs : List α} {own : List (Str × Nat)} {y : Str}
/-- what a comprehension's element is made of: target, test, element -/
structure LcOk (X : Cx) (scope : Scope) (own : List (Str × Nat)) (iter : Expr) : Prop where
  calm : X.calm = true
  nd : X.N.Nodup
  ok : blkC X.N X.env.scope scope own = true
  fs : ∀ x, foldedSetIterable iter X.env x = pure x
theorem lcok {N ps : List Str} {sc : Scope} (S : FnScope N ps sc) (hb : blkC N sc scope own = true) (hc : X.calm = true := by rfl) (hN : X.N = N := by rfl) (hsc : X.env.scope = sc := by rfl) (fs : ∀ x, foldedSetIterable iter X.env x = pure x := by intro _; rfl) : LcOk X scope own iter :=
  ⟨hc, hN ▸ S.nd, by rw [hN, hsc]; exact hb, fs⟩
theorem gB_mono : TG.Mono (gB X scope tg) := fun v σ H Q Q' k h s H0 C cl fp => (h s H0 C cl fp).mono k
theorem gb_name {x : Str} {v : V} {Q : St → Hp → Prop} (i : Nat) (hN : X.N.Nodup) (q : Q (σ.set i (some v)) H) (hi : X.N[i]? = some x := by rfl) (hx : ∀ s H0 C cl fp, Loc (Blk X scope s H0 C cl fp).env.scope x := by first | exact fun _ _ _ _ _ => .inl rfl | exact fun _ _ _ _ _ => .inr rfl)
    (hf : ∀ s H0 C cl fp, (Blk X scope s H0 C cl fp).fn x = true ∨ (Blk X scope s H0 C cl fp).env.scope.names.lookup x = some .local := by first | exact fun _ _ _ _ _ => .inr rfl | exact fun _ _ _ _ _ => .inl rfl) : gB X scope (.Name x pos) v σ H Q :=
  fun s H0 C cl fp => wg_name i hN q hi (hx s H0 C cl fp) (hf s H0 C cl fp)
theorem gb_tup2 {v : V} {Q : St → Hp → Prop} {t1 t2 : Expr} {d1 d2 : PyData} {k : Nat} (hc : X.calm = true) (h : Da F (.tuple [d1, d2]) v) (s : Same F H) (q : ∀ v1 v2, Da F d1 v1 → Da F d2 v2 → gB X scope t1 v1 σ H (fun σ1 H1 => gB X scope t2 v2 σ1 H1 Q))
    (hs : ∀ s H0 C cl fp, (assignEach [t1, t2] (Blk X scope s H0 C cl fp).env).map (·.2) = assign t1 (Blk X scope s H0 C cl fp).env :: (assignEach [t2] (Blk X scope s H0 C cl fp).env).map (·.2) := by exact fun _ _ _ _ _ => rfl)
    (hs2 : ∀ s H0 C cl fp, (assignEach [t2] (Blk X scope s H0 C cl fp).env).map (·.2) = assign t2 (Blk X scope s H0 C cl fp).env :: (assignEach [] (Blk X scope s H0 C cl fp).env).map (·.2) := by exact fun _ _ _ _ _ => rfl)
    (hn : ∀ s H0 C cl fp, (assignEach [t1, t2] (Blk X scope s H0 C cl fp).env).length = 2 := by exact fun _ _ _ _ _ => rfl) (hst : ∀ s H0 C cl fp, (assignEach [t1, t2] (Blk X scope s H0 C cl fp).env).findIdx? (·.1) = none := by exact fun _ _ _ _ _ => rfl) : gB X scope (.Tuple [t1, t2] k pos) v σ H Q :=
  fun s0 H0 C cl fp => wg_tup2 hc h s (fun v1 v2 e1 e2 => (q v1 v2 e1 e2 s0 H0 C cl fp).mono fun σ1 H1 r => r s0 H0 C cl fp) (hs s0 H0 C cl fp) (hs2 s0 H0 C cl fp) (hn s0 H0 C cl fp) (hst s0 H0 C cl fp)
theorem de_lc (own : List (Str × Nat)) (o : LcOk X scope own iter) (h : α → PyData) (hi : DI X tg iter σ F H (xs.map Dx)) (hz : xs.length ≤ sizeLine)
    (hs : ∀ x ∈ xs, ∀ v F' H', Gr F H F' H' → Da F' (Dx x) v → gB X scope tg v (wipe σ (own.map (·.2))) H' fun σ2 H2 => H2 = H' ∧ wipe σ2 (own.map (·.2)) = wipe σ (own.map (·.2)) ∧ ∀ s H0 C cl fp, DE (Blk X scope s H0 C cl fp) elt σ2 F' H' (h x)) :
    DE X (.ListComp elt [⟨tg, iter, [], 0⟩] scope pos) σ F H (.list (xs.map h)) := by
  have key := det_lc (g := gB X scope tg) (tt := tYes) (te := eB X scope elt) (vs := own.map (·.2)) (fun _ => true) h hz gB_mono hi (fun x hx v F' H' g hv => gB_mono _ _ _ _ _ (fun σ2 H2 ⟨h1, h2, h3⟩ => ⟨h1, h2, fun F1 H1 g1 Q q => q F1 H1 (.refl g1.fh), fun _ F1 H1 g1 Q q s H0 C cl fp => h3 s H0 C cl fp F1 H1 g1 Q q⟩) (hs x hx v F' H' g hv))
  rw [List.filter_eq_self.mpr (fun _ _ => rfl)] at key
  exact fun F1 H1 g Q q => we_of (pe_lc o.calm o.nd pi_wi (blkOk_by o.ok) (fun s H0 C cl fp => ⟨fun pins s' σ H v u Q I r h => h s H0 C cl fp pins s' u I r⟩) (fun _ _ _ _ _ => pts_nil) (fun s H0 C cl fp => ⟨fun pins s' σ H Q I h => h s H0 C cl fp pins s' I⟩) o.fs) (key F1 H1 g Q q)
theorem de_lcIf (own : List (Str × Nat)) (o : LcOk X scope own iter) (f : α → Bool) (h : α → PyData) (hi : DI X tg iter σ F H (xs.map Dx)) (hz : xs.length ≤ sizeLine)
    (hs : ∀ x ∈ xs, ∀ v F' H', Gr F H F' H' → Da F' (Dx x) v → gB X scope tg v (wipe σ (own.map (·.2))) H' fun σ2 H2 => H2 = H' ∧ wipe σ2 (own.map (·.2)) = wipe σ (own.map (·.2)) ∧ (∀ s H0 C cl fp, DT (Blk X scope s H0 C cl fp) c σ2 F' H' (f x)) ∧ (f x = true → ∀ s H0 C cl fp, DE (Blk X scope s H0 C cl fp) elt σ2 F' H' (h x))) :
    DE X (.ListComp elt [⟨tg, iter, [c], 0⟩] scope pos) σ F H (.list ((xs.filter f).map h)) := by
  have key := det_lc (g := gB X scope tg) (tt := tB' X scope c) (te := eB X scope elt) (vs := own.map (·.2)) f h hz gB_mono hi (fun x hx v F' H' g hv => gB_mono _ _ _ _ _ (fun σ2 H2 ⟨h1, h2, h3, h4⟩ => ⟨h1, h2, fun F1 H1 g1 Q q s H0 C cl fp => h3 s H0 C cl fp F1 H1 g1 Q q, fun hf F1 H1 g1 Q q s H0 C cl fp => h4 hf s H0 C cl fp F1 H1 g1 Q q⟩) (hs x hx v F' H' g hv))
  exact fun F1 H1 g Q q => we_of (pe_lc o.calm o.nd pi_wi (blkOk_by o.ok) (fun s H0 C cl fp => ⟨fun pins s' σ H v u Q I r h => h s H0 C cl fp pins s' u I r⟩) (fun s H0 C cl fp => pts_one ⟨fun pins s' σ H Q I h => h s H0 C cl fp pins s' I⟩) (fun s H0 C cl fp => ⟨fun pins s' σ H Q I h => h s H0 C cl fp pins s' I⟩) o.fs) (key F1 H1 g Q q)
/-- y = [..] -/
theorem ws_setLc (k : Nat) (own : List (Str × Nat)) (o : LcOk X scope own iter) (s : Same F H) (h : α → PyData) (hi : DI X tg iter σ F H (xs.map Dx)) (hz : xs.length ≤ sizeLine)
    (hs : ∀ x ∈ xs, ∀ v F' H', Gr F H F' H' → Da F' (Dx x) v → gB X scope tg v (wipe σ (own.map (·.2))) H' fun σ2 H2 => H2 = H' ∧ wipe σ2 (own.map (·.2)) = wipe σ (own.map (·.2)) ∧ ∀ s H0 C cl fp, DE (Blk X scope s H0 C cl fp) elt σ2 F' H' (h x))
    {D : Ends} (q : ∀ v F2 H2, Gr F H F2 H2 → Da F2 (.list (xs.map h)) v → D.nx (σ.set k (some v)) H2) (hy : X.N[k]? = some y := by rfl) (hyl : X.env.scope.names.lookup y = some .local := by rfl)
    (hsw : swapsWith (.ListComp elt [⟨tg, iter, [], 0⟩] scope pos) (some (.Name y py)) spos.line X.env = pure true := by exact sw_true rfl rfl rfl (by decide +kernel)) : WS X (.Assign [.Name y py] (.ListComp elt [⟨tg, iter, [], 0⟩] scope pos) spos) D σ H := by
  have key := det_lc (g := gB X scope tg) (tt := tYes) (te := eB X scope elt) (vs := own.map (·.2)) (fun _ => true) h hz gB_mono hi (fun x hx v F' H' g hv => gB_mono _ _ _ _ _ (fun σ2 H2 ⟨h1, h2, h3⟩ => ⟨h1, h2, fun F1 H1 g1 Q q => q F1 H1 (.refl g1.fh), fun _ F1 H1 g1 Q q s H0 C cl fp => h3 s H0 C cl fp F1 H1 g1 Q q⟩) (hs x hx v F' H' g hv))
  rw [List.filter_eq_self.mpr (fun _ _ => rfl)] at key
  exact ws_of (ps_setLc o.calm o.nd hy hyl hsw pi_wi (blkOk_by o.ok) (fun s H0 C cl fp => ⟨fun pins s' σ H v u Q I r h => h s H0 C cl fp pins s' u I r⟩) (fun _ _ _ _ _ => pts_nil) (fun s H0 C cl fp => ⟨fun pins s' σ H Q I h => h s H0 C cl fp pins s' I⟩) o.fs) (key F H (.refl s) _ q)
theorem ws_setLcIf (k : Nat) (own : List (Str × Nat)) (o : LcOk X scope own iter) (s : Same F H) (f : α → Bool) (h : α → PyData) (hi : DI X tg iter σ F H (xs.map Dx)) (hz : xs.length ≤ sizeLine)
    (hs : ∀ x ∈ xs, ∀ v F' H', Gr F H F' H' → Da F' (Dx x) v → gB X scope tg v (wipe σ (own.map (·.2))) H' fun σ2 H2 => H2 = H' ∧ wipe σ2 (own.map (·.2)) = wipe σ (own.map (·.2)) ∧ (∀ s H0 C cl fp, DT (Blk X scope s H0 C cl fp) c σ2 F' H' (f x)) ∧ (f x = true → ∀ s H0 C cl fp, DE (Blk X scope s H0 C cl fp) elt σ2 F' H' (h x)))
    {D : Ends} (q : ∀ v F2 H2, Gr F H F2 H2 → Da F2 (.list ((xs.filter f).map h)) v → D.nx (σ.set k (some v)) H2) (hy : X.N[k]? = some y := by rfl) (hyl : X.env.scope.names.lookup y = some .local := by rfl)
    (hsw : swapsWith (.ListComp elt [⟨tg, iter, [c], 0⟩] scope pos) (some (.Name y py)) spos.line X.env = pure true := by exact sw_true rfl rfl rfl (by decide +kernel)) : WS X (.Assign [.Name y py] (.ListComp elt [⟨tg, iter, [c], 0⟩] scope pos) spos) D σ H := by
  have key := det_lc (g := gB X scope tg) (tt := tB' X scope c) (te := eB X scope elt) (vs := own.map (·.2)) f h hz gB_mono hi (fun x hx v F' H' g hv => gB_mono _ _ _ _ _ (fun σ2 H2 ⟨h1, h2, h3, h4⟩ => ⟨h1, h2, fun F1 H1 g1 Q q s H0 C cl fp => h3 s H0 C cl fp F1 H1 g1 Q q, fun hf F1 H1 g1 Q q s H0 C cl fp => h4 hf s H0 C cl fp F1 H1 g1 Q q⟩) (hs x hx v F' H' g hv))
  exact ws_of (ps_setLc o.calm o.nd hy hyl hsw pi_wi (blkOk_by o.ok) (fun s H0 C cl fp => ⟨fun pins s' σ H v u Q I r h => h s H0 C cl fp pins s' u I r⟩) (fun s H0 C cl fp => pts_one ⟨fun pins s' σ H Q I h => h s H0 C cl fp pins s' I⟩) (fun s H0 C cl fp => ⟨fun pins s' σ H Q I h => h s H0 C cl fp pins s' I⟩) o.fs) (key F H (.refl s) _ q)
end

/-! ## defs -/
/-- a def that tells data of data, and leaves all else -/
def spF (n : Nat) (pre : List PyData → Prop) (fn : List PyData → PyData) : Sp := fun vs H Q _ => ∃ F ds, ds.length = n ∧ Same F H ∧ DaAll F ds vs ∧ pre ds ∧ ∀ v F2 H2, Gr F H F2 H2 → Da F2 (fn ds) v → Q v H2
section
variable {P : Program} {w : World} {K : PySem.W.Frag} {mg : Str → Option Value} {base : Heap}
/-- a def's body -/
theorem okW {x qual : Str} {st : Stmt} {f : Addr} {fd : FuncData} {N ps : List Str} {k : Nat} {sp : Sp} (F : Fun K x qual st f fd) (S : FnScope N ps (defScope st)) (len : ∀ vs H Q E, sp vs H Q E → vs.length = ps.length)
    (hbody : ∀ (cdv : Value) (A : Around) (outer : List Env) (s : Shared) (H : Hp) (vs : List V) (Q : VK) (E : XK), Room k (A.deeper (PyProof.Rows.envOfC qual (defScope st) s.heap.objs.size f cdv)) → sp vs H Q E →
      WSs (cxOf CX0 P w K mg base N qual (defScope st) f cdv A outer s H E).nox (defBody st) { nx := fun _ H' => Q .non H', rt := Q } (start N vs) H) : FnOk P w K mg base CX0 (k + 1) f fd ps sp :=
  F.ok S len fun cdv A outer s H vs Q E hr h => ⟨_, pss_wss, hbody cdv A outer s H vs Q E hr h⟩
theorem okF {x qual : Str} {st : Stmt} {f : Addr} {fd : FuncData} {N ps : List Str} {k : Nat} {pre : List PyData → Prop} {fn : List PyData → PyData} (F : Fun K x qual st f fd) (S : FnScope N ps (defScope st))
    (hbody : ∀ (X : Cx) (cdv : Value) (A : Around) (outer : List Env) (s : Shared) (H0 : Hp) (E : XK) (vs : List V) (F H : Hp) (ds : List PyData) (Q : VK), X = (cxOf CX0 P w K mg base N qual (defScope st) f cdv A outer s H0 E).nox → Room k X.A → ds.length = ps.length → Same F H → DaAll F ds vs → pre ds → (∀ v F2 H2, Gr F H F2 H2 → Da F2 (fn ds) v → Q v H2) →
      WSs X (defBody st) { nx := fun _ H' => Q .non H', rt := Q } (start N vs) H) : FnOk P w K mg base CX0 (k + 1) f fd ps (spF ps.length pre fn) :=
  okW F S (fun vs H Q E ⟨F, ds, hl, _, ha, _⟩ => by rw [ha.length, hl]) fun cdv A outer s H vs Q E hr ⟨F, ds, hl, hs, ha, hp, q⟩ => hbody _ cdv A outer s H E vs F H ds Q rfl hr hl hs ha hp q
end
section
variable {X : Cx} {σ : St} {F H : Hp} {e : Expr} {es : List Expr} {ds : List PyData} {k : Nat} {f : Addr} {fd : FuncData} {ps : List Str} {n : Nat} {pre : List PyData → Prop} {fn : List PyData → PyData} {x : Str} {p pos : Pos} {d : PyData}
/-- f(..) -/
theorem de_call (G : FnOk X.prog X.w X.K X.mg X.base CX0 k f fd ps (spF n pre fn)) (hr : Room k X.A) (hm : X.mg x = some (.ref f)) (hk : PySem.W.keepIn X.K (.ref f) = true) (hb : Binds X.K fd ps []) (ha : DL X (e :: es) σ F H ds) (hn : ds.length = n) (hp : pre ds) (he : fn ds = d)
    (hg : Gl X x := by rfl) (hdb : (x == ("__debug__" : Str)) = false := by decide) (l : Pl X e es pos := by exact ⟨rfl, rfl⟩) : DE X (.Call (.Name x p) (e :: es) [] pos) σ F H d := fun F1 H1 g Q q =>
  we_of (pe_call G hr hg hm hk hb .nil pass0 pa_wa hdb l.he l.hpl) (ha F1 H1 g _ fun vs F2 H2 g2 hvs => by
    show spF n pre fn (vs ++ []) H2 Q E0
    rw [List.append_nil]
    exact ⟨F2, ds, hn, g2.fh, hvs, hp, fun v F3 H3 g3 hv => q v F3 H3 (g2.trans g3) (he ▸ hv)⟩)
end
end Kr

/-! layer Kr5 -/
namespace Kr
open PySem L2
/-! ## texts in order -/
def leS (a b : Str) : Bool := !decide (b.cps.toList < a.cps.toList)
theorem leS_iff {a b : Str} : leS a b = true ↔ a.cps.toList ≤ b.cps.toList := by
  unfold leS
  rw [Bool.not_eq_true', decide_eq_false_iff_not]
  exact Iff.rfl
theorem str_ext {a b : Str} (h : a.cps.toList = b.cps.toList) : a = b := by
  cases a; cases b
  simp only at h
  congr
  exact Array.toList_inj.mp h
theorem leS_trans (a b c : Str) (h1 : leS a b = true) (h2 : leS b c = true) : leS a c = true := leS_iff.mpr (List.le_trans (leS_iff.mp h1) (leS_iff.mp h2))
theorem leS_total (a b : Str) : (leS a b || leS b a) = true := by
  rcases List.le_total a.cps.toList b.cps.toList with h | h
  · rw [leS_iff.mpr h]; rfl
  · rw [leS_iff.mpr h, Bool.or_true]
theorem leS_antisymm {a b : Str} (h1 : leS a b = true) (h2 : leS b a = true) : a = b := str_ext (List.le_antisymm (leS_iff.mp h1) (leS_iff.mp h2))
/-- sorted(xs) -/
def srt (xs : List Str) : List Str := xs.mergeSort leS
theorem srt_perm (xs : List Str) : (srt xs).Perm xs := List.mergeSort_perm xs leS
theorem srt_sorted (xs : List Str) : (srt xs).Pairwise (fun a b => leS a b = true) := List.pairwise_mergeSort leS_trans leS_total xs
theorem srt_length (xs : List Str) : (srt xs).length = xs.length := (srt_perm xs).length_eq
theorem mem_srt {x : Str} {xs : List Str} : x ∈ srt xs ↔ x ∈ xs := (srt_perm xs).mem_iff
theorem sorted_unique : ∀ {xs ys : List Str}, xs.Perm ys → xs.Pairwise (fun a b => leS a b = true) → ys.Pairwise (fun a b => leS a b = true) → xs = ys
  | [], ys, p, _, _ => (List.nil_perm.mp p).symm
  | x :: xs, [], p, _, _ => by simpa using p.length_eq
  | x :: xs, y :: ys, p, h1, h2 => by
    have e : x = y := by
      have hx : x ∈ y :: ys := p.mem_iff.mp List.mem_cons_self
      have hy : y ∈ x :: xs := p.mem_iff.mpr List.mem_cons_self
      rcases List.mem_cons.mp hx with e | hx
      · exact e
      rcases List.mem_cons.mp hy with e | hy
      · exact e.symm
      exact leS_antisymm (List.rel_of_pairwise_cons h1 hy) (List.rel_of_pairwise_cons h2 hx)
    subst e
    rw [sorted_unique (List.Perm.cons_inv p) h1.of_cons h2.of_cons]
theorem sortedS_pairwise : ∀ {xs : List Str}, PyProof.Rows.sortedS xs = true → xs.Pairwise (fun a b => leS a b = true)
  | [], _ => .nil
  | [x], _ => by simp
  | x :: y :: r, h => by
    have h' : (!Spec.ltCps y.cps.toList x.cps.toList) = true ∧ PyProof.Rows.sortedS (y :: r) = true := by simpa [PyProof.Rows.sortedS, PyProof.Rows.risingS] using h
    have ih := sortedS_pairwise h'.2
    have hxy : leS x y = true := by
      unfold leS
      rw [PyProof.Rows.lt_meets]
      exact h'.1
    refine List.pairwise_cons.mpr ⟨fun z hz => ?_, ih⟩
    rcases List.mem_cons.mp hz with rfl | hz
    · exact hxy
    · exact leS_trans _ _ _ hxy (List.rel_of_pairwise_cons ih hz)
theorem srt_eq {xs ys : List Str} (p : ys.Perm xs) (h : PyProof.Rows.sortedS ys = true) : ys = srt xs := sorted_unique (p.trans (srt_perm xs).symm) (sortedS_pairwise h) (srt_sorted xs)
theorem srt_of_sorted {xs : List Str} (h : xs.Pairwise (fun a b => leS a b = true)) : srt xs = xs := sorted_unique (srt_perm xs) (srt_sorted xs) h

/-! ## rules -/
section
variable {X : Cx} {σ : St} {F H : Hp} {e a b c : Expr} {es : List Expr} {d d1 d2 : PyData} {ds : List PyData} {v : V} {i j k : Int} {pos p : Pos} {x y : Str} {bb cc : Bool}
/-- sorted of texts, any number -/
def rSortedSA (K : PySem.W.Frag) : List V → Hp → VK → Prop := fun vs H Q => ∃ (a : Addr) (xs : List Str), vs = [V.ref a] ∧ SqL K H a (xs.map V.str) ∧ ∀ (p : Addr), H p = none → Q (.ref p) (upd H p (.lst ((srt xs).map V.str)))
theorem cr_sortedSA : CallR X (.builtin "sorted") (rSortedSA X.K) := by
  intro pins s σ H vs us Q I r h
  obtain ⟨a, xs, rfl, hs, q⟩ := h
  obtain ⟨its, rv, hl, hz⟩ := I.list hs
  rw [Vals.ref1 r]
  have hlen0 := rv.length
  refine PyProof.Rows.sorted_strsAny hl.isList rv.strs (by rw [← hlen0]; exact hz) fun out ys h1 h2 h3 => ?_
  obtain ⟨ep, he'⟩ := PyProof.Rows.sortedAll_at s.heap its out
  have hlen : (ys.map V.str).length ≤ sizeLine := by rw [List.length_map, h2.length_eq]; rw [List.length_map] at hz; exact hz
  have ey := srt_eq h2 h3
  subst ey
  exact ⟨.ref _, upd H (s.heap.objs.size + 1) (.lst ((srt xs).map V.str)), I.laid (t' := s.toks) (fun _ _ => PyProof.Rows.sortedAll_old) (Nat.le_succ _) ⟨hlen, out.toList, ep, vals_of_strs h1, he'⟩, rfl, q _ (I.hok.fresh (Nat.le_succ _))⟩
theorem de_sortedS {xs : List Str} (hm : X.mg "sorted" = none) (ha : DE X e σ F H (.list (xs.map .str))) (hg : Gl X "sorted" := by rfl) (l : Pl X e [] pos := by exact ⟨rfl, rfl⟩) : DE X (.Call (.Name "sorted" p) [e] [] pos) σ F H (.list ((srt xs).map .str)) :=
  de_callB cr_sortedSA hg hm (by decide +kernel) (dl_cons ha dl_nil l.he) (fun vs F1 H1 g1 hv Q q => by
    obtain ⟨v, rfl, a, ys, rfl, h1, h2⟩ := daAll1 hv
    obtain rfl := h2.strs
    exact ⟨_, xs, rfl, SqL.of (g1.fh _ _ h1), fun l hl => q _ (upd F1 l (.lst _)) _ ((Gr.refl g1.fh).shut hl) ⟨l, _, rfl, upd_same, daAll_strs _⟩⟩) ⟨by decide, by decide⟩ l
/-- lists of unlike lengths -/
def rEqLen (K : PySem.W.Frag) : R2 := fun x y H Q => ∃ a b xs ys, x = .ref a ∧ y = .ref b ∧ SqL K H a xs ∧ SqL K H b ys ∧ xs.length ≠ ys.length ∧ Q (.bl false) H
theorem op_eqLen (hu : X.A.units + 64 < cLine) : OpR X (compareOp .Eq) (rEqLen X.K) := by
  intro pins s σ H x y v u Q I rx ry h
  obtain ⟨a, b, xs, ys, rfl, rfl, h1, h2, hne, q⟩ := h
  cases rx; cases ry
  obtain ⟨its, rv, hl, hz⟩ := I.list h1
  obtain ⟨its2, rv2, hl2, hz2⟩ := I.list h2
  refine SeqAt.eq_list_lengthsAt hl.isList hl2.isList ?_ (by omega) ⟨.bl false, H, I, rfl, q⟩
  have e1 := rv.length
  have e2 := rv2.length
  simp only [List.size_toArray, bne_iff_ne, ne_eq]
  omega
/-- e == [] -/
theorem c_eqNil (hu : X.A.units + 64 < cLine) (ha : DE X a σ F H (.list ds)) {lp : Pos} : DC X .Eq a (.List [] lp) σ F H ds.isEmpty := by
  cases ds with
  | nil => exact c_eq hu ha (de_lst dl_nil) (by rfl) (by rfl)
  | cons d0 ds =>
    exact c_cmp (op_eqLen hu) (nomark _) ha (de_lst dl_nil) fun x y F1 H1 g1 hx hy Q q => by
      obtain ⟨p, xs, rfl, h1, h2⟩ := hx
      obtain ⟨r, ys, rfl, h3, h4⟩ := hy
      obtain rfl : ys = [] := h4
      exact ⟨p, r, xs, [], rfl, rfl, SqL.of (g1.fh _ _ h1), SqL.of (g1.fh _ _ h3), by rw [h2.length]; simp, q _ F1 H1 (.refl g1.fh) rfl⟩
def rNeLen (K : PySem.W.Frag) : R2 := fun x y H Q => ∃ a b xs ys, x = .ref a ∧ y = .ref b ∧ SqL K H a xs ∧ SqL K H b ys ∧ xs.length ≠ ys.length ∧ Q (.bl true) H
/-- one sign in a text -/
theorem c_inSign {z : Str} {cp : Nat} (ha : DE X a σ F H (.str ⟨#[cp]⟩)) (hb : DE X b σ F H (.str z)) (hm : behindInMarks .In b = false := by rfl) : DC X .In a b σ F H (decide (cp ∈ z.cps.toList)) :=
  c_cmp op_in_sign hm ha hb fun x y F1 H1 g1 hx hy Q q => ⟨cp, z, hx, hy, q _ F1 H1 (.refl g1.fh) rfl⟩
theorem c_notInSign {z : Str} {cp : Nat} (ha : DE X a σ F H (.str ⟨#[cp]⟩)) (hb : DE X b σ F H (.str z)) (hm : behindInMarks .NotIn b = false := by rfl) : DC X .NotIn a b σ F H (!decide (cp ∈ z.cps.toList)) :=
  c_cmp op_notIn_sign hm ha hb fun x y F1 H1 g1 hx hy Q q => ⟨cp, z, hx, hy, q _ F1 H1 (.refl g1.fh) rfl⟩
/-- a module's constant -/
def Mg (mg : Str → Option Value) (x : Str) (v : V) : Prop := ∃ u, mg x = some u ∧ RelV v u
theorem ve_glob (h : Mg X.mg x v) (hg : Gl X x := by rfl) (hd : (x == ("__debug__" : Str)) = false := by decide) : VE X (.Name x pos) σ F H v := by
  obtain ⟨u, h1, h2⟩ := h
  exact ve_of (pe_glob hg h1 h2 hd) fun _ _ _ _ q => q
end
end Kr

/-! layer Kr6 -/
namespace Kr
open PySem L2
/-! ## sizes -/
mutual
def SzD : PyData → Prop
  | .str x => x.length ≤ 100000
  | .list ds => ds.length ≤ 100000 ∧ SzAll ds
  | .tuple ds => SzAll ds
  | _ => True
def SzAll : List PyData → Prop
  | [] => True
  | d :: ds => SzD d ∧ SzAll ds
end
theorem SzAll.mem : ∀ {ds : List PyData} {d : PyData}, SzAll ds → d ∈ ds → SzD d
  | d0 :: ds, d, h, m => by
    rcases List.mem_cons.mp m with rfl | m
    · exact h.1
    · exact SzAll.mem h.2 m
theorem szAll_of : ∀ {ds : List PyData}, (∀ d ∈ ds, SzD d) → SzAll ds
  | [], _ => True.intro
  | d :: ds, h => ⟨h d List.mem_cons_self, szAll_of fun x m => h x (List.mem_cons_of_mem _ m)⟩
theorem SzAll.get {ds : List PyData} {i : Nat} {d : PyData} (h : SzAll ds) (e : ds[i]? = some d) : SzD d := h.mem (List.mem_of_getElem? e)
theorem sz100 {n : Nat} (h : n ≤ 100000) : n ≤ sizeLine := Nat.le_trans h (by decide)
/-! ## kinds, rooms, houses -/
def letters : Str := "abcdefghijklmnopqrstuvwxyz"
def isKind (x : Str) : Bool := decide ((1 : Int) ≤ x.length) && decide ((x.length : Int) ≤ 4) && x.cps.toList.all fun c => decide (c ∈ letters.cps.toList)
def isKindD : PyData → Bool
  | .str x => isKind x
  | _ => false
def areKeysD : PyData → Bool
  | .list ds => ds.all isKindD
  | _ => false
def ksD (ks : List Str) : PyData := .list (ks.map .str)
/-- the texts of data that are kinds -/
def strsOf (ds : List PyData) : List Str := ds.filterMap fun d => match d with | .str x => some x | _ => none
theorem strsOf_eq : ∀ {ds : List PyData}, ds.all isKindD = true → ds = (strsOf ds).map .str
  | [], _ => rfl
  | d :: ds, h => by
    have h' : isKindD d = true ∧ ds.all isKindD = true := by simpa using h
    cases d with
    | str x =>
      show PyData.str x :: ds = PyData.str x :: (strsOf ds).map .str
      rw [← strsOf_eq h'.2]
    | _ => exact absurd h'.1 (by simp [isKindD])
theorem strsOf_strs (ks : List Str) : strsOf (ks.map .str) = ks := by
  induction ks with
  | nil => rfl
  | cons k ks ih => show k :: strsOf (ks.map .str) = _; rw [ih]
def isRoomD : PyData → Bool
  | .tuple [l, k] => areKeysD l && areKeysD k && (match l with
    | .list ds => decide ((1 : Int) ≤ ds.length) && decide ((ds.length : Int) ≤ 4) && decide (strsOf ds = srt (strsOf ds))
    | _ => false)
  | _ => false
def isHouseD : PyData → Bool
  | .tuple [k, .list rs] => areKeysD k && rs.all isRoomD
  | _ => false
abbrev Room' := List Str × List Str
abbrev House := List Str × List Room'
def roomD (r : Room') : PyData := .tuple [ksD r.1, ksD r.2]
def houseD (h : House) : PyData := .tuple [ksD h.1, .list (h.2.map roomD)]
def goodRoom (r : Room') : Prop := (∀ k ∈ r.1, isKind k = true) ∧ (∀ k ∈ r.2, isKind k = true) ∧ 1 ≤ r.1.length ∧ r.1.length ≤ 4 ∧ srt r.1 = r.1
structure GoodHouse (h : House) : Prop where
  keys : ∀ k ∈ h.1, isKind k = true
  rooms : ∀ r ∈ h.2, goodRoom r
  few : h.1.length ≤ 100000
  many : h.2.length ≤ 100000
  each : ∀ r ∈ h.2, r.2.length ≤ 100000
theorem isKind_len {x : Str} (h : isKind x = true) : 1 ≤ x.length ∧ x.length ≤ 4 := by
  unfold isKind at h
  simp only [Bool.and_eq_true, decide_eq_true_eq] at h
  omega
theorem areKeysD_ks {ks : List Str} (h : ∀ k ∈ ks, isKind k = true) : areKeysD (ksD ks) = true := by
  simp only [areKeysD, ksD, List.all_map, List.all_eq_true]
  exact fun k hk => h k hk
theorem isRoomD_room {r : Room'} (h : goodRoom r) : isRoomD (roomD r) = true := by
  obtain ⟨h1, h2, h3, h4, h5⟩ := h
  simp only [roomD, isRoomD, areKeysD_ks h1, areKeysD_ks h2, Bool.true_and, ksD, strsOf_strs, h5, List.length_map, decide_true, Bool.and_true, Bool.and_eq_true, decide_eq_true_eq]
  exact ⟨⟨areKeysD_ks h1, areKeysD_ks h2⟩, by omega, by omega⟩
theorem isHouseD_house {h : House} (g : GoodHouse h) : isHouseD (houseD h) = true := by
  simp only [houseD, isHouseD, areKeysD_ks g.keys, Bool.true_and, List.all_map, List.all_eq_true]
  exact fun r hr => isRoomD_room (g.rooms r hr)
theorem szD_ks {ks : List Str} (h : ∀ k ∈ ks, isKind k = true) (hl : ks.length ≤ 100000) : SzD (ksD ks) := by
  refine ⟨by rw [List.length_map]; exact hl, szAll_of fun d m => ?_⟩
  obtain ⟨k, hk, rfl⟩ := List.mem_map.mp m
  have := isKind_len (h k hk)
  show k.length ≤ 100000
  omega
theorem szD_room {r : Room'} (h : goodRoom r) (hl : r.2.length ≤ 100000) : SzD (roomD r) := ⟨szD_ks h.1 (by have := h.2.2.2.1; omega), szD_ks h.2.1 hl, True.intro⟩
theorem szD_house {h : House} (g : GoodHouse h) : SzD (houseD h) := by
  refine ⟨szD_ks g.keys g.few, ⟨by rw [List.length_map]; exact g.many, szAll_of fun d m => ?_⟩, True.intro⟩
  obtain ⟨r, hr, rfl⟩ := List.mem_map.mp m
  exact szD_room (g.rooms r hr) (g.each r hr)
/-- a list of which none is out -/
theorem filter_none {α : Type} (xs : List α) (p : α → Bool) (h : α → PyData) : ((xs.filter fun x => !p x).map h).isEmpty = xs.all p := by
  induction xs with
  | nil => rfl
  | cons x xs ih =>
    cases hp : p x with
    | true => simp only [List.filter_cons, hp, Bool.not_true, Bool.false_eq_true, if_false, List.all_cons, Bool.true_and]; exact ih
    | false => simp only [List.filter_cons, hp, Bool.not_false, if_true, List.map_cons, List.isEmpty_cons, List.all_cons, Bool.false_and]
/-! ## equality of kinds, rooms, houses -/
theorem letters_lt : ∀ c ∈ letters.cps.toList, c < 0x110000 := by decide +kernel
theorem strOk_kind {x : Str} (h : isKind x = true) : PyData.strOk x = true := by
  unfold isKind at h
  simp only [Bool.and_eq_true, List.all_eq_true, decide_eq_true_eq] at h
  unfold PyData.strOk
  rw [← Array.all_toList, List.all_eq_true]
  exact fun c hc => decide_eq_true (letters_lt c (h.2 c hc))
theorem eqvAll_strs : ∀ a b : List Str, PyData.eqvAll (a.map .str) (b.map .str) = decide (a = b)
  | [], [] => by simp [PyData.eqvAll]
  | [], _ :: _ => by simp [PyData.eqvAll]
  | _ :: _, [] => by simp [PyData.eqvAll]
  | x :: a, y :: b => by
    simp only [List.map_cons, PyData.eqvAll, PyData.eqv, eqvAll_strs a b, List.cons.injEq]
    by_cases h : x = y <;> simp [h]
theorem eqv_ks (a b : List Str) : PyData.eqv (ksD a) (ksD b) = decide (a = b) := by simp only [ksD, PyData.eqv, eqvAll_strs]
theorem eqv_room (a b : Room') : PyData.eqv (roomD a) (roomD b) = decide (a = b) := by
  obtain ⟨a1, a2⟩ := a
  obtain ⟨b1, b2⟩ := b
  simp only [roomD, PyData.eqv, PyData.eqvAll, eqv_ks, Prod.mk.injEq, Bool.and_true]
  by_cases h : a1 = b1 <;> simp [h]
theorem eqvAll_rooms : ∀ a b : List Room', PyData.eqvAll (a.map roomD) (b.map roomD) = decide (a = b)
  | [], [] => by simp [PyData.eqvAll]
  | [], _ :: _ => by simp [PyData.eqvAll]
  | _ :: _, [] => by simp [PyData.eqvAll]
  | x :: a, y :: b => by
    simp only [List.map_cons, PyData.eqvAll, eqv_room, eqvAll_rooms a b, List.cons.injEq]
    by_cases h : x = y <;> simp [h]
theorem eqv_house (a b : House) : PyData.eqv (houseD a) (houseD b) = decide (a = b) := by
  obtain ⟨a1, a2⟩ := a
  obtain ⟨b1, b2⟩ := b
  simp only [houseD, PyData.eqv, PyData.eqvAll, eqv_ks, eqvAll_rooms, Prod.mk.injEq, Bool.and_true]
  by_cases h : a1 = b1 <;> simp [h]
/-- laid, and so deep at most -/
def Lay (n : Nat) (d : PyData) : Prop := d.canLay0 = true ∧ d.depth ≤ n
theorem Lay.shaped {n : Nat} {d : PyData} (h : Lay n d) (hn : n ≤ 64 := by decide) : SeqAt.shaped d = true := by
  unfold SeqAt.shaped
  rw [h.1, decide_eq_true (Nat.le_trans h.2 hn)]
  rfl
theorem lay_all : ∀ {n : Nat} {ds : List PyData}, (∀ d ∈ ds, Lay n d) → PyData.canLayAll0 ds = true ∧ PyData.depthAll ds ≤ n
  | n, [], _ => ⟨by simp [PyData.canLayAll0], by simp [PyData.depthAll]⟩
  | n, d :: ds, h => by
    obtain ⟨h1, h2⟩ := lay_all fun x m => h x (List.mem_cons_of_mem _ m)
    obtain ⟨h3, h4⟩ := h d List.mem_cons_self
    exact ⟨by simp [PyData.canLayAll0, h1, h3], by simp only [PyData.depthAll]; omega⟩
theorem lay_list {n : Nat} {ds : List PyData} (h : ∀ d ∈ ds, Lay n d) : Lay (n + 1) (.list ds) := by
  obtain ⟨h1, h2⟩ := lay_all h
  exact ⟨by simp only [PyData.canLay0]; exact h1, by simp only [PyData.depth]; omega⟩
theorem lay_tuple {n : Nat} {ds : List PyData} (h : ∀ d ∈ ds, Lay n d) : Lay (n + 1) (.tuple ds) := by
  obtain ⟨h1, h2⟩ := lay_all h
  exact ⟨by simp only [PyData.canLay0]; exact h1, by simp only [PyData.depth]; omega⟩
theorem Lay.up {n m : Nat} {d : PyData} (h : Lay n d) (e : n ≤ m) : Lay m d := ⟨h.1, Nat.le_trans h.2 e⟩
theorem lay_int (i : Int) {n : Nat} : Lay n (.int i) := ⟨by simp [PyData.canLay0], by simp [PyData.depth]⟩
theorem lay_bool (i : Bool) {n : Nat} : Lay n (.bool i) := ⟨by simp [PyData.canLay0], by simp [PyData.depth]⟩
theorem lay_none {n : Nat} : Lay n .none := ⟨by simp [PyData.canLay0], by simp [PyData.depth]⟩
theorem lay_str {x : Str} (h : PyData.strOk x = true) {n : Nat} : Lay n (.str x) := ⟨by simp [PyData.canLay0, h], by simp [PyData.depth]⟩
theorem lay_ks {ks : List Str} (h : ∀ k ∈ ks, isKind k = true) : Lay 1 (ksD ks) := lay_list fun d m => by
  obtain ⟨k, hk, rfl⟩ := List.mem_map.mp m
  exact lay_str (strOk_kind (h k hk))
theorem lay_room {r : Room'} (h : goodRoom r) : Lay 2 (roomD r) := lay_tuple fun d m => by
  rcases List.mem_cons.mp m with rfl | m
  · exact lay_ks h.1
  rcases List.mem_cons.mp m with rfl | m
  · exact lay_ks h.2.1
  · cases m
theorem lay_house {h : House} (g : GoodHouse h) : Lay 4 (houseD h) := lay_tuple fun d m => by
  rcases List.mem_cons.mp m with rfl | m
  · exact (lay_ks g.keys).up (by decide)
  rcases List.mem_cons.mp m with rfl | m
  · exact lay_list fun d m => by
      obtain ⟨r, hr, rfl⟩ := List.mem_map.mp m
      exact lay_room (g.rooms r hr)
  · cases m
/-! ## isinstance of data -/
theorem kit_str : ∀ d : PyData, kitB (tyName d) "str" = some (match d with | .str _ => true | _ => false)
  | .none => by show kitB "NoneType" "str" = some false; decide +kernel
  | .bool _ => by show kitB "bool" "str" = some false; decide +kernel
  | .int _ => by show kitB "int" "str" = some false; decide +kernel
  | .str _ => by show kitB "str" "str" = some true; decide +kernel
  | .list _ => by show kitB "list" "str" = some false; decide +kernel
  | .tuple _ => by show kitB "tuple" "str" = some false; decide +kernel
  | .dict _ => by show kitB "dict" "str" = some false; decide +kernel
theorem kit_list : ∀ d : PyData, kitB (tyName d) "list" = some (match d with | .list _ => true | _ => false)
  | .none => by show kitB "NoneType" "list" = some false; decide +kernel
  | .bool _ => by show kitB "bool" "list" = some false; decide +kernel
  | .int _ => by show kitB "int" "list" = some false; decide +kernel
  | .str _ => by show kitB "str" "list" = some false; decide +kernel
  | .list _ => by show kitB "list" "list" = some true; decide +kernel
  | .tuple _ => by show kitB "tuple" "list" = some false; decide +kernel
  | .dict _ => by show kitB "dict" "list" = some false; decide +kernel
theorem kit_tuple : ∀ d : PyData, kitB (tyName d) "tuple" = some (match d with | .tuple _ => true | _ => false)
  | .none => by show kitB "NoneType" "tuple" = some false; decide +kernel
  | .bool _ => by show kitB "bool" "tuple" = some false; decide +kernel
  | .int _ => by show kitB "int" "tuple" = some false; decide +kernel
  | .str _ => by show kitB "str" "tuple" = some false; decide +kernel
  | .list _ => by show kitB "list" "tuple" = some false; decide +kernel
  | .tuple _ => by show kitB "tuple" "tuple" = some true; decide +kernel
  | .dict _ => by show kitB "dict" "tuple" = some false; decide +kernel
theorem kit_int : ∀ d : PyData, kitB (tyName d) "int" = some (match d with | .int _ => true | .bool _ => true | _ => false)
  | .none => by show kitB "NoneType" "int" = some false; decide +kernel
  | .bool _ => by show kitB "bool" "int" = some true; decide +kernel
  | .int _ => by show kitB "int" "int" = some true; decide +kernel
  | .str _ => by show kitB "str" "int" = some false; decide +kernel
  | .list _ => by show kitB "list" "int" = some false; decide +kernel
  | .tuple _ => by show kitB "tuple" "int" = some false; decide +kernel
  | .dict _ => by show kitB "dict" "int" = some false; decide +kernel
theorem kit_bool : ∀ d : PyData, kitB (tyName d) "bool" = some (match d with | .bool _ => true | _ => false)
  | .none => by show kitB "NoneType" "bool" = some false; decide +kernel
  | .bool _ => by show kitB "bool" "bool" = some true; decide +kernel
  | .int _ => by show kitB "int" "bool" = some false; decide +kernel
  | .str _ => by show kitB "str" "bool" = some false; decide +kernel
  | .list _ => by show kitB "list" "bool" = some false; decide +kernel
  | .tuple _ => by show kitB "tuple" "bool" = some false; decide +kernel
  | .dict _ => by show kitB "dict" "bool" = some false; decide +kernel
theorem kit_dict : ∀ d : PyData, kitB (tyName d) "dict" = some (match d with | .dict _ => true | _ => false)
  | .none => by show kitB "NoneType" "dict" = some false; decide +kernel
  | .bool _ => by show kitB "bool" "dict" = some false; decide +kernel
  | .int _ => by show kitB "int" "dict" = some false; decide +kernel
  | .str _ => by show kitB "str" "dict" = some false; decide +kernel
  | .list _ => by show kitB "list" "dict" = some false; decide +kernel
  | .tuple _ => by show kitB "tuple" "dict" = some false; decide +kernel
  | .dict _ => by show kitB "dict" "dict" = some true; decide +kernel
def pre1 (A : PyData → Prop) : List PyData → Prop := fun ds => ∃ d, ds = [d] ∧ A d
def fn1 (f : PyData → PyData) : List PyData → PyData := fun ds => f (ds.getD 0 .none)
def pre2 (A : PyData → PyData → Prop) : List PyData → Prop := fun ds => ∃ d e, ds = [d, e] ∧ A d e
def fn2 (f : PyData → PyData → PyData) : List PyData → PyData := fun ds => f (ds.getD 0 .none) (ds.getD 1 .none)
def pre3 (A : PyData → PyData → PyData → Prop) : List PyData → Prop := fun ds => ∃ d e g, ds = [d, e, g] ∧ A d e g
def fn3 (f : PyData → PyData → PyData → PyData) : List PyData → PyData := fun ds => f (ds.getD 0 .none) (ds.getD 1 .none) (ds.getD 2 .none)
end Kr

/-! layer Kr7 -/
namespace Kr
open PySem L2
/-! ## the pool -/
def Pool (H : Hp) (p : Addr) (n : Nat) : Prop := ∃ c m s : Int, H p = some (.lst [.int c, .int m, .int s]) ∧ (m = 0 ∨ m = 1) ∧ 0 ≤ s ∧ s ≤ n
theorem Pool.some {H : Hp} {p : Addr} {n : Nat} (h : Pool H p n) : ∃ o, H p = some o := by
  obtain ⟨c, m, s, h, _⟩ := h
  exact ⟨_, h⟩
theorem Pool.mono {H H' : Hp} {p : Addr} {n m : Nat} (h : Pool H p n) (s : Same H H') (e : n ≤ m := by omega) : Pool H' p m := by
  obtain ⟨c, k, t, h, h1, h2, h3⟩ := h
  exact ⟨c, k, t, s _ _ h, h1, h2, by omega⟩
/-- heaps that grow, the pool at p apart -/
structure Gp (p : Addr) (F H F2 H2 : Hp) : Prop where
  ff : Same F F2
  fh : Same F2 H2
  hh : ∀ b o, b ≠ p → H b = some o → H2 b = some o
  at' : H p ≠ none → H2 p ≠ none
  new : ∀ b, F b = none → H b ≠ none → F2 b = none
section
variable {p : Addr} {F H F1 H1 F2 H2 : Hp}
theorem Gr.gp (g : Gr F H F1 H1) : Gp p F H F1 H1 := ⟨g.ff, g.fh, fun b o _ e => g.hh _ _ e, fun n z => n (g.hh.free z), g.new⟩
theorem Gp.refl (s : Same F H) : Gp p F H F H := (Gr.refl s).gp
theorem Gp.trans (a : Gp p F H F1 H1) (b : Gp p F1 H1 F2 H2) : Gp p F H F2 H2 :=
  ⟨a.ff.trans b.ff, b.fh, fun c o n e => b.hh c o n (a.hh c o n e), fun n => b.at' (a.at' n), fun c e n => b.new c (a.new c e n) (by
    by_cases hc : c = p
    · subst hc; exact a.at' n
    · intro z
      cases hn : H c with
      | none => exact n hn
      | some o => rw [a.hh c o hc hn] at z; cases z)⟩
theorem Gp.pool (g : Gp p F H F1 H1) {o : HO} (h : F1 p = none) : Gp p F H F1 (upd H1 p o) :=
  ⟨g.ff, same_mut g.fh h, fun b u n e => (by rw [upd_ne n]; exact g.hh b u n e), fun _ => (by rw [upd_same]; exact fun z => nomatch z), g.new⟩
theorem Gp.to (g : Gp p F H F1 H1) (h : F1 p = none) (k : ∀ b u, b ≠ p → H1 b = some u → H2 b = some u) {n : Nat} (P : Pool H2 p n) : Gp p F H F1 H2 :=
  ⟨g.ff, fun b u e => k b u (ne_of_none e h) (g.fh b u e), fun b u n e => k b u n (g.hh b u n e), fun _ => (by obtain ⟨o, ho⟩ := P.some; rw [ho]; exact fun z => nomatch z), g.new⟩
theorem Gp.da (g : Gp p F H F1 H1) {d : PyData} {v : V} (h : Da F d v) : Da F1 d v := h.mono g.ff
theorem Gp.f0 (g : Gp p F H F1 H1) {q : Addr} {o : HO} (h : F q = none) (hH : H q = some o) : F1 q = none := g.new q h (by rw [hH]; exact fun z => nomatch z)
/-- a new object that stays open -/
theorem Gp.open' (g : Gp p F H F1 H1) {q : Addr} {o : HO} (h : H1 q = none) (hp : H p ≠ none) : Gp p F H F1 (upd H1 q o) :=
  ⟨g.ff, same_mut g.fh (g.fh.free h), fun b u n e => by
    have : b ≠ q := fun z => by subst z; rw [g.hh _ _ n e] at h; cases h
    rw [upd_ne this]; exact g.hh b u n e, fun n => by
    have : p ≠ q := fun z => by subst z; exact g.at' hp h
    rw [upd_ne this]; exact g.at' n, g.new⟩
theorem Gp.shut (g : Gp p F H F1 H1) {q : Addr} {o : HO} (h : H1 q = none) (hp : H p ≠ none) : Gp p F H (upd F1 q o) (upd H1 q o) := by
  have g2 := g.open' (o := o) h hp
  refine ⟨g.ff.trans (same_upd (g.fh.free h)), same_both g.fh, g2.hh, g2.at', fun b e n => ?_⟩
  have hb : b ≠ q := fun z => by
    subst z
    by_cases hbp : b = p
    · subst hbp; exact g.at' n h
    · cases hn : H b with
      | none => exact n hn
      | some o => rw [g.hh b o hbp hn] at h; cases h
  rw [upd_ne hb]; exact g.new b e n
/-- an open object of our own changes -/
theorem Gp.mut (g : Gp p F H F1 H1) {q : Addr} {o : HO} (h : H q = none) (hq : q ≠ p) (h1 : F1 q = none) : Gp p F H F1 (upd H1 q o) :=
  ⟨g.ff, same_mut g.fh h1, fun b u n e => (by rw [upd_ne (ne_of_none e h)]; exact g.hh b u n e), fun n => (by rw [upd_ne (fun z => hq z.symm)]; exact g.at' n), g.new⟩
theorem Gp.tell (g : Gp p F H F1 H1) {q : Addr} {o : HO} (h : H q = none) (h1 : F1 q = none) (ho : H1 q = some o) : Gp p F H (upd F1 q o) H1 :=
  ⟨g.ff.trans (same_upd h1), fun b x e => by
    by_cases hb : b = q
    · subst hb; rw [upd_same] at e; rw [ho]; exact e
    · rw [upd_ne hb] at e; exact g.fh _ _ e, g.hh, g.at', fun b e n => by
    have hb : b ≠ q := fun z => by subst z; exact n h
    rw [upd_ne hb]; exact g.new b e n⟩
theorem gr_ff (s : Same F H) : Gr F F F H := ⟨Same.refl _, s, s, fun _ e n => absurd e n⟩
end
section
variable {X : Cx} {σ : St} {F H : Hp} {e : Expr} {d : PyData} {v : V} {b : Bool} {es : List Expr} {ds : List PyData}
/-- what hangs on the told heap alone, at any heap -/
theorem DE.at (h : DE X e σ F F d) (s : Same F H) {Q : VK} (q : ∀ v F2 H2, Gr F H F2 H2 → Da F2 d v → Q v H2) : WE X e σ H Q := h F H (gr_ff s) Q q
theorem VE.at (h : VE X e σ F F v) (s : Same F H) {Q : VK} (q : ∀ F2 H2, Gr F H F2 H2 → Q v H2) : WE X e σ H Q := h F H (gr_ff s) Q q
theorem DT.at (h : DT X e σ F F b) (s : Same F H) {Q : Bool → Hp → Prop} (q : ∀ F2 H2, Gr F H F2 H2 → Q b H2) : WT X e σ H Q := h F H (gr_ff s) Q q
theorem DL.at (h : DL X es σ F F ds) (s : Same F H) {Q : List V → Hp → Prop} (q : ∀ vs F2 H2, Gr F H F2 H2 → DaAll F2 ds vs → Q vs H2) : WA X es σ H Q := h F H (gr_ff s) Q q
theorem DE.f {F' : Hp} (h : DE X e σ F F d) (s : Same F F') : DE X e σ F' F' d := h.mono ⟨s, Same.refl _, s, fun _ e n => absurd e n⟩
theorem DE.fh (h : DE X e σ F F d) (s : Same F H) : DE X e σ F H d := h.mono (gr_ff s)
end

/-! ## expressions that draw: of c drawings, told is one of R -/
def Px (p : Addr) (c : Nat) (X : Cx) (e : Expr) (σ : St) (F : Hp) (R : PyData → Prop) : Prop := ∀ n F1 H1, Same F F1 → Same F1 H1 → F1 p = none → Pool H1 p n → n + c ≤ 1000000 → ∀ Q : VK, (∀ d v F2 H2, Gp p F1 H1 F2 H2 → Pool H2 p (n + c) → Da F2 d v → R d → Q v H2) → WE X e σ H1 Q
def PxT (p : Addr) (c : Nat) (X : Cx) (e : Expr) (σ : St) (F : Hp) (R : Bool → Prop) : Prop := ∀ n F1 H1, Same F F1 → Same F1 H1 → F1 p = none → Pool H1 p n → n + c ≤ 1000000 → ∀ Q : Bool → Hp → Prop, (∀ b F2 H2, Gp p F1 H1 F2 H2 → Pool H2 p (n + c) → R b → Q b H2) → WT X e σ H1 Q
def spTake : Sp := fun vs H Q _ => ∃ (p : Addr) (n : Nat) (many : Int), vs = [.ref p, .int many] ∧ Pool H p n ∧ n < 1000000 ∧ 0 < many ∧ many < 1073741824 ∧ ∀ r H', 0 ≤ r → r < many → (∀ b u, b ≠ p → H b = some u → H' b = some u) → Pool H' p (n + 1) → Q (.int r) H'
section
variable {p : Addr} {c c1 c2 : Nat} {X : Cx} {σ : St} {F H : Hp} {e a b : Expr} {d : PyData} {ds : List PyData} {R R' : PyData → Prop} {pos q : Pos} {x : Str} {i j : Int}
theorem Px.imp (h : Px p c X e σ F R) (k : ∀ d, R d → R' d) : Px p c X e σ F R' := fun n F1 H1 s1 s2 f P hc Q q => h n F1 H1 s1 s2 f P hc Q fun d v F2 H2 g P2 hd hR => q d v F2 H2 g P2 hd (k d hR)
theorem Px.mono {F' : Hp} (h : Px p c X e σ F R) (s : Same F F') : Px p c X e σ F' R := fun n F1 H1 s1 s2 f P hc Q q => h n F1 H1 (s.trans s1) s2 f P hc Q q
theorem Px.up (h : Px p c X e σ F R) (hc : c ≤ c1) : Px p c1 X e σ F R := fun n F1 H1 s1 s2 f P hn Q q => h n F1 H1 s1 s2 f P (by omega) Q fun d v F2 H2 g P2 hd hR => q d v F2 H2 g (P2.mono (Same.refl _) (by omega)) hd hR
theorem Px.go {n : Nat} (h : Px p c X e σ F R) (s : Same F H) (f : F p = none) (P : Pool H p n) (hn : n + c ≤ 1000000) {Q : VK} (q : ∀ d v F2 H2, Gp p F H F2 H2 → Pool H2 p (n + c) → Da F2 d v → R d → Q v H2) : WE X e σ H Q := h n F H (Same.refl _) s f P hn Q q
theorem PxT.go {R : Bool → Prop} {n : Nat} (h : PxT p c X e σ F R) (s : Same F H) (f : F p = none) (P : Pool H p n) (hn : n + c ≤ 1000000) {Q : Bool → Hp → Prop} (q : ∀ b F2 H2, Gp p F H F2 H2 → Pool H2 p (n + c) → R b → Q b H2) : WT X e σ H Q := h n F H (Same.refl _) s f P hn Q q
theorem px_d (h : DE X e σ F F d) : Px p 0 X e σ F (fun d' => d' = d) := fun n F1 H1 s1 s2 f P hn Q q => (h.f s1).at s2 fun v F2 H2 g hd => q d v F2 H2 g.gp (P.mono g.hh) hd rfl
/-- two parts, one after the other -/
theorem px_op {op : Operator} {r : R2} {A B : PyData → Prop} (ho : OpR X (binaryOp op) r) (ha : Px p c1 X a σ F A) (hb : Px p c2 X b σ F B)
    (hr : ∀ d1 d2 x y F1 H1, Same F F1 → Same F1 H1 → A d1 → B d2 → Da F1 d1 x → Da F1 d2 y → ∀ Q : VK, (∀ d v F2 H2, Gr F1 H1 F2 H2 → Da F2 d v → R d → Q v H2) → r x y H1 Q) : Px p (c1 + c2) X (.BinOp a op b pos) σ F R := fun n F1 H1 s1 s2 f P hn Q q =>
  we_of (pe_op ho pe_we pe_we) (ha n F1 H1 s1 s2 f P (by omega) _ fun d1 x F2 H2 g2 P2 hx hA => hb (n + c1) F2 H2 (s1.trans g2.ff) g2.fh (by obtain ⟨o, ho⟩ := P.some; exact g2.f0 f ho) P2 (by omega) _ fun d2 y F3 H3 g3 P3 hy hB =>
    hr d1 d2 x y F3 H3 ((s1.trans g2.ff).trans g3.ff) g3.fh hA hB (g3.da hx) hy Q fun d v F4 H4 g4 hv hR => q d v F4 H4 ((g2.trans g3).trans g4.gp) (P3.mono g4.hh (by omega)) hv hR)
theorem px_add {A B : Int → Prop} (ha : Px p c1 X a σ F (fun d => ∃ i, d = .int i ∧ A i)) (hb : Px p c2 X b σ F (fun d => ∃ i, d = .int i ∧ B i)) : Px p (c1 + c2) X (.BinOp a .Add b pos) σ F (fun d => ∃ i j, d = .int (i + j) ∧ A i ∧ B j) :=
  px_op op_add ha hb fun d1 d2 x y F1 H1 s1 s2 ⟨i, e1, hi⟩ ⟨j, e2, hj⟩ hx hy Q q => by
    subst e1 e2
    exact ⟨i, j, hx, hy, q (.int (i + j)) (.int (i + j)) F1 H1 (.refl s2) rfl ⟨i, j, rfl, hi, hj⟩⟩
theorem px_ixL {A : PyData → Prop} (ha : Px p c1 X a σ F A) (hb : Px p c2 X b σ F (fun d => ∃ i, d = .int i ∧ (0 : Int) ≤ i ∧ ∀ d', A d' → ∃ ds, d' = .list ds ∧ i < ds.length ∧ ∀ d ∈ ds, R d)) (hs : PlainIx b := by exact fun _ _ => rfl) : Px p (c1 + c2) X (.Subscript a b pos) σ F R := fun n F1 H1 s1 s2 f P hn Q q =>
  we_of (pe_ix ix_list pe_we pe_we hs) (ha n F1 H1 s1 s2 f P (by omega) _ fun d1 x F2 H2 g2 P2 hx hA => hb (n + c1) F2 H2 (s1.trans g2.ff) g2.fh (by obtain ⟨o, ho⟩ := P.some; exact g2.f0 f ho) P2 (by omega) _ fun d2 y F3 H3 g3 P3 hy hB => by
    obtain ⟨i, rfl, h0, hl⟩ := hB
    obtain ⟨ds, rfl, hlt, hall⟩ := hl _ hA
    obtain ⟨r, vs, rfl, h1, h2⟩ := g3.da hx
    have hi : i.toNat < ds.length := by omega
    have e : ds[i.toNat]? = some ds[i.toNat] := List.getElem?_eq_getElem hi
    obtain ⟨v, hv, hd⟩ := h2.get e
    refine ⟨r, vs, i, v, rfl, hy, SqL.of (g3.fh _ _ h1), at_of (by omega) hv, q _ v F3 H3 (g2.trans g3) (P3.mono (Same.refl _) (by omega)) hd (hall _ (List.getElem_mem hi))⟩)
theorem px_take {f : Addr} {fd : FuncData} {k : Nat} {m : Int} (G : FnOk X.prog X.w X.K X.mg X.base CX0 k f fd ["pool", "many"] spTake) (hr : Room k X.A) (hm : X.mg "_law_take" = some (.ref f)) (hk : PySem.W.keepIn X.K (.ref f) = true) (hb : Binds X.K fd ["pool", "many"] [])
    (hp : VE X a σ F F (.ref p)) (he : Px p c X b σ F (fun d => ∃ i, d = .int i ∧ (0 : Int) < i ∧ i ≤ m)) (hmm : m < 1073741824) (hg : Gl X "_law_take" := by rfl) (l : Pl X a [b] pos := by exact ⟨rfl, rfl⟩) (l2 : starEach [b] X.env = [(false, eval b X.env)] := by rfl) :
    Px p (c + 1) X (.Call (.Name "_law_take" q) [a, b] [] pos) σ F (fun d => ∃ i, d = .int i ∧ (0 : Int) ≤ i ∧ i < m) := fun n F1 H1 s1 s2 f1 P hn Q k =>
  we_of (pe_call G hr hg hm hk hb .nil pass0 (pa_cons pe_we (pa_cons pe_we pa_nil l2) l.he) (by decide) l.he l.hpl) ((hp.mono ⟨s1, Same.refl _, s1, fun _ e n => absurd e n⟩).at s2 fun F2 H2 g2 => he n F2 H2 (s1.trans g2.ff) g2.fh (by obtain ⟨o, ho⟩ := P.some; exact g2.f0 f1 ho) (P.mono g2.hh) (by omega) _ fun d y F3 H3 g3 P3 hy hB => by
    obtain ⟨i, rfl, h0, h1⟩ := hB
    obtain rfl : y = .int i := hy
    refine ⟨p, n + c, i, rfl, P3, by omega, h0, by omega, fun r H4 hr0 hr1 k4 P4 => ?_⟩
    have f3 : F3 p = none := by
      obtain ⟨o, ho⟩ := P.some
      exact (g2.gp.trans g3).f0 f1 ho
    exact k (.int r) (.int r) F3 _ ((g2.gp.trans g3).to f3 k4 P4) (P4.mono (Same.refl _) (by omega)) rfl ⟨r, rfl, hr0, by omega⟩)
end
/-! ## comprehensions that draw -/
/-- .. and what is told is new -/
def PxN (p : Addr) (c : Nat) (X : Cx) (e : Expr) (σ : St) (F : Hp) (R : PyData → Prop) : Prop := ∀ n F1 H1, Same F F1 → Same F1 H1 → F1 p = none → Pool H1 p n → n + c ≤ 1000000 → ∀ Q : VK, (∀ d v F2 H2, Gp p F1 H1 F2 H2 → Pool H2 p (n + c) → Da F2 d v → R d → (∀ a, v = .ref a → H1 a = none) → Q v H2) → WE X e σ H1 Q
theorem PxN.px {p : Addr} {c : Nat} {X : Cx} {e : Expr} {σ : St} {F : Hp} {R : PyData → Prop} (h : PxN p c X e σ F R) : Px p c X e σ F R := fun n F1 H1 s1 s2 f P hn Q q => h n F1 H1 s1 s2 f P hn Q fun d v F2 H2 g P2 hd hR _ => q d v F2 H2 g P2 hd hR
theorem PxN.imp {p : Addr} {c : Nat} {X : Cx} {e : Expr} {σ : St} {F : Hp} {R R' : PyData → Prop} (h : PxN p c X e σ F R) (k : ∀ d, R d → R' d) : PxN p c X e σ F R' := fun n F1 H1 s1 s2 f P hn Q q => h n F1 H1 s1 s2 f P hn Q fun d v F2 H2 g P2 hd hR hf => q d v F2 H2 g P2 hd (k d hR) hf
theorem PxN.up {p : Addr} {c c1 : Nat} {X : Cx} {e : Expr} {σ : St} {F : Hp} {R : PyData → Prop} (h : PxN p c X e σ F R) (hc : c ≤ c1) : PxN p c1 X e σ F R := fun n F1 H1 s1 s2 f P hn Q q => h n F1 H1 s1 s2 f P (by omega) Q fun d v F2 H2 g P2 hd hR hf => q d v F2 H2 g (P2.mono (Same.refl _) (by omega)) hd hR hf
theorem PxN.go {p : Addr} {c n : Nat} {X : Cx} {e : Expr} {σ : St} {F H : Hp} {R : PyData → Prop} (h : PxN p c X e σ F R) (s : Same F H) (f : F p = none) (P : Pool H p n) (hn : n + c ≤ 1000000) {Q : VK} (q : ∀ d v F2 H2, Gp p F H F2 H2 → Pool H2 p (n + c) → Da F2 d v → R d → (∀ a, v = .ref a → H a = none) → Q v H2) : WE X e σ H Q := h n F H (Same.refl _) s f P hn Q q
theorem pxn_lcR {p : Addr} {c0 ce : Nat} {M : Nat} {X : Cx} {σ : St} {F : Hp} {e elt tg : Expr} {scope : Scope} {pos rp q : Pos} (own : List (Str × Nat)) {A : Nat → Prop} {R : PyData → Prop} (o : LcOk X scope own (.Call (.Name "range" q) [e] [] rp)) (hm : X.mg "range" = none)
    (he : Px p c0 X e σ F (fun d => ∃ i : Nat, d = .int i ∧ i ≤ M ∧ A i)) (hM : M ≤ 100000)
    (hs : ∀ (k : Int) F' H', 0 ≤ k → k < M → Same F F' → gB X scope tg (.int k) (wipe σ (own.map (·.2))) H' fun σ2 H2 => H2 = H' ∧ wipe σ2 (own.map (·.2)) = wipe σ (own.map (·.2)) ∧ ∀ s H0 C cl fp, Px p ce (Blk X scope s H0 C cl fp) elt σ2 F' R)
    (hg : Gl X "range" := by rfl) (l : Pl X e [] rp := by exact ⟨rfl, rfl⟩) :
    PxN p (c0 + M * ce) X (.ListComp elt [⟨tg, .Call (.Name "range" q) [e] [] rp, [], 0⟩] scope pos) σ F (fun d => ∃ ds, d = .list ds ∧ ds.length ≤ M ∧ A ds.length ∧ ∀ x ∈ ds, R x) := fun n F1 H1 s1 s2 f1 P hn Q k =>
  we_of (pe_lc (g := gB X scope tg) (tt := tYes) (te := eB X scope elt) (own := own) o.calm o.nd (pi_range1 hg hm (pa_cons pe_we pa_nil l.he) (hs := l.he)) (blkOk_by o.ok) (fun s H0 C cl fp => ⟨fun pins s' σ H v u Q I r h => h s H0 C cl fp pins s' u I r⟩) (fun _ _ _ _ _ => pts_nil) (fun s H0 C cl fp => ⟨fun pins s' σ H Q I h => h s H0 C cl fp pins s' I⟩) o.fs)
    (he n F1 H1 s1 s2 f1 P (by omega) _ fun d v F2 H2 g2 P2 hd hA => by
      obtain ⟨j, rfl, hj, hAj⟩ := hA
      obtain rfl : v = .int j := hd
      have f2 : F2 p = none := by
        obtain ⟨o, ho⟩ := P.some
        exact g2.f0 f1 ho
      have mul_le : ∀ i : Nat, i ≤ M → i * ce ≤ M * ce := fun i hi => Nat.mul_le_mul_right ce hi
      refine ⟨j, rfl, by omega, by omega, fun D hD => ?_⟩
      have hDp : D ≠ p := fun z => by
        subst z
        obtain ⟨o, ho⟩ := P2.some
        rw [ho] at hD; cases hD
      have hp2 : H2 p ≠ none := by obtain ⟨o, ho⟩ := P2.some; rw [ho]; exact fun z => nomatch z
      refine lc_range (lo := 0) (n := (j : Int).toNat) (fun i H' => i ≤ M ∧ ∃ F' ys ds, Gp p F2 H2 F' H' ∧ F' D = none ∧ F' p = none ∧ H' D = some (.lst ys) ∧ DaAll F' ds ys ∧ ds.length = i ∧ (∀ x ∈ ds, R x) ∧ Pool H' p (n + c0 + i * ce)) ?_ ?_ ?_
      · exact ⟨Nat.zero_le _, F2, [], [], (Gp.refl g2.fh).open' hD hp2, g2.fh.free hD, f2, upd_same, daAll_nil, rfl, (fun x hx => nomatch hx), by
          obtain ⟨c, m, t, h, h1, h2, h3⟩ := P2
          exact ⟨c, m, t, by rw [upd_ne (fun z => hDp z.symm)]; exact h, h1, h2, by omega⟩⟩
      · rintro i H' hi ⟨hiM, F', ys, ds, g', n', np', e', a', hl, hR, P'⟩
        have hi' : i < M := by omega
        have hml := mul_le (i + 1) (by omega)
        rw [Nat.add_mul, Nat.one_mul] at hml
        refine gB_mono _ _ _ _ _ ?_ (hs (0 + (i : Int)) F' H' (by omega) (by omega) (s1.trans (g2.ff.trans g'.ff)))
        rintro σ2 H3 ⟨rfl, hw, hx⟩
        refine ⟨hw, ?_⟩
        unfold tYes
        dsimp only
        rw [if_pos rfl]
        intro s0 H0 C cl fp
        refine hx s0 H0 C cl fp (n + c0 + i * ce) F' H3 (Same.refl _) g'.fh np' P' (by omega) _ fun dx v F4 H4 g4 P4 hv hRx => ?_
        refine ⟨ys, ?_, ?_, by omega, F4, ys ++ [v], ds ++ [dx], ?_, g4.f0 n' e', ?_, upd_same, (a'.mono g4.ff).snoc hv, by simp [hl], ?_, ?_⟩
        · exact g4.hh _ _ hDp e'
        · have := a'.length
          have : sizeLine = 16777216 := by decide
          omega
        · exact (g'.trans g4).mut hD hDp (g4.f0 n' e')
        · obtain ⟨o, ho⟩ := P'.some
          exact g4.f0 np' ho
        · intro x hx'
          rcases List.mem_append.mp hx' with h | h
          · exact hR x h
          · rw [List.mem_singleton] at h; subst h; exact hRx
        · obtain ⟨c, m, t, h, h1, h2, h3⟩ := P4
          refine ⟨c, m, t, by rw [upd_ne (fun z => hDp z.symm)]; exact h, h1, h2, ?_⟩
          rw [Nat.add_mul, Nat.one_mul]
          omega
      · rintro H' ⟨hiM, F', ys, ds, g', n', np', e', a', hl, hR, P'⟩
        have hjj : (j : Int).toNat = j := Int.toNat_natCast j
        rw [hjj] at hl P'
        have hml := mul_le j hj
        exact k (.list ds) (.ref D) (upd F' D (.lst ys)) H' (g2.trans (g'.tell hD n' e')) (P'.mono (Same.refl _) (by omega)) ⟨D, ys, rfl, upd_same, a'.mono (same_upd n')⟩ ⟨ds, rfl, by omega, by rw [hl]; exact hAj, hR⟩ (fun a ea => by
          injection ea with ea
          subst ea
          cases hq : H1 D with
          | none => rfl
          | some o => rw [g2.hh D o hDp hq] at hD; cases hD))
theorem px_lcR {p : Addr} {c0 ce : Nat} {M : Nat} {X : Cx} {σ : St} {F : Hp} {e elt tg : Expr} {scope : Scope} {pos rp q : Pos} (own : List (Str × Nat)) {A : Nat → Prop} {R : PyData → Prop} (o : LcOk X scope own (.Call (.Name "range" q) [e] [] rp)) (hm : X.mg "range" = none)
    (he : Px p c0 X e σ F (fun d => ∃ i : Nat, d = .int i ∧ i ≤ M ∧ A i)) (hM : M ≤ 100000)
    (hs : ∀ (k : Int) F' H', 0 ≤ k → k < M → Same F F' → gB X scope tg (.int k) (wipe σ (own.map (·.2))) H' fun σ2 H2 => H2 = H' ∧ wipe σ2 (own.map (·.2)) = wipe σ (own.map (·.2)) ∧ ∀ s H0 C cl fp, Px p ce (Blk X scope s H0 C cl fp) elt σ2 F' R)
    (hg : Gl X "range" := by rfl) (l : Pl X e [] rp := by exact ⟨rfl, rfl⟩) :
    Px p (c0 + M * ce) X (.ListComp elt [⟨tg, .Call (.Name "range" q) [e] [] rp, [], 0⟩] scope pos) σ F (fun d => ∃ ds, d = .list ds ∧ ds.length ≤ M ∧ A ds.length ∧ ∀ x ∈ ds, R x) := (pxn_lcR own o hm he hM hs hg l).px
/-! ## defs that draw -/
def spP (c n : Nat) (pre : List PyData → Prop) (post : List PyData → PyData → Prop) : Sp := fun vs H Q _ => ∃ (p : Addr) (m : Nat) (F : Hp) (ds : List PyData) (us : List V), vs = .ref p :: us ∧ ds.length = n ∧ Pool H p m ∧ m + c ≤ 1000000 ∧ Same F H ∧ F p = none ∧ DaAll F ds us ∧ pre ds ∧
  ∀ d v F2 H2, Gp p F H F2 H2 → Pool H2 p (m + c) → Da F2 d v → post ds d → Q v H2
/-- .. that tells a new thing -/
def spN (c n : Nat) (pre : List PyData → Prop) (post : List PyData → PyData → Prop) : Sp := fun vs H Q _ => ∃ (p : Addr) (m : Nat) (F : Hp) (ds : List PyData) (us : List V), vs = .ref p :: us ∧ ds.length = n ∧ Pool H p m ∧ m + c ≤ 1000000 ∧ Same F H ∧ F p = none ∧ DaAll F ds us ∧ pre ds ∧
  ∀ d v F2 H2, Gp p F H F2 H2 → Pool H2 p (m + c) → Da F2 d v → post ds d → (∀ a, v = .ref a → H a = none) → Q v H2
def PxA (p : Addr) (c : Nat) (X : Cx) (es : List Expr) (σ : St) (F : Hp) (R : List PyData → Prop) : Prop := ∀ n F1 H1, Same F F1 → Same F1 H1 → F1 p = none → Pool H1 p n → n + c ≤ 1000000 → ∀ Q : List V → Hp → Prop, (∀ ds vs F2 H2, Gp p F1 H1 F2 H2 → Pool H2 p (n + c) → DaAll F2 ds vs → R ds → Q vs H2) → WA X es σ H1 Q
section
variable {p : Addr} {c c1 c2 : Nat} {X : Cx} {σ : St} {F H : Hp} {e a b : Expr} {es : List Expr} {d : PyData} {ds : List PyData} {A : PyData → Prop} {R : List PyData → Prop} {pos q : Pos} {x : Str}
theorem pxa_nil : PxA p 0 X [] σ F (fun ds => ds = []) := fun n F1 H1 s1 s2 f P hn Q k => wa_of pa_nil (k [] [] F1 H1 (Gp.refl s2) P daAll_nil rfl)
theorem pxa_cons (h : Px p c1 X e σ F A) (t : PxA p c2 X es σ F R) (hs : starEach (e :: es) X.env = (false, eval e X.env) :: starEach es X.env := by rfl) : PxA p (c1 + c2) X (e :: es) σ F (fun ds => ∃ d r, ds = d :: r ∧ A d ∧ R r) := fun n F1 H1 s1 s2 f P hn Q k =>
  wa_of (pa_cons pe_we pa_wa hs) (h n F1 H1 s1 s2 f P (by omega) _ fun d v F2 H2 g2 P2 hv hA => t (n + c1) F2 H2 (s1.trans g2.ff) g2.fh (by obtain ⟨o, ho⟩ := P.some; exact g2.f0 f ho) P2 (by omega) _ fun r vs F3 H3 g3 P3 hvs hR =>
    k (d :: r) (v :: vs) F3 H3 (g2.trans g3) (P3.mono (Same.refl _) (by omega)) (daAll_cons (g3.da hv) hvs) ⟨d, r, rfl, hA, hR⟩)
theorem px_call {f : Addr} {fd : FuncData} {k n : Nat} {ps : List Str} {pre : List PyData → Prop} {post : List PyData → PyData → Prop} {B : PyData → Prop} (G : FnOk X.prog X.w X.K X.mg X.base CX0 k f fd ps (spP c2 n pre post)) (hr : Room k X.A) (hm : X.mg x = some (.ref f)) (hk : PySem.W.keepIn X.K (.ref f) = true) (hb : Binds X.K fd ps [])
    (hp : VE X a σ F F (.ref p)) (he : PxA p c1 X es σ F R) (hR : ∀ ds, R ds → ds.length = n ∧ pre ds ∧ ∀ d, post ds d → B d) (hg : Gl X x := by rfl) (hdb : (x == ("__debug__" : Str)) = false := by decide) (l : Pl X a es pos := by exact ⟨rfl, rfl⟩) :
    Px p (c1 + c2) X (.Call (.Name x q) (a :: es) [] pos) σ F B := fun n F1 H1 s1 s2 f1 P hn Q k =>
  we_of (pe_call G hr hg hm hk hb .nil pass0 (pa_cons pe_we pa_wa l.he) hdb l.he l.hpl) ((hp.mono ⟨s1, Same.refl _, s1, fun _ e n => absurd e n⟩).at s2 fun F2 H2 g2 => he n F2 H2 (s1.trans g2.ff) g2.fh (by obtain ⟨o, ho⟩ := P.some; exact g2.f0 f1 ho) (P.mono g2.hh) (by omega) _ fun ds us F3 H3 g3 P3 hus hds => by
    obtain ⟨h1, h2, h3⟩ := hR ds hds
    have f3 : F3 p = none := by
      obtain ⟨o, ho⟩ := P.some
      exact (g2.gp.trans g3).f0 f1 ho
    show spP c2 _ pre post ((.ref p :: us) ++ []) H3 Q E0
    rw [List.append_nil]
    exact ⟨p, n + c1, F3, ds, us, rfl, h1, P3, by omega, g3.fh, f3, hus, h2, fun d v F4 H4 g4 P4 hd hpo => k d v F4 H4 ((g2.gp.trans g3).trans g4) (P4.mono (Same.refl _) (by omega)) hd (h3 d hpo)⟩)
theorem pxn_call {f : Addr} {fd : FuncData} {k n : Nat} {ps : List Str} {pre : List PyData → Prop} {post : List PyData → PyData → Prop} {B : PyData → Prop} (G : FnOk X.prog X.w X.K X.mg X.base CX0 k f fd ps (spN c2 n pre post)) (hr : Room k X.A) (hm : X.mg x = some (.ref f)) (hk : PySem.W.keepIn X.K (.ref f) = true) (hb : Binds X.K fd ps [])
    (hp : VE X a σ F F (.ref p)) (he : PxA p c1 X es σ F R) (hR : ∀ ds, R ds → ds.length = n ∧ pre ds ∧ ∀ d, post ds d → B d) (hg : Gl X x := by rfl) (hdb : (x == ("__debug__" : Str)) = false := by decide) (l : Pl X a es pos := by exact ⟨rfl, rfl⟩) :
    PxN p (c1 + c2) X (.Call (.Name x q) (a :: es) [] pos) σ F B := fun n F1 H1 s1 s2 f1 P hn Q k =>
  we_of (pe_call G hr hg hm hk hb .nil pass0 (pa_cons pe_we pa_wa l.he) hdb l.he l.hpl) ((hp.mono ⟨s1, Same.refl _, s1, fun _ e n => absurd e n⟩).at s2 fun F2 H2 g2 => he n F2 H2 (s1.trans g2.ff) g2.fh (by obtain ⟨o, ho⟩ := P.some; exact g2.f0 f1 ho) (P.mono g2.hh) (by omega) _ fun ds us F3 H3 g3 P3 hus hds => by
    obtain ⟨h1, h2, h3⟩ := hR ds hds
    have f3 : F3 p = none := by
      obtain ⟨o, ho⟩ := P.some
      exact (g2.gp.trans g3).f0 f1 ho
    show spN c2 _ pre post ((.ref p :: us) ++ []) H3 Q E0
    rw [List.append_nil]
    exact ⟨p, n + c1, F3, ds, us, rfl, h1, P3, by omega, g3.fh, f3, hus, h2, fun d v F4 H4 g4 P4 hd hpo hf => k d v F4 H4 ((g2.gp.trans g3).trans g4) (P4.mono (Same.refl _) (by omega)) hd (h3 d hpo) (fun a ea => by
      have h3a := hf a ea
      have gg := g2.gp.trans g3
      have hap : a ≠ p := fun z => by
        subst z
        obtain ⟨o, ho⟩ := P3.some
        rw [ho] at h3a; cases h3a
      cases hq : H1 a with
      | none => rfl
      | some o => rw [gg.hh a o hap hq] at h3a; cases h3a)⟩)
end
section
variable {P : Program} {w : World} {K : PySem.W.Frag} {mg : Str → Option Value} {base : Heap}
theorem okP {x qual : Str} {st : Stmt} {f : Addr} {fd : FuncData} {N ps : List Str} {k c n : Nat} {pre : List PyData → Prop} {post : List PyData → PyData → Prop} (F : Fun K x qual st f fd) (S : FnScope N ps (defScope st)) (hn : ps.length = n + 1)
    (hbody : ∀ (X : Cx) (cdv : Value) (A : Around) (outer : List Env) (s : Shared) (H0 : Hp) (E : XK) (p : Addr) (m : Nat) (us : List V) (F H : Hp) (ds : List PyData) (Q : VK), X = (cxOf CX0 P w K mg base N qual (defScope st) f cdv A outer s H0 E).nox → Room k X.A → Pool H p m → m + c ≤ 1000000 → Same F H → F p = none → DaAll F ds us → pre ds →
      (∀ d v F2 H2, Gp p F H F2 H2 → Pool H2 p (m + c) → Da F2 d v → post ds d → Q v H2) → WSs X (defBody st) { nx := fun _ H' => Q .non H', rt := Q } (start N (.ref p :: us)) H) : FnOk P w K mg base CX0 (k + 1) f fd ps (spP c n pre post) :=
  okW F S (fun vs H Q E ⟨p, m, F, ds, us, e, hl, _, _, _, _, ha, _⟩ => by rw [e, List.length_cons, ha.length, hl, hn]) fun cdv A outer s H vs Q E hr ⟨p, m, F, ds, us, e, hl, hP, hm, hs, hp, ha, hpre, q⟩ => by
    subst e
    exact hbody _ cdv A outer s H E p m us F H ds Q rfl hr hP hm hs hp ha hpre q
theorem okN {x qual : Str} {st : Stmt} {f : Addr} {fd : FuncData} {N ps : List Str} {k c n : Nat} {pre : List PyData → Prop} {post : List PyData → PyData → Prop} (F : Fun K x qual st f fd) (S : FnScope N ps (defScope st)) (hn : ps.length = n + 1)
    (hbody : ∀ (X : Cx) (cdv : Value) (A : Around) (outer : List Env) (s : Shared) (H0 : Hp) (E : XK) (p : Addr) (m : Nat) (us : List V) (F H : Hp) (ds : List PyData) (Q : VK), X = (cxOf CX0 P w K mg base N qual (defScope st) f cdv A outer s H0 E).nox → Room k X.A → Pool H p m → m + c ≤ 1000000 → Same F H → F p = none → DaAll F ds us → pre ds →
      (∀ d v F2 H2, Gp p F H F2 H2 → Pool H2 p (m + c) → Da F2 d v → post ds d → (∀ a, v = .ref a → H a = none) → Q v H2) → WSs X (defBody st) { nx := fun _ H' => Q .non H', rt := Q } (start N (.ref p :: us)) H) : FnOk P w K mg base CX0 (k + 1) f fd ps (spN c n pre post) :=
  okW F S (fun vs H Q E ⟨p, m, F, ds, us, e, hl, _, _, _, _, ha, _⟩ => by rw [e, List.length_cons, ha.length, hl, hn]) fun cdv A outer s H vs Q E hr ⟨p, m, F, ds, us, e, hl, hP, hm, hs, hp, ha, hpre, q⟩ => by
    subst e
    exact hbody _ cdv A outer s H E p m us F H ds Q rfl hr hP hm hs hp ha hpre q
end
/-! ## the script -/
section
variable {X : Cx} {σ : St} {F H : Hp} {e a b : Expr} {pos p : Pos} {l : Addr} {ns : List Int} {i : Int}
theorem de_lenQ (hm : X.mg "len" = none) (ha : VE X e σ F H (.ref l)) (hq : SqL X.K F l (ns.map V.int)) (hg : Gl X "len" := by rfl) (pl : Pl X e [] pos := by exact ⟨rfl, rfl⟩) : DE X (.Call (.Name "len" p) [e] [] pos) σ F H (.int ns.length) := fun F1 H1 g Q q =>
  we_of (pe_callB call_len hg hm PySem.boot_len (pa_cons pe_we pa_nil pl.he) (by decide) (by decide) pl.he pl.hpl) (ha F1 H1 g _ fun F2 H2 g2 => ⟨_, (ns.map V.int).length, rfl, .inl ⟨_, (g.trans g2).same.seq hq, rfl⟩, q _ F2 H2 g2 (by rw [List.length_map]; rfl)⟩)
theorem de_ixQ {n : Int} (ha : VE X a σ F H (.ref l)) (hb : DE X b σ F H (.int i)) (hq : SqL X.K F l (ns.map V.int)) (h0 : 0 ≤ i) (hn : ns[i.toNat]? = some n) (hs : PlainIx b := by exact fun _ _ => rfl) : DE X (.Subscript a b pos) σ F H (.int n) := fun F1 H1 g Q q =>
  we_of (pe_ix ix_list pe_we pe_we hs) (ha F1 H1 g _ fun F2 H2 g2 => hb F2 H2 (g.trans g2) _ fun y F3 H3 g3 hy =>
    ⟨l, ns.map V.int, i, .int n, rfl, hy, ((g.trans g2).trans g3).same.seq hq, at_of (j := i.toNat) (by omega) (by rw [List.getElem?_map, hn]; rfl), q _ F3 H3 (g2.trans g3) rfl⟩)
end
section
variable {X : Cx} {σ : St} {F H : Hp} {e a b : Expr} {pos p : Pos} {i j : Int}
theorem de_min2 (hm : X.mg "min" = none) (hc : X.calm = true) (ha : DE X a σ F H (.int i)) (hb : DE X b σ F H (.int j)) (hg : Gl X "min" := by rfl) (l : Pl X a [b] pos := by exact ⟨rfl, rfl⟩) (l2 : starEach [b] X.env = [(false, eval b X.env)] := by rfl) : DE X (.Call (.Name "min" p) [a, b] [] pos) σ F H (.int (min i j)) :=
  de_callB (call_min2 hc) hg hm (by decide +kernel) (dl_cons ha (dl_cons hb dl_nil l2) l.he) (fun vs F1 H1 g1 hv Q q => by
    obtain ⟨v, u, rfl, h1, h2⟩ := daAll2 hv
    obtain rfl : v = .int i := h1
    obtain rfl : u = .int j := h2
    refine ⟨i, j, rfl, q _ F1 H1 (.refl g1.fh) ?_⟩
    show V.int _ = V.int _
    congr 1
    split <;> omega) ⟨by decide, by decide⟩ l
theorem de_max2 (hm : X.mg "max" = none) (hc : X.calm = true) (ha : DE X a σ F H (.int i)) (hb : DE X b σ F H (.int j)) (hg : Gl X "max" := by rfl) (l : Pl X a [b] pos := by exact ⟨rfl, rfl⟩) (l2 : starEach [b] X.env = [(false, eval b X.env)] := by rfl) : DE X (.Call (.Name "max" p) [a, b] [] pos) σ F H (.int (max i j)) :=
  de_callB (call_max2 hc) hg hm (by decide +kernel) (dl_cons ha (dl_cons hb dl_nil l2) l.he) (fun vs F1 H1 g1 hv Q q => by
    obtain ⟨v, u, rfl, h1, h2⟩ := daAll2 hv
    obtain rfl : v = .int i := h1
    obtain rfl : u = .int j := h2
    refine ⟨i, j, rfl, q _ F1 H1 (.refl g1.fh) ?_⟩
    show V.int _ = V.int _
    congr 1
    split <;> omega) ⟨by decide, by decide⟩ l
/-- a new list that stays open -/
theorem we_lst {es : List Expr} {ds : List PyData} (h : DL X es σ F F ds) (s : Same F H) (hz : ds.length ≤ sizeLine) {Q : VK} (q : ∀ l vs F2 H2, Gr F H F2 H2 → DaAll F2 ds vs → H2 l = none → Q (.ref l) (upd H2 l (.lst vs))) : WE X (.List es pos) σ H Q :=
  we_of (pe_lst pa_wa) (h.at s fun vs F2 H2 g2 hvs => ⟨by rw [hvs.length]; exact hz, fun l hl => q l vs F2 H2 g2 hvs hl⟩)
end
end Kr

/-! layer Kr8 -/
namespace Kr
open PySem L2
/-! ## texts of letters -/
def LS (x : Str) : Prop := ∀ c ∈ x.cps.toList, c ∈ letters.cps.toList
theorem isKind_iff {x : Str} : isKind x = true ↔ LS x ∧ 1 ≤ x.length ∧ x.length ≤ 4 := by
  unfold isKind LS
  simp only [Bool.and_eq_true, List.all_eq_true, decide_eq_true_eq]
  constructor
  · rintro ⟨⟨h1, h2⟩, h3⟩; exact ⟨h3, by omega, by omega⟩
  · rintro ⟨h1, h2, h3⟩; exact ⟨⟨by omega, by omega⟩, h1⟩
theorem str_append_cps (x y : Str) : (x ++ y).cps.toList = x.cps.toList ++ y.cps.toList := by
  show (x.cps ++ y.cps).toList = _
  simp
theorem str_append_length (x y : Str) : (x ++ y).length = x.length + y.length := by
  show (x.cps ++ y.cps).size = x.cps.size + y.cps.size
  simp
theorem LS.append {x y : Str} (h : LS x) (h' : LS y) : LS (x ++ y) := fun c hc => by
  rw [str_append_cps] at hc
  rcases List.mem_append.mp hc with z | z
  · exact h c z
  · exact h' c z
theorem LS.one {c : Nat} (h : c ∈ letters.cps.toList) : LS ⟨#[c]⟩ := fun d hd => by
  have : d = c := by simpa using hd
  rw [this]; exact h
theorem cutS_mem {z : Str} {lo hi : Option Int} {c : Nat} (h : c ∈ (cutS z lo hi).cps.toList) : c ∈ z.cps.toList := by
  unfold cutS at h
  simp only at h
  rw [List.toList_toArray] at h
  exact List.mem_of_mem_drop (List.mem_of_mem_take h)
theorem LS.cut {z : Str} (h : LS z) (lo hi : Option Int) : LS (cutS z lo hi) := fun c hc => h c (cutS_mem hc)
theorem cutS_hi_length (z : Str) (k : Nat) : (cutS z none (some (k : Int))).length = min k z.length := by
  unfold cutS Str.length
  rw [HT.sIx_none, HT.sIx_nat]
  simp only [List.size_toArray, List.length_take, List.length_drop, Array.length_toList]
  omega
theorem cutS_lo_length (z : Str) (k : Nat) : (cutS z (some (k : Int)) none).length = z.length - k := by
  unfold cutS Str.length
  rw [HT.sIx_none, HT.sIx_nat]
  simp only [List.size_toArray, List.length_take, List.length_drop, Array.length_toList]
  omega
theorem join_nil_cps : ∀ ys : List Str, (Str.join "" ys).cps.toList = (ys.map fun y => y.cps.toList).flatten
  | [] => rfl
  | [x] => by simp [Str.join]
  | x :: y :: r => by
    show (x ++ ("" : Str) ++ Str.join "" (y :: r)).cps.toList = _
    rw [str_append_cps, str_append_cps, join_nil_cps (y :: r)]
    have : (("" : Str)).cps.toList = [] := by decide +kernel
    rw [this, List.append_nil]
    rfl
/-- texts of one letter each, joined -/
theorem join_letters {ys : List Str} (h : ∀ y ∈ ys, ∃ c ∈ letters.cps.toList, y = ⟨#[c]⟩) : LS (Txt.join "" ys) ∧ (Txt.join "" ys).length = ys.length := by
  have e : Txt.join "" ys = Str.join "" ys := StrLaws.glued_eq_join _ _
  rw [e]
  constructor
  · intro c hc
    rw [join_nil_cps] at hc
    obtain ⟨l, hl, hcl⟩ := List.mem_flatten.mp hc
    obtain ⟨y, hy, rfl⟩ := List.mem_map.mp hl
    obtain ⟨d, hd, rfl⟩ := h y hy
    have : c = d := by simpa using hcl
    rw [this]; exact hd
  · have : (Str.join "" ys).length = (Str.join "" ys).cps.toList.length := by simp [Str.length]
    rw [this, join_nil_cps]
    clear e this
    induction ys with
    | nil => rfl
    | cons y ys ih =>
      obtain ⟨d, hd, rfl⟩ := h y List.mem_cons_self
      have := ih (fun z hz => h z (List.mem_cons_of_mem _ hz))
      simp only [List.map_cons, List.flatten_cons, List.length_append, List.length_cons, this]
      simp
      omega
theorem subset_length {α : Type} [DecidableEq α] : ∀ {l ks : List α}, l.Nodup → (∀ x ∈ l, x ∈ ks) → l.length ≤ ks.length
  | [], _, _, _ => Nat.zero_le _
  | x :: l, ks, hn, h => by
    have hx : x ∈ ks := h x List.mem_cons_self
    have hn' := List.nodup_cons.mp hn
    have := subset_length (ks := ks.erase x) hn'.2 fun y hy => by
      have hne : y ≠ x := fun e => by subst e; exact hn'.1 hy
      exact (List.mem_erase_of_ne hne).mpr (h y (List.mem_cons_of_mem _ hy))
    rw [List.length_erase_of_mem hx] at this
    have : 0 < ks.length := List.length_pos_of_mem hx
    simp only [List.length_cons]
    omega
/-! ## rules for texts -/
section
variable {X : Cx} {σ : St} {F H : Hp} {e a b o : Expr} {pos p apos p2 : Pos} {x y z : Str} {i j : Int} {xs : List Str}
theorem de_join {ys : List Str} (ho : DE X o σ F H (.str z)) (he : DE X e σ F H (.list (ys.map .str))) (hz : (ys.map (·.length)).sum + ys.length * z.length ≤ 16777216) (hs : starEach [e] X.env = [(false, eval e X.env)] := by rfl) (hbase : attributeBase o "join" X.env (eval o X.env) = eval o X.env := by rfl) (hline : (apos.endLine == pos.line) = true := by rfl) :
    DE X (.Call (.Attribute o "join" apos) [e] [] pos) σ F H (.str (Txt.join z ys)) := fun F1 H1 g Q q =>
  we_of (pe_join pe_we pe_we hs hbase hline) (ho F1 H1 g _ fun v F2 H2 g2 hv => ⟨⟨z, hv⟩, he F2 H2 (g.trans g2) _ fun u F3 H3 g3 hu => by
    obtain ⟨l, vs, rfl, h1, h2⟩ := hu
    obtain rfl := h2.strs
    exact ⟨z, l, ys, hv, rfl, .inl (SqL.of (g3.fh _ _ h1)), hz, q _ F3 H3 (g2.trans g3) rfl⟩⟩)
theorem de_slHi (he : DE X e σ F H (.str z)) (hh : DE X b σ F H (.int i)) (hz : z.length ≤ sizeLine) : DE X (.Subscript e (.Slice none (some b) none p2) pos) σ F H (.str (cutS z none (some i))) := fun F1 H1 g Q q =>
  we_of (pe_slice sl_str pe_we po_none (po_some pe_we)) (he F1 H1 g _ fun v F2 H2 g2 hv => hh F2 H2 (g.trans g2) _ fun u F3 H3 g3 hu => ⟨i, hu, z, hv, hz, q _ F3 H3 (g2.trans g3) rfl⟩)
theorem de_slLo (he : DE X e σ F H (.str z)) (hh : DE X b σ F H (.int i)) (hz : z.length ≤ sizeLine) : DE X (.Subscript e (.Slice (some b) none none p2) pos) σ F H (.str (cutS z (some i) none)) := fun F1 H1 g Q q =>
  we_of (pe_slice sl_str pe_we (po_some pe_we) po_none) (he F1 H1 g _ fun v F2 H2 g2 hv => hh F2 H2 (g.trans g2) _ fun u F3 H3 g3 hu => ⟨i, hu, z, hv, hz, q _ F3 H3 (g2.trans g3) rfl⟩)
theorem inV_strs (x : Str) : ∀ xs : List Str, inV (.str x) (xs.map V.str) = decide (x ∈ xs)
  | [] => rfl
  | y :: ys => by
    have ih := inV_strs x ys
    unfold inV at ih ⊢
    rw [List.map_cons, List.any_cons, ih]
    show ((y == x) || decide (x ∈ ys)) = _
    by_cases h : y = x
    · subst h; simp
    · have h' : x ≠ y := fun e => h e.symm
      simp [h, h']
theorem flat_strs (xs : List Str) : (xs.map V.str).all flatV = true := by
  rw [List.all_map, List.all_eq_true]
  intro x _; rfl
theorem c_inS (ha : DE X a σ F H (.str x)) (hb : DE X b σ F H (.list (xs.map .str))) (hm : behindInMarks .In b = false := by rfl) : DC X .In a b σ F H (decide (x ∈ xs)) :=
  c_cmp op_in_seq hm ha hb fun x' y' F1 H1 g1 hx hy Q q => by
    obtain rfl : x' = .str x := hx
    obtain ⟨l, vs, rfl, h1, h2⟩ := hy
    obtain rfl := h2.strs
    exact ⟨l, _, rfl, .inl (SqL.of (g1.fh _ _ h1)), rfl, flat_strs _, q _ F1 H1 (.refl g1.fh) (by rw [inV_strs]; rfl)⟩
theorem c_notInS (ha : DE X a σ F H (.str x)) (hb : DE X b σ F H (.list (xs.map .str))) (hm : behindInMarks .NotIn b = false := by rfl) : DC X .NotIn a b σ F H (!decide (x ∈ xs)) :=
  c_cmp op_notIn_seq hm ha hb fun x' y' F1 H1 g1 hx hy Q q => by
    obtain rfl : x' = .str x := hx
    obtain ⟨l, vs, rfl, h1, h2⟩ := hy
    obtain rfl := h2.strs
    exact ⟨l, _, rfl, .inl (SqL.of (g1.fh _ _ h1)), rfl, flat_strs _, q _ F1 H1 (.refl g1.fh) (by rw [inV_strs]; rfl)⟩
end
section
variable {p : Addr} {c c1 c2 : Nat} {X : Cx} {σ : St} {F : Hp} {e a b o : Expr} {pos q apos p2 : Pos} {A B : Str → Prop} {R : PyData → Prop} {z : Str}
theorem px_ixS (ha : DE X a σ F F (.str z)) (hz : z.length ≤ sizeLine) (hb : Px p c X b σ F (fun d => ∃ i, d = .int i ∧ (0 : Int) ≤ i ∧ i < z.length)) (hs : PlainIx b := by exact fun _ _ => rfl) : Px p c X (.Subscript a b pos) σ F (fun d => ∃ cp ∈ z.cps.toList, d = .str ⟨#[cp]⟩) := fun n F1 H1 s1 s2 f P hn Q k =>
  we_of (pe_ix ix_str pe_we pe_we hs) ((ha.f s1).at s2 fun x F2 H2 g2 hx => hb n F2 H2 (s1.trans g2.ff) g2.fh (by obtain ⟨o, ho⟩ := P.some; exact g2.f0 f ho) (P.mono g2.hh) hn _ fun d y F3 H3 g3 P3 hy hB => by
    obtain ⟨i, rfl, h0, hl⟩ := hB
    have hi : i.toNat < z.cps.toList.length := by
      simp only [Array.length_toList]
      have : z.length = z.cps.size := rfl
      omega
    have e : z.cps.toList[i.toNat]? = some z.cps.toList[i.toNat] := List.getElem?_eq_getElem hi
    refine ⟨z, i, z.cps.toList[i.toNat], hx, hy, hz, ?_, k (.str ⟨#[z.cps.toList[i.toNat]]⟩) (.str ⟨#[z.cps.toList[i.toNat]]⟩) F3 H3 (g2.gp.trans g3) P3 rfl ⟨_, List.getElem_mem hi, rfl⟩⟩
    exact Eq.trans (congrArg (atI z.cps.toList) (show i = (i.toNat : Int) by omega)) (atI_nat e))
theorem px_addS (ha : Px p c1 X a σ F (fun d => ∃ x, d = .str x ∧ A x ∧ x.length ≤ 100000)) (hb : Px p c2 X b σ F (fun d => ∃ x, d = .str x ∧ B x ∧ x.length ≤ 100000)) : Px p (c1 + c2) X (.BinOp a .Add b pos) σ F (fun d => ∃ x y, d = .str (x ++ y) ∧ A x ∧ B y) :=
  px_op op_add_str ha hb fun d1 d2 x y F1 H1 s1 s2 ⟨i, e1, hi, li⟩ ⟨j, e2, hj, lj⟩ hx hy Q q => by
    subst e1 e2
    exact ⟨i, j, hx, hy, (by have e : sizeLine = 16777216 := (by decide); omega), q (.str (i ++ j)) (.str (i ++ j)) F1 H1 (.refl s2) rfl ⟨i, j, rfl, hi, hj⟩⟩
theorem px_slHi {i : Int} (ha : Px p c X e σ F (fun d => ∃ x, d = .str x ∧ A x ∧ x.length ≤ 100000)) (hb : DE X b σ F F (.int i)) : Px p c X (.Subscript e (.Slice none (some b) none p2) pos) σ F (fun d => ∃ x, d = .str (cutS x none (some i)) ∧ A x) := fun n F1 H1 s1 s2 f P hn Q k =>
  we_of (pe_slice sl_str pe_we po_none (po_some pe_we)) (ha n F1 H1 s1 s2 f P hn _ fun d v F2 H2 g2 P2 hv hA => by
    obtain ⟨x, rfl, hx, hl⟩ := hA
    refine (hb.f (s1.trans g2.ff)).at g2.fh fun u F3 H3 g3 hu => ⟨i, hu, x, hv, sz100 hl, k (.str _) (.str _) F3 H3 (g2.trans g3.gp) (P2.mono g3.hh) rfl ⟨x, rfl, hx⟩⟩)
theorem px_join {ys : List Str} (ho : DE X o σ F F (.str z)) (he : Px p c X e σ F (fun d => ∃ ys : List Str, d = .list (ys.map .str) ∧ (ys.map (·.length)).sum + ys.length * z.length ≤ 16777216 ∧ R (.str (Txt.join z ys)))) (hs : starEach [e] X.env = [(false, eval e X.env)] := by rfl) (hbase : attributeBase o "join" X.env (eval o X.env) = eval o X.env := by rfl) (hline : (apos.endLine == pos.line) = true := by rfl) :
    Px p c X (.Call (.Attribute o "join" apos) [e] [] pos) σ F R := fun n F1 H1 s1 s2 f P hn Q k =>
  we_of (pe_join pe_we pe_we hs hbase hline) ((ho.f s1).at s2 fun v F2 H2 g2 hv => ⟨⟨z, hv⟩, he n F2 H2 (s1.trans g2.ff) g2.fh (by obtain ⟨o, ho⟩ := P.some; exact g2.f0 f ho) (P.mono g2.hh) hn _ fun d u F3 H3 g3 P3 hu hB => by
    obtain ⟨ys, rfl, hz, hR⟩ := hB
    obtain ⟨l, vs, rfl, h1, h2⟩ := hu
    obtain rfl := h2.strs
    exact ⟨z, l, ys, hv, rfl, .inl (SqL.of (g3.fh _ _ h1)), hz, k (.str (Txt.join z ys)) (.str _) F3 H3 (g2.gp.trans g3) P3 rfl hR⟩⟩)
end
/-! ## methods of lists -/
structure Bm (X : Cx) (o : Expr) (name : Str) (e : Expr) (es : List Expr) (apos cpos : Pos) : Prop where
  hbase : attributeBase o name X.env (eval o X.env) = eval o X.env
  hfew : ((backTo cpos (starEach (e :: es) X.env)).all (fun x => !x.1) && (backToKw cpos (keywordEach [] X.env)).all (fun x => x.1.isSome)
      && decide ((e :: es).length + ([] : List Keyword).length + (if ([] : List Keyword).isEmpty then 0 else 1) < 30)) = true
  hline : (apos.endLine == cpos.line) = true
  hs : starEach (e :: es) X.env = (false, eval e X.env) :: starEach es X.env
  hplain : (backTo cpos (starEach es X.env)).any (·.1) = false
section
variable {X : Cx} {σ : St} {F H : Hp} {e o : Expr} {d : PyData} {apos cpos pos : Pos} {l : Addr} {xs : List V} {D : Ends}
theorem ws_append (ho : VE X o σ F F (.ref l)) (he : DE X e σ F F d) (s : Same F H) (hl : H l = some (.lst xs)) (hz : xs.length < sizeLine) (q : ∀ v F2 H2, Gr F H F2 H2 → Da F2 d v → D.nx σ (upd H2 l (.lst (xs ++ [v]))))
    (b : Bm X o "append" e [] apos cpos := by exact ⟨rfl, rfl, rfl, rfl, rfl⟩) (hsw : swapsWith (.Call (.Attribute o "append" apos) [e] [] cpos) none pos.line X.env = pure false := by rfl) : WS X (.Expr (.Call (.Attribute o "append" apos) [e] [] cpos) pos) D σ H :=
  ws_expr (we_of (pe_bm PySem.F.plainAttrs_list PySem.F.slot_list_append PySem.F.type_list_append mt_append pe_we (pa_cons pe_we pa_nil b.hs) b.hbase b.hfew b.hline b.hs b.hplain)
    (ho.at s fun F2 H2 g2 => ⟨.inl ⟨rfl, xs, SqL.of (g2.hh _ _ hl)⟩, (he.f g2.ff).at g2.fh fun v F3 H3 g3 hv => ⟨l, xs, v, rfl, rfl, (g2.trans g3).hh _ _ hl, hz, q v F3 H3 (g2.trans g3) hv⟩⟩)) hsw
/-- .. what is put there draws -/
theorem ws_appendX {p : Addr} {c n : Nat} {R : PyData → Prop} (ho : VE X o σ F F (.ref l)) (he : Px p c X e σ F R) (s : Same F H) (hl : H l = some (.lst xs)) (hlp : l ≠ p) (hz : xs.length < sizeLine) (f : F p = none) (P : Pool H p n) (hn : n + c ≤ 1000000)
    (q : ∀ d v F2 H2, Gp p F H F2 H2 → Pool H2 p (n + c) → Da F2 d v → R d → D.nx σ (upd H2 l (.lst (xs ++ [v]))))
    (b : Bm X o "append" e [] apos cpos := by exact ⟨rfl, rfl, rfl, rfl, rfl⟩) (hsw : swapsWith (.Call (.Attribute o "append" apos) [e] [] cpos) none pos.line X.env = pure false := by rfl) : WS X (.Expr (.Call (.Attribute o "append" apos) [e] [] cpos) pos) D σ H :=
  ws_expr (we_of (pe_bm PySem.F.plainAttrs_list PySem.F.slot_list_append PySem.F.type_list_append mt_append pe_we (pa_cons pe_we pa_nil b.hs) b.hbase b.hfew b.hline b.hs b.hplain)
    (ho.at s fun F2 H2 g2 => ⟨.inl ⟨rfl, xs, SqL.of (g2.hh _ _ hl)⟩, he n F2 H2 g2.ff g2.fh (by obtain ⟨o, ho⟩ := P.some; exact g2.f0 f ho) (P.mono g2.hh) hn _ fun d v F3 H3 g3 P3 hv hR => ⟨l, xs, v, rfl, rfl, g3.hh _ _ hlp (g2.hh _ _ hl), hz, q d v F3 H3 (g2.gp.trans g3) P3 hv hR⟩⟩)) hsw
end
theorem Gp.back {p : Addr} {F F' H F2 H2 : Hp} (g : Gp p F' H F2 H2) (s : Same F F') : Gp p F H F H2 := ⟨Same.refl _, s.trans (g.ff.trans g.fh), g.hh, g.at', fun _ e _ => e⟩
theorem Gr.back {F F' H F2 H2 : Hp} (g : Gr F' H F2 H2) (s : Same F F') : Gr F H F H2 := ⟨Same.refl _, s.trans (g.ff.trans g.fh), g.hh, fun _ e _ => e⟩
theorem Same.cell {F H : Hp} {l : Addr} {o : HO} (s : Same F H) (h : H l = some o) : Same (upd F l o) H := fun b x e => by
  by_cases hb : b = l
  · subst hb; rw [upd_same] at e; rw [h]; exact e
  · rw [upd_ne hb] at e; exact s _ _ e
theorem atI_neg1 {α : Type} {xs : List α} {x : α} (h : xs ≠ []) (e : xs.getLast? = some x) : L2.atI xs (-1) = some x := by
  obtain ⟨ys, rfl⟩ := List.getLast?_eq_some_iff.mp e
  exact atI_last ys x
end Kr

/-! layer Kr9 -/
namespace Kr
open PySem L2
/-! ## all that is new is told for the time being -/
def Fz (F0 H0 H : Hp) : Hp := fun b => if ((H0 b).isNone || (F0 b).isSome) = true then H b else none
/-- behind a start at F0, H0: all but the pool stands; so many drawings -/
structure HS (p : Addr) (F0 H0 H : Hp) (n : Nat) : Prop where
  s0 : Same F0 H0
  f0 : F0 p = none
  p0 : H0 p ≠ none
  hh : ∀ b o, b ≠ p → H0 b = some o → H b = some o
  P : Pool H p n
section
variable {p : Addr} {F0 H0 H H2 F2 : Hp} {n m : Nat} {q : Addr} {o : HO}
theorem Fz.new (h : H0 q = none) : Fz F0 H0 H q = H q := by
  unfold Fz
  rw [h]
  rfl
theorem Fz.le : Same (Fz F0 H0 H) H := fun b x e => by
  unfold Fz at e
  split at e
  · exact e
  · cases e
theorem HS.fp (s : HS p F0 H0 H n) : Fz F0 H0 H p = none := by
  unfold Fz
  rw [s.f0]
  cases h : H0 p with
  | none => exact absurd h s.p0
  | some o => rfl
theorem HS.sF (s : HS p F0 H0 H n) : Same F0 H := fun b x e => s.hh b x (ne_of_none e s.f0) (s.s0 b x e)
theorem HS.sz (s : HS p F0 H0 H n) : Same F0 (Fz F0 H0 H) := fun b x e => by
  unfold Fz
  rw [e]
  show (if ((H0 b).isNone || true) = true then H b else none) = some x
  rw [Bool.or_true, if_pos rfl]
  exact s.sF b x e
theorem HS.gp (s : HS p F0 H0 H n) : Gp p F0 H0 (Fz F0 H0 H) H := ⟨s.sz, Fz.le, s.hh, fun _ => (by obtain ⟨o, ho⟩ := s.P.some; rw [ho]; exact fun z => nomatch z), fun b e hn => by
  unfold Fz
  rw [e]
  cases h : H0 b with
  | none => exact absurd h hn
  | some o => rfl⟩
theorem HS.step (s : HS p F0 H0 H n) (g : Gp p (Fz F0 H0 H) H F2 H2) (P : Pool H2 p m) : HS p F0 H0 H2 m := ⟨s.s0, s.f0, s.p0, fun b o hb e => g.hh b o hb (s.hh b o hb e), P⟩
theorem HS.gr (s : HS p F0 H0 H n) {F : Hp} (g : Gr F H F2 H2) : HS p F0 H0 H2 n := ⟨s.s0, s.f0, s.p0, fun b o hb e => g.hh b o (s.hh b o hb e), s.P.mono g.hh⟩
theorem HS.up (s : HS p F0 H0 H n) (h : n ≤ m) : HS p F0 H0 H m := ⟨s.s0, s.f0, s.p0, s.hh, s.P.mono (Same.refl _) h⟩
theorem HS.ne (s : HS p F0 H0 H n) (h : H0 q = none) : q ≠ p := fun z => by subst z; exact s.p0 h
theorem HS.ne' (s : HS p F0 H0 H n) (h : H q = none) : q ≠ p := fun z => by
  subst z
  obtain ⟨o, ho⟩ := s.P.some
  rw [ho] at h; cases h
theorem HS.free (s : HS p F0 H0 H n) (h : H q = none) : H0 q = none := by
  cases e : H0 q with
  | none => rfl
  | some o => rw [s.hh q o (s.ne' h) e] at h; cases h
theorem HS.mut (s : HS p F0 H0 H n) (h : H0 q = none) : HS p F0 H0 (upd H q o) n := ⟨s.s0, s.f0, s.p0, fun b u hb e => by rw [upd_ne (ne_of_none e h)]; exact s.hh b u hb e, by
  obtain ⟨c, k, t, h1, h2, h3, h4⟩ := s.P
  exact ⟨c, k, t, by rw [upd_ne (fun z => s.ne h z.symm)]; exact h1, h2, h3, h4⟩⟩
theorem HS.start (s : Same F0 H0) (f : F0 p = none) (P : Pool H0 p n) : HS p F0 H0 H0 n := ⟨s, f, (by obtain ⟨o, ho⟩ := P.some; rw [ho]; exact fun z => nomatch z), fun _ _ _ e => e, P⟩
/-- what stands at new addresses is told -/
theorem HS.ks (h : H0 q = none) {ks : List Str} (e : H q = some (.lst (ks.map V.str))) : Da (Fz F0 H0 H) (ksD ks) (.ref q) := ⟨q, _, rfl, by rw [Fz.new h]; exact e, daAll_strs ks⟩
end
/-! ## rooms that are being made -/
structure RC where
  t : Addr
  d : Addr
  k : Addr
  locks : List Str
  keys : List Str
structure RoomAt (H0 H : Hp) (r : RC) : Prop where
  t0 : H0 r.t = none
  d0 : H0 r.d = none
  k0 : H0 r.k = none
  ht : H r.t = some (.tup [.ref r.d, .ref r.k])
  hd : H r.d = some (.lst (r.locks.map V.str))
  hk : H r.k = some (.lst (r.keys.map V.str))
def RC.room (r : RC) : Room' := (r.locks, r.keys)
theorem RoomAt.da {F0 H0 H : Hp} {r : RC} (h : RoomAt H0 H r) : Da (Fz F0 H0 H) (roomD r.room) (.ref r.t) :=
  ⟨r.t, _, rfl, by rw [Fz.new h.t0]; exact h.ht, daAll_cons (HS.ks h.d0 h.hd) (daAll_cons (HS.ks h.k0 h.hk) daAll_nil)⟩
theorem rooms_da {F0 H0 H : Hp} : ∀ {rs : List RC}, (∀ r ∈ rs, RoomAt H0 H r) → DaAll (Fz F0 H0 H) (rs.map fun r => roomD r.room) (rs.map fun r => V.ref r.t)
  | [], _ => daAll_nil
  | r :: rs, h => daAll_cons (h r List.mem_cons_self).da (rooms_da fun x m => h x (List.mem_cons_of_mem _ m))
theorem RoomAt.keep {H0 H H2 : Hp} {r : RC} (h : RoomAt H0 H r) (k : ∀ b o, (b = r.t ∨ b = r.d ∨ b = r.k) → H b = some o → H2 b = some o) : RoomAt H0 H2 r :=
  ⟨h.t0, h.d0, h.k0, k _ _ (.inl rfl) h.ht, k _ _ (.inr (.inl rfl)) h.hd, k _ _ (.inr (.inr rfl)) h.hk⟩
/-- each list of keys is its own -/
def Apart (rs : List RC) : Prop := ∀ (i j : Nat) (r s : RC), rs[i]? = some r → rs[j]? = some s → (r.k = s.k → i = j) ∧ r.k ≠ s.d ∧ r.k ≠ s.t
/-- what a drawn house is -/
structure HouseOf (most tot : Nat) (h : House) : Prop where
  good : GoodHouse h
  rooms : h.2.length ≤ most
  begin' : h.1.length ≤ tot
  each : ∀ r ∈ h.2, r.2.length ≤ tot
  total : (h.2.map fun r => r.2.length).sum ≤ tot
  kinds : ∃ ks : List Str, ks.length ≤ 60 ∧ (∀ k ∈ h.1, k ∈ ks) ∧ ∀ r ∈ h.2, (∀ k ∈ r.1, k ∈ ks) ∧ ∀ k ∈ r.2, k ∈ ks
theorem strs_sub {ks : List Str} {es : List PyData} (h : ∀ x ∈ es, x ∈ ks.map PyData.str) : ∃ ys : List Str, es = ys.map .str ∧ ∀ y ∈ ys, y ∈ ks := by
  induction es with
  | nil => exact ⟨[], rfl, fun y hy => nomatch hy⟩
  | cons d ds ih =>
    obtain ⟨ys, rfl, hy⟩ := ih fun x hx => h x (List.mem_cons_of_mem _ hx)
    obtain ⟨c, hc, rfl⟩ := List.mem_map.mp (h _ List.mem_cons_self)
    refine ⟨c :: ys, rfl, fun y hm => ?_⟩
    rcases List.mem_cons.mp hm with rfl | hm
    · exact hc
    · exact hy y hm
section
variable {X : Cx} {σ : St} {F H : Hp} {e : Expr} {pos p : Pos} {ns : List Int}
theorem de_sum (hm : X.mg "sum" = none) (hc : X.calm = true) (ha : DE X e σ F H (.list (ns.map .int))) (hg : Gl X "sum" := by rfl) (l : Pl X e [] pos := by exact ⟨rfl, rfl⟩) : DE X (.Call (.Name "sum" p) [e] [] pos) σ F H (.int ns.sum) :=
  de_callB (cr_sum hc) hg hm (by decide +kernel) (dl_cons ha dl_nil l.he) (fun vs F1 H1 g1 hv Q q => by
    obtain ⟨v, rfl, a, xs, rfl, h1, h2⟩ := daAll1 hv
    obtain rfl := h2.ints
    exact ⟨_, ns, rfl, SqL.of (g1.fh _ _ h1), q _ F1 H1 (.refl g1.fh) rfl⟩) ⟨by decide, by decide⟩ l
end
section
variable {p : Addr} {c c1 c2 : Nat} {X : Cx} {σ : St} {F : Hp} {e a b : Expr} {pos q : Pos} {A B : Int → Prop}
theorem px_min (hm : X.mg "min" = none) (hc : X.calm = true) (ha : Px p c1 X a σ F (fun d => ∃ i, d = .int i ∧ A i)) (hb : Px p c2 X b σ F (fun d => ∃ i, d = .int i ∧ B i)) (hg : Gl X "min" := by rfl) (l : Pl X a [b] pos := by exact ⟨rfl, rfl⟩) (l2 : starEach [b] X.env = [(false, eval b X.env)] := by rfl) :
    Px p (c1 + c2) X (.Call (.Name "min" q) [a, b] [] pos) σ F (fun d => ∃ i j, d = .int (min i j) ∧ A i ∧ B j) := fun n F1 H1 s1 s2 f P hn Q k =>
  we_of (pe_callB (call_min2 hc) hg hm (by decide +kernel) (pa_cons pe_we (pa_cons pe_we pa_nil l2) l.he) (by decide) (by decide) l.he l.hpl) (ha n F1 H1 s1 s2 f P (by omega) _ fun d1 x F2 H2 g2 P2 hx hA => hb (n + c1) F2 H2 (s1.trans g2.ff) g2.fh (by obtain ⟨o, ho⟩ := P.some; exact g2.f0 f ho) P2 (by omega) _ fun d2 y F3 H3 g3 P3 hy hB => by
    obtain ⟨i, rfl, hi⟩ := hA
    obtain ⟨j, rfl, hj⟩ := hB
    obtain rfl : x = .int i := hx
    obtain rfl : y = .int j := hy
    refine ⟨i, j, rfl, k (.int (min i j)) _ F3 H3 (g2.trans g3) (P3.mono (Same.refl _) (by omega)) ?_ ⟨i, j, rfl, hi, hj⟩⟩
    show V.int _ = V.int _
    congr 1
    split <;> omega)
/-- a comparison with a known number -/
theorem pxt_eqI {j : Int} (ha : Px p c X a σ F (fun d => ∃ i, d = .int i ∧ A i)) (hb : DE X b σ F F (.int j)) : PxT p c X (.Compare a [.Eq] [b] pos) σ F (fun _ => True) := fun n F1 H1 s1 s2 f P hn Q k =>
  wt_of (pt_cmpR op_eq pe_we pe_we (nomark _)) (ha n F1 H1 s1 s2 f P hn _ fun d v F2 H2 g2 P2 hv hA => by
    obtain ⟨i, rfl, hi⟩ := hA
    obtain rfl : v = .int i := hv
    refine (hb.f (s1.trans g2.ff)).at g2.fh fun u F3 H3 g3 hu => ?_
    obtain rfl : u = .int j := hu
    exact ⟨rfl, _, rfl, k _ F3 H3 (g2.trans g3.gp) (P2.mono g3.hh) True.intro⟩)
theorem pxt_w {R : Bool → Prop} (h : ∀ n F1 H1, Same F F1 → Same F1 H1 → F1 p = none → Pool H1 p n → n + c ≤ 1000000 → ∀ Q : Bool → Hp → Prop, (∀ b F2 H2, Gp p F1 H1 F2 H2 → Pool H2 p (n + c) → R b → Q b H2) → WW X e σ H1 Q) : PxT p c X e σ F R := fun n F1 H1 s1 s2 f P hn Q k => wt_of (PW.pt pw_ww) (h n F1 H1 s1 s2 f P hn Q k)
/-- a known test, then one that draws -/
theorem pxt_and {bb : Bool} {R : Bool → Prop} (ha : DT X a σ F F bb) (hb : bb = true → PxT p c X b σ F R) (hR : bb = false → R false) : PxT p c X (.BoolOp .And [a, b] pos) σ F R := pxt_w fun n F1 H1 s1 s2 f P hn Q k =>
  ww_of (pw_and pt_wt (pw_and1 pt_wt)) ((ha.mono ⟨s1, Same.refl _, s1, fun _ e n => absurd e n⟩).at s2 fun F2 H2 g2 => by
    cases bb with
    | true => exact iteT (hb rfl n F2 H2 (s1.trans g2.ff) g2.fh (by obtain ⟨o, ho⟩ := P.some; exact g2.f0 f ho) (P.mono g2.hh) hn _ fun b F3 H3 g3 P3 hR => k b F3 H3 (g2.gp.trans g3) P3 hR)
    | false => exact iteF (k false F2 H2 g2.gp (P.mono g2.hh) (hR rfl)))
end
theorem PxT.imp {p : Addr} {c : Nat} {X : Cx} {e : Expr} {σ : St} {F : Hp} {R R' : Bool → Prop} (h : PxT p c X e σ F R) (k : ∀ b, R b → R' b) : PxT p c X e σ F R' := fun n F1 H1 s1 s2 f P hn Q q => h n F1 H1 s1 s2 f P hn Q fun b F2 H2 g P2 hR => q b F2 H2 g P2 (k b hR)
section
variable {p : Addr} {F0 H0 H H2 F2 : Hp} {n m : Nat} {q : Addr} {o : HO}
theorem HS.keep (s : HS p F0 H0 H n) (g : Gp p (Fz F0 H0 H) H F2 H2) : Same F2 (Fz F0 H0 H2) := fun b x e => by
  have h2 := g.fh b x e
  have hb : ((H0 b).isNone || (F0 b).isSome) = true := by
    cases hh : ((H0 b).isNone || (F0 b).isSome) with
    | true => rfl
    | false =>
      have hz : Fz F0 H0 H b = none := by unfold Fz; rw [hh]; rfl
      have hne : H b ≠ none := by
        intro z
        have := s.free z
        rw [this] at hh
        simp at hh
      rw [g.new b hz hne] at e
      cases e
  unfold Fz
  rw [hb, if_pos rfl]
  exact h2
theorem HS.keepZ (s : HS p F0 H0 H n) (g : Gp p (Fz F0 H0 H) H F2 H2) : Same (Fz F0 H0 H) (Fz F0 H0 H2) := g.ff.trans (s.keep g)
theorem Fz.upd {b : Addr} (h : b ≠ q) : Fz F0 H0 (upd H q o) b = Fz F0 H0 H b := by
  unfold Fz
  rw [upd_ne h]
theorem gr_z {F : Hp} (g : Gr F H F2 H2) : Same (Fz F0 H0 H) (Fz F0 H0 H2) := fun b x e => by
  unfold Fz at e ⊢
  split at e
  · rename_i hc
    rw [if_pos hc]
    exact g.hh b x e
  · cases e
theorem hh_z (k : ∀ b o, b ≠ p → H b = some o → H2 b = some o) (h : Fz F0 H0 H p = none) : Same (Fz F0 H0 H) (Fz F0 H0 H2) := fun b x e => by
  have hb : b ≠ p := ne_of_none e h
  unfold Fz at e ⊢
  split at e
  · rename_i hc
    rw [if_pos hc]
    exact k b x hb e
  · cases e
end
section
variable {X : Cx} {σ : St} {F H : Hp} {e a b o tg : Expr} {d : PyData} {apos cpos pos rp tp rq : Pos} {l p : Addr} {xs : List V} {D : Ends} {body : List Stmt} {c n : Nat} {R : PyData → Prop} {va : V}
/-- for k in range(e), a word of the slots and the heap -/
theorem ws_forR {n : Nat} (hp : PassesOwn (model X.prog X.w) X.A X.env X.xe) (hc : X.calm = true) (hm : X.mg "range" = none) (h : DE X e σ F F (.int n)) (hn : n ≤ 1000000) (s : Same F H)
    (k : ∀ F1 H1, Gr F H F1 H1 → ∃ Pv : Nat → St → Hp → Prop, Pv 0 σ H1 ∧ (∀ i σ' H', i < n → Pv i σ' H' → WG X tg (.int i) σ' H' fun σ2 H2 => WSs X body { D with nx := Pv (i + 1), ct := Pv (i + 1), bk := D.nx } σ2 H2) ∧ ∀ σ' H', Pv n σ' H' → D.nx σ' H')
    (hg : Gl X "range" := by rfl) (pl : Pl X e [] rp := by exact ⟨rfl, rfl⟩) (hs : ∀ x, foldedSetIterable (.Call (.Name "range" rq) [e] [] rp) X.env x = pure x := by intro _; rfl) : WS X (.For tg (.Call (.Name "range" rq) [e] [] rp) body [] pos) D σ H :=
  ws_of (ps_for hp hc (pi_range1 hg hm (pa_cons pe_we pa_nil pl.he) (hs := pl.he)) pg_wg pss_wss hs) (h.at s fun v F2 H2 g2 hv => by
    obtain rfl : v = .int n := hv
    obtain ⟨Pv, h0, hS, hD⟩ := k F2 H2 g2
    refine ⟨n, rfl, by omega, by omega, for_range (lo := 0) (n := (n : Int).toNat) Pv h0 (fun i σ' H' hi p' => ?_) (fun σ' H' p' => ?_)⟩
    · have : (0 : Int) + (i : Int) = (i : Int) := Int.zero_add _
      rw [this]
      exact hS i σ' H' (by omega) p'
    · rw [Int.toNat_natCast] at p'
      exact hD σ' H' p')
/-- o.append((a, b)), b new -/
theorem ws_appendPair {kt : Nat} (ho : VE X o σ F F (.ref l)) (ha : VE X a σ F F va) (hb : PxN p c X b σ F R) (s : Same F H) (hl : H l = some (.lst xs)) (hlp : l ≠ p) (hz : xs.length < sizeLine) (f : F p = none) (P : Pool H p n) (hn : n + c ≤ 1000000)
    (q : ∀ d v t F2 H2, Gp p F H F2 H2 → Pool H2 p (n + c) → Da F2 d v → R d → (∀ a, v = .ref a → H a = none) → H2 t = none → D.nx σ (upd (upd H2 t (.tup [va, v])) l (.lst (xs ++ [.ref t]))))
    (bm : Bm X o "append" (.Tuple [a, b] kt tp) [] apos cpos := by exact ⟨rfl, rfl, rfl, rfl, rfl⟩) (hsw : swapsWith (.Call (.Attribute o "append" apos) [.Tuple [a, b] kt tp] [] cpos) none pos.line X.env = pure false := by rfl)
    (l1 : starEach [a, b] X.env = (false, eval a X.env) :: starEach [b] X.env := by rfl) (l2 : starEach [b] X.env = [(false, eval b X.env)] := by rfl) : WS X (.Expr (.Call (.Attribute o "append" apos) [.Tuple [a, b] kt tp] [] cpos) pos) D σ H :=
  ws_expr (we_of (pe_bm PySem.F.plainAttrs_list PySem.F.slot_list_append PySem.F.type_list_append mt_append pe_we (pa_cons (pe_tup (pa_cons pe_we (pa_cons pe_we pa_nil l2) l1)) pa_nil bm.hs) bm.hbase bm.hfew bm.hline bm.hs bm.hplain)
    (ho.at s fun F2 H2 g2 => ⟨.inl ⟨rfl, xs, SqL.of (g2.hh _ _ hl)⟩, (ha.mono ⟨g2.ff, Same.refl _, g2.ff, fun _ e n => absurd e n⟩).at g2.fh fun F3 H3 g3 =>
      hb n F3 H3 (g2.ff.trans g3.ff) g3.fh (by obtain ⟨o, ho⟩ := P.some; exact (g2.trans g3).f0 f ho) (P.mono (g2.trans g3).hh) hn _ fun d v F4 H4 g4 P4 hv hR hf => ⟨by show 2 ≤ sizeLine; decide, fun t ht => by
        have e4 : H4 l = some (.lst xs) := g4.hh _ _ hlp ((g2.trans g3).hh _ _ hl)
        have htl : l ≠ t := ne_of_none e4 ht
        exact ⟨l, xs, .ref t, rfl, rfl, by rw [upd_ne htl]; exact e4, hz, q d v t F4 H4 ((g2.trans g3).gp.trans g4) P4 hv hR (fun a ea => (g2.trans g3).hh.free (hf a ea)) ht⟩⟩⟩)) hsw
/-- sorted(e) of texts, new -/
theorem pxn_sortedS {A : List Str → Prop} (hm : X.mg "sorted" = none) (ha : Px p c X e σ F (fun d => ∃ xs : List Str, d = ksD xs ∧ A xs)) (hg : Gl X "sorted" := by rfl) (pl : Pl X e [] cpos := by exact ⟨rfl, rfl⟩) : PxN p c X (.Call (.Name "sorted" pos) [e] [] cpos) σ F (fun d => ∃ xs : List Str, d = ksD (srt xs) ∧ A xs) := fun n F1 H1 s1 s2 f P hn Q k =>
  we_of (pe_callB cr_sortedSA hg hm (by decide +kernel) (pa_cons pe_we pa_nil pl.he) (by decide) (by decide) pl.he pl.hpl) (ha n F1 H1 s1 s2 f P hn _ fun d v F2 H2 g2 P2 hv hA => by
    obtain ⟨xs, rfl, hxs⟩ := hA
    obtain ⟨a, ys, rfl, h1, h2⟩ := hv
    obtain rfl := h2.strs
    refine ⟨a, xs, rfl, SqL.of (g2.fh _ _ h1), fun l hl => ?_⟩
    have hp : H1 p ≠ none := by obtain ⟨o, ho⟩ := P.some; rw [ho]; exact fun z => nomatch z
    have hlp : l ≠ p := fun z => by subst z; exact g2.at' hp hl
    refine k (ksD (srt xs)) (.ref l) (upd F2 l (.lst _)) _ (g2.shut hl hp) ?_ ⟨l, _, rfl, upd_same, daAll_strs _⟩ ⟨xs, rfl, hxs⟩ (fun a ea => ?_)
    · obtain ⟨c, m, t, e1, e2, e3, e4⟩ := P2
      exact ⟨c, m, t, by rw [upd_ne (fun z => hlp z.symm)]; exact e1, e2, e3, e4⟩
    · injection ea with ea
      subst ea
      cases hq : H1 l with
      | none => rfl
      | some o => rw [g2.hh l o hlp hq] at hl; cases hl)
end
theorem px_lst2 {p : Addr} {c1 c2 : Nat} {X : Cx} {σ : St} {F : Hp} {a b : Expr} {pos : Pos} {A B R : PyData → Prop} (ha : Px p c1 X a σ F A) (hb : Px p c2 X b σ F B) (hR : ∀ d e, A d → B e → R (.list [d, e])) (l1 : starEach [a, b] X.env = (false, eval a X.env) :: starEach [b] X.env := by rfl) (l2 : starEach [b] X.env = [(false, eval b X.env)] := by rfl) : Px p (c1 + (c2 + 0)) X (.List [a, b] pos) σ F R := fun n F1 H1 s1 s2 f P hn Q k =>
  we_of (pe_lst pa_wa) ((pxa_cons ha (pxa_cons hb pxa_nil l2) l1) n F1 H1 s1 s2 f P hn _ fun ds vs F2 H2 g2 P2 hvs hds => by
    obtain ⟨d, r, rfl, hA, e, r2, rfl, hB, rfl⟩ := hds
    refine ⟨by rw [hvs.length]; show 2 ≤ sizeLine; decide, fun l hl => ?_⟩
    have hp : H1 p ≠ none := by obtain ⟨o, ho⟩ := P.some; rw [ho]; exact fun z => nomatch z
    have hlp : l ≠ p := fun z => by subst z; exact g2.at' hp hl
    refine k (.list [d, e]) (.ref l) (upd F2 l (.lst vs)) _ (g2.shut hl hp) ?_ ⟨l, _, rfl, upd_same, hvs.mono (same_upd (g2.fh.free hl))⟩ (hR d e hA hB)
    obtain ⟨c, m, t, e1, e2, e3, e4⟩ := P2
    exact ⟨c, m, t, by rw [upd_ne (fun z => hlp z.symm)]; exact e1, e2, e3, e4⟩)
end Kr

/-! layer KrS -/
namespace Kr
open PySem PySem.Spec PyProof.Rows
/-! ## sets of texts -/
def txtOf (e : Int × Value) : Str := match e.2 with | .str x _ => x | _ => ⟨#[]⟩
def EntS (w : World) (e : Int × Value) : Prop := ∃ x tk, e.2 = Value.str x tk ∧ e.1 = hashStr w x
/-- the set at a: its texts, in the order of its rows -/
def StrSet (w : World) (h : Heap) (a : Addr) (L : List Str) : Prop := ∃ ob rows ep tb, h.get? a = some ob ∧ ob.ExactSet ∧ ob.data = .set rows ep tb ∧ (∀ e ∈ rows.toList, EntS w e) ∧ rows.toList.map txtOf = L ∧ L.Nodup ∧
  rows.size < scanBound ∧ tb.fits rows.size = true ∧ L2.Ris tb.place.toList ∧ (w.params.followText "set-order" = true ∨ tb.led = true)
section
variable {P : Program} {w : World} {A : Around} {E : Value → Shared → Prop} {s : Shared} {a : Addr} {L : List Str} {h h' : Heap}
theorem StrSet.at (R : StrSet w h a L) (k : ∀ o, h.get? a = some o → h'.get? a = some o) : StrSet w h' a L := by
  obtain ⟨ob, rows, ep, tb, h1, rest⟩ := R
  exact ⟨ob, rows, ep, tb, k ob h1, rest⟩
theorem entS_elems {l : List (Int × Value)} (g : ∀ e ∈ l, EntS w e) : ElemsOf (PySem.strKind P w) l := fun e m => by
  obtain ⟨x, tk, e1, e2⟩ := g e m
  exact ⟨⟨x, by rw [e1]; exact PySem.strKind_is P w x tk, e2⟩, by rw [e1]; rfl⟩
theorem entS_is {e : Int × Value} (g : EntS w e) (x : Str) : (PySem.strKind P w).is x e.2 = true ↔ txtOf e = x := by
  obtain ⟨y, tk, e1, _⟩ := g
  unfold txtOf
  rw [e1]
  show Value.isStrOf x (.str y tk) = true ↔ y = x
  simp [Value.isStrOf]
theorem rows_stored {h : Heap} {a : Addr} {o : Obj} {es es' : Array (Int × Value)} {ep : Nat} {t t' : SetTable} (ho : h.get? a = some o) (hd : o.data = .set es ep t) : (h.update a (Obj.putSet es' t')).get? a = some { o with data := .set es' (ep + 1) t' } := L2.store_at ho hd
/-- the table is kept, or laid anew -/
theorem strSet_store {g : Bool → Sem Unit} (hg : ∀ (b : Bool) (s1 : Shared) (Q' : Unit → Shared → Prop), Q' () s1 → wpAny (model P w) A (g b) Q' E s1)
    {ob : Obj} {rows : Array (Int × Value)} {ep : Nat} {tb : SetTable} (h1 : s.heap.get? a = some ob) (h2 : ob.ExactSet) (h3 : ob.data = .set rows ep tb) {rows1 : Array (Int × Value)} {tb1 : SetTable} (h4 : ∀ e ∈ rows1.toList, EntS w e) (h5 : (rows1.toList.map txtOf).Nodup)
    (h6 : rows1.size < scanBound) (h7 : tb1.fits rows1.size = true) (h8 : L2.Ris tb1.place.toList) (h9 : w.params.followText "set-order" = true ∨ tb1.led = true) {dm : Bool} {R : Option Bool → Shared → Prop}
    (hR : ∀ h' L', Heap.SameBut a s.heap h' → StrSet w h' a L' → L'.Perm (rows1.toList.map txtOf) → R (some true) { s with heap := h' }) :
    wpAny (model P w) A (storeSet a rows1 tb1 >>= fun _ => if (!dm && tb1.tooFull) = true then (g (relayAll tb1 rows1 (SetTable.grown rows1.size)).2.2 >>= fun _ => storeSet a (relayAll tb1 rows1 (SetTable.grown rows1.size)).1 (relayAll tb1 rows1 (SetTable.grown rows1.size)).2.1 >>= fun _ => pure (some true)) else pure (some true)) R E s := by
  refine wpAny_bind (wpAny_storeSet_of h1 h3 ?_ (fits_of_scanBound h6))
  have at1 := rows_stored (es' := rows1) (t' := tb1) h1 h3; have but1 := Heap.SameBut.update s.heap a (Obj.putSet rows1 tb1)
  split
  · have q1 := relayAll_perm tb1 rows1 (SetTable.grown rows1.size); have q2 := relayAll_fits tb1 rows1 (SetTable.grown rows1.size)
    have q3 := L2.relayAll_ris tb1 rows1 (SetTable.grown rows1.size); have q4 := L2.relayAll_led tb1 rows1 (SetTable.grown rows1.size)
    generalize relayAll tb1 rows1 (SetTable.grown rows1.size) = Y at q1 q2 q3 q4 ⊢
    obtain ⟨rows2, tb2, gv⟩ := Y
    dsimp only at q1 q2 q3 q4 ⊢
    have len2 : rows2.size = rows1.size := by rw [← Array.length_toList, q1.length_eq, Array.length_toList]
    refine wpAny_bind (hg _ _ _ (wpAny_bind (wpAny_storeSet_of at1 rfl ?_ (fits_of_scanBound (by rw [len2]; exact h6)))))
    have at2 := rows_stored (es' := rows2) (t' := tb2) at1 rfl
    exact wpAny_pure (hR _ (rows2.toList.map txtOf) (but1.trans (Heap.SameBut.update _ a _)) ⟨_, rows2, _, tb2, at2, h2, rfl, fun e m => h4 e (q1.mem_iff.mp m), rfl, (q1.map txtOf).nodup_iff.mpr h5, by rw [len2]; exact h6, q2, q3, h9.imp id fun z => by rw [q4]; exact z⟩ (q1.map txtOf))
  · exact wpAny_pure (hR _ (rows1.toList.map txtOf) but1 ⟨_, rows1, _, tb1, at1, h2, rfl, h4, rfl, h5, h6, h7, h8, h9⟩ (.refl _))
/-- one text more -/
theorem strSet_add {x : Str} {tk : Tok} {Q : Bool → Shared → Prop} (R : StrSet w s.heap a L) (room : L.length + 1 < scanBound)
    (hQ : ∀ h' L' b, Heap.SameBut a s.heap h' → StrSet w h' a L' → (x ∈ L ∧ L' = L) ∨ (x ∉ L ∧ L'.Perm (x :: L)) → Q b { s with heap := h' }) :
    wpAny (model P w) A (setAddHashed a (.str x tk) ((PySem.strKind P w).hash x)) Q E s := by
  obtain ⟨ob, rows, ep, tb, h1, h2, h3, h4, h5, h6, h7, h8, h9, h10⟩ := R
  have key := PySem.strKind_is P w x tk; have scan : (Value.str x tk).scannable = true := rfl; have elems : ElemsOf (PySem.strKind P w) rows.toList := entS_elems h4
  unfold setAddHashed setAddHashedIn
  refine wpAny_holding (wpAny_bind (wpAny_setState_of h1 h3 h8 ?_)); dsimp only; rw [byScan_of scan h7 elems]; simp only [↓reduceIte]
  unfold setAddByScan
  refine wpAny_bind (wpAny_bind (wpAny_rule (wpAny_bind (wpAny_setScan_of key h1 h3 h8 elems ?_))))
  cases fi : List.findIdx? (fun e => (PySem.strKind P w).is x e.2) rows.toList with
  | some j =>
    dsimp only
    obtain ⟨jl, pj, _⟩ := List.findIdx?_eq_some_iff_getElem.mp fi
    have xL : x ∈ L := by rw [← h5]; exact List.mem_map.mpr ⟨rows.toList[j], List.getElem_mem jl, (entS_is (P := P) (h4 _ (List.getElem_mem jl)) x).mp pj⟩
    exact wpAny_pure (wpAny_pure (hQ s.heap L _ (Heap.SameBut.refl a s.heap) ⟨ob, rows, ep, tb, h1, h2, h3, h4, h5, h6, h7, h8, h9, h10⟩ (.inl ⟨xL, rfl⟩)))
  | none =>
    dsimp only
    have xn : x ∉ L := fun z => by
      rw [← h5] at z
      obtain ⟨e, m, q⟩ := List.mem_map.mp z
      have c := List.findIdx?_eq_none_iff.mp fi e m
      rw [(entS_is (P := P) (h4 e m) x).mpr q] at c; cases c
    have gw : ∀ (b : Bool) {s1 : Shared} {Q' : Unit → Shared → Prop}, Q' () s1 → wpAny (model P w) A (match b with | true => rule "set.scan.the-table-gave-way" | false => pure ()) Q' E s1 := fun b s1 Q' q => by cases b <;> first | exact wpAny_pure q | exact wpAny_rule q
    have q1 := layNew_perm tb rows ((PySem.strKind P w).hash x) (.str x tk); have q2 := layNew_fits tb rows ((PySem.strKind P w).hash x) (.str x tk)
    have q3 := L2.layNew_ris tb rows ((PySem.strKind P w).hash x) (.str x tk) h9; have q4 := L2.layNew_led tb rows ((PySem.strKind P w).hash x) (.str x tk)
    generalize layNew tb rows ((PySem.strKind P w).hash x) (.str x tk) = Y at q1 q2 q3 q4 ⊢
    obtain ⟨rows1, tb1, dm, gv⟩ := Y
    dsimp only at q1 q2 q3 q4 ⊢
    rw [Array.toList_push] at q1
    have pc : rows1.toList.Perm (((PySem.strKind P w).hash x, Value.str x tk) :: rows.toList) := q1.trans (List.perm_append_singleton _ _)
    have pk : (rows1.toList.map txtOf).Perm (x :: L) := by rw [← h5]; exact pc.map txtOf
    have g1 : ∀ e ∈ rows1.toList, EntS w e := fun e m => by
      rcases List.mem_cons.mp (pc.mem_iff.mp m) with z | z
      · rw [z]; exact ⟨x, tk, rfl, rfl⟩
      · exact h4 e z
    have n1 : (rows1.toList.map txtOf).Nodup := pk.nodup_iff.mpr (List.nodup_cons.mpr ⟨xn, h6⟩)
    have l1 : rows1.size = L.length + 1 := by rw [← Array.length_toList, pc.length_eq, List.length_cons, ← h5, List.length_map]
    have b1 : rows1.size < scanBound := by rw [l1]; exact room
    have led1 : w.params.followText "set-order" = true ∨ tb1.led = true := h10.imp id fun z => by rw [q4]; exact z
    refine wpAny_bind (gw _ ?_)
    split
    · refine wpAny_bind ?_
      rw [hashByValue_scannable 8 scan]
      refine wpAny_pure (strSet_store ?_ h1 h2 h3 g1 n1 b1 ?_ ?_ ?_ ?_)
      · intro b s1 Q' q; cases b <;> first | exact wpAny_pure q | exact wpAny_rule q
      · first | (split <;> first | exact q2 | exact SetTable.fits_plain_off q2) | exact q2
      · first | (split <;> exact q3) | exact q3
      · first | (split <;> exact led1) | exact led1
      · intro h' L' sb r pm; dsimp only; exact wpAny_pure (hQ h' L' _ sb r (.inr ⟨xn, pm.trans pk⟩))
    · refine wpAny_bind (wpAny_pure ?_)
      simp only [↓reduceIte]
      refine strSet_store ?_ h1 h2 h3 g1 n1 b1 q2 q3 led1 ?_
      · intro b s1 Q' q; cases b <;> first | exact wpAny_pure q | exact wpAny_rule q
      · intro h' L' sb r pm; dsimp only; exact wpAny_pure (hQ h' L' _ sb r (.inr ⟨xn, pm.trans pk⟩))
end
/-- of these texts, each once -/
def Met (xs L : List Str) : Prop := L.Nodup ∧ ∀ x, x ∈ L ↔ x ∈ xs
theorem Met.next {xs L L' : List Str} {i : Nat} {x : Str} (m : Met (xs.take i) L) (hx : xs[i]? = some x) (c : (x ∈ L ∧ L' = L) ∨ (x ∉ L ∧ L'.Perm (x :: L))) : Met (xs.take (i + 1)) L' := by
  rw [List.take_add_one, hx]
  rcases c with ⟨h, rfl⟩ | ⟨h, pm⟩
  · refine ⟨m.1, fun y => ?_⟩
    rw [m.2 y]
    simp only [Option.toList_some, List.mem_append, List.mem_singleton]
    exact ⟨.inl, fun z => z.elim id fun e => by subst e; exact (m.2 y).mp h⟩
  · refine ⟨pm.nodup_iff.mpr (List.nodup_cons.mpr ⟨h, m.1⟩), fun y => ?_⟩
    rw [pm.mem_iff, List.mem_cons, m.2 y]
    simp only [Option.toList_some, List.mem_append, List.mem_singleton]
    exact Or.comm
theorem Met.len {xs L : List Str} (m : Met xs L) : L.length ≤ xs.length := subset_length m.1 fun x h => (m.2 x).mp h
section
variable {P : Program} {w : World} {A : Around} {E : Value → Shared → Prop} {s : Shared}
theorem strSet_loop {I : Addr} {fp wr : List Addr} {G : Array GenState → Array GenState → Prop} {n : Nat} {Pv : Nat → Value → Prop} {St : Nat → Shared → Prop} {R : Result → Shared → Prop} (W : WalksS P w A.in1 I fp wr G n Pv St) (S : Addr) (hSf : S ∉ fp) (xs : List Str) (hn : n = xs.length) (hb : xs.length + 1 < scanBound)
    (hval : ∀ i v, Pv i v → ∃ x t, xs[i]? = some x ∧ v = .str x t) : ∀ (k i : Nat) (s : Shared), n - i = k → i ≤ n → St i s → (∃ L, Met (xs.take i) L ∧ StrSet w s.heap S L) →
      (∀ s' L, Moved (S :: wr) G s s' → Met xs L → StrSet w s'.heap S L → R (.ok (.ret .none)) s') → codeAny (model P w) A (.builtin "set.update.loop" ⟨[.ref S, .ref I], []⟩) R s := by
  have hSw : S ∉ wr := fun z => hSf (W.sub _ z); have hsub : ∀ b ∈ wr, b ∈ S :: wr := fun b z => List.mem_cons_of_mem _ z
  intro k
  induction k with
  | zero =>
    rintro i s hk hi hst ⟨L, hm, hS⟩ hR
    obtain rfl : i = n := by omega
    refine codeAny_builtin F.entry_set_update_loop ?_
    rw [Around.under_plainId F.plain_set_update_loop _]
    show wpAny _ A.in1 (pyNext (.ref I) >>= _) _ _ s
    refine wpAny_bind (W.done s _ _ hst fun s1 mv => ?_)
    show wpAny _ A.in1 (ret Value.none) _ _ s1
    rw [List.take_of_length_le (by omega)] at hm
    exact wpAny_pure (hR s1 L (mv.mono hsub) hm (hS.at fun o e => mv.heap S o hSw e))
  | succ k ih =>
    rintro i s hk hi hst ⟨L, hm, hS⟩ hR
    have hlt : i < n := by omega
    refine codeAny_builtin F.entry_set_update_loop ?_
    rw [Around.under_plainId F.plain_set_update_loop _]
    show wpAny _ A.in1 (pyNext (.ref I) >>= _) _ _ s
    refine wpAny_bind (W.item i s _ _ hlt hst fun v s1 hP hst1 mv => ?_)
    obtain ⟨x, t, hx, rfl⟩ := hval i v hP
    have hS1 : StrSet w s1.heap S L := hS.at fun o e => mv.heap S o hSw e
    have hLl : L.length ≤ i := Nat.le_trans hm.len (by rw [List.length_take]; omega)
    show wpAny _ A.in1 (holding [Value.str x t] (setAdd S (.str x t)) >>= _) _ _ s1
    refine wpAny_bind (wpAny_holding ?_)
    unfold setAdd
    refine wpAny_holding (wpAny_bind ((PySem.strKind P w).pyHash (k := x) (PySem.strKind_is _ _ _ _) (strSet_add (s := { s1 with toks := s1.toks + 1 }) hS1 (by omega) fun h' L' b sb hS2 hc => ?_)))
    refine wpAny_pure ⟨plainId_quiet F.plain_set_update_loop _, ih (i + 1) _ (by omega) hlt (W.frame _ s1 _ _ hst1 (Nat.le_succ _) fun b hb o e => ?_) ⟨L', hm.next hx hc, hS2⟩ fun s3 L3 mv3 m3 hS3 => ?_⟩
    · rw [sb.2 b (fun z : b = S => hSf (z ▸ hb))]; exact e
    · refine hR s3 L3 (Moved.trans W.gtrans ((mv.mono hsub).then_heap (Nat.le_succ _) fun b o hb e => ?_) mv3) m3 hS3
      rw [sb.2 b (fun z : b = S => hb (z ▸ List.mem_cons_self))]; exact e
theorem strSet_fresh {h : Heap} {a : Addr} (ho : h.get? a = some { cls := .type "set", dict := none, data := .set #[] 0 (.fresh 0 0 (!w.params.followText "set-order")) }) : StrSet w h a [] :=
  ⟨_, #[], 0, _, ho, ⟨rfl, rfl, rfl⟩, rfl, (fun e m => by simp at m), rfl, List.nodup_nil, by decide, rfl, List.Pairwise.nil, by show _ ∨ (!w.params.followText "set-order") = true; cases w.params.followText "set-order" <;> simp⟩
set_option maxHeartbeats 6400000 in
/-- set(xs) -/
theorem call_set_strs {l : Addr} {items : Array Value} (xs : List Str) {Q : Value → Shared → Prop} (hh : A.handled = none) (hl : s.heap.IsList l items) (hit : StrsAre items.toList xs) (hb : xs.length + 1 < scanBound)
    (h : ∀ (h' : Heap) (tk : Nat) (L : List Str), Met xs L → StrSet w h' s.heap.objs.size L → (∀ b o, s.heap.get? b = some o → h'.get? b = some o) → Q (.ref s.heap.objs.size) { s with heap := h', toks := tk }) : wpAny (model P w) A (call (.type "set") [.ref l]) Q E s := by
  have hisz : items.size = xs.length := by have q := hit.length; rw [Array.length_toList] at q; exact q
  obtain ⟨c, tl, hmro⟩ := F.called_set.mro; have hmade := F.called_set.made; have hsub := F.called_set.sub
  refine wpAny_call (codeAny_of_tree ?_)
  show wpAny _ _ (callAny (.type "set") _) _ _ _
  refine wpAny_pure ⟨Code.quiet_builtin _ (by decide +kernel), codeAny_builtin F.entry_type_call ?_⟩
  rw [Around.under_plain (weight_type_call_type "set" [.ref l] []) rfl]
  have h1 := F.called_set.notType; have h2 := F.called_set.canCreate; have hct := F.typeCall_set_1 (.ref l)
  repeat (any_goals (first | assumption | wp_step))
  refine codeAny_mono (L2.code_set_led1 (.ref l) (E := E) (Q₁ := fun obj s1 => obj = .ref s.heap.objs.size ∧ s1 = { s with heap := s.heap.push { cls := .type "set", dict := none, data := .set #[] 0 (.fresh 0 0 (!w.params.followText "set-order")) } }) ⟨rfl, rfl⟩) fun r s1 hr => ?_
  cases r with
  | error e => exact hr
  | ok fl =>
    cases fl with
    | ret obj =>
      obtain ⟨rfl, rfl⟩ := hr
      generalize hnew : s.heap.push { cls := .type "set", dict := none, data := .set #[] 0 (.fresh 0 0 (!w.params.followText "set-order")) } = hN
      have hS : hN.get? s.heap.objs.size = some { cls := .type "set", dict := none, data := .set #[] 0 (.fresh 0 0 (!w.params.followText "set-order")) } := by rw [← hnew]; exact Heap.get?_push_size _ rfl
      have hkeep : ∀ b o, s.heap.get? b = some o → hN.get? b = some o := fun b o e => by rw [← hnew]; exact Heap.get?_push_of_some _ e
      have hNs : hN.objs.size = s.heap.objs.size + 1 := by rw [← hnew]; exact Heap.size_push ..
      have hT : Shared.TypeIs { s with heap := hN } (.ref s.heap.objs.size) "set" := ⟨_, hS, rfl⟩
      have hli := F.called_set.init.lookup; have hbi := F.called_set.init.bind (.ref s.heap.objs.size)
      repeat (any_goals (first | assumption | wp_step))
      refine codeAny_mono (codeAny_call_builtin (R := wants (fun r s2 => r = .none ∧ ∃ h' tk L, s2 = { s with heap := h', toks := tk } ∧ Met xs L ∧ StrSet w h' s.heap.objs.size L ∧ (∀ b o, s.heap.get? b = some o → h'.get? b = some o)) E) F.called_set.init.plain F.entry_set_init (check_set_init_1 hT ?_)) fun r2 s2 hr2 => ?_
      · obtain ⟨ol, hol, hcl, nl, hdl⟩ := hl
        obtain ⟨ocls, odict, odata, oslots⟩ := ol
        simp only at hcl hdl
        subst hcl; subst hdl
        have hol' := hkeep l _ hol
        have hsls := F.sub_list_set; have hslf := F.sub_list_frozenset; have hne : (Value.type "list" == Value.type "dict") = false := by decide
        have hl1 : hN.IsList l items := ⟨_, hol', rfl, nl, rfl⟩
        unfold Builtin.«set.__init__» noKeywords Builtin.Frozenset.updateFrom
        generalize hPI : pyIter = PI
        wp_walk
        subst hPI
        refine wpAny_pyIter_list hl1 (wpAny_bind (wpAny_runValue ?_))
        have hlS : l < s.heap.objs.size := Heap.lt_size hol; have hh3 : A.in1.in1.in1.handled = none := by simp [hh]
        have hneI : l ≠ hN.objs.size := by rw [hNs]; exact Nat.ne_of_lt (Nat.lt_succ_of_lt hlS)
        have hSf : s.heap.objs.size ∉ [hN.objs.size, l] := by rw [hNs]; simp only [List.mem_cons, List.mem_singleton, List.not_mem_nil, or_false, not_or]; exact ⟨Nat.ne_of_lt (Nat.lt_succ_self _), Nat.ne_of_gt hlS⟩
        have hval : ∀ (i : Nat) (v : Value), items[i]? = some v → ∃ x t, xs[i]? = some x ∧ v = .str x t := fun i v hv => by
          have hi : i < xs.length := by rw [← hisz]; exact (Array.getElem?_eq_some_iff.mp hv).1
          obtain ⟨t, e⟩ := SS.strs_at hit i v (by rw [Array.getElem?_toList]; exact hv)
          exact ⟨xs[i], t, List.getElem?_eq_getElem hi, by rw [e, List.getD_eq_getElem?_getD, List.getElem?_eq_getElem hi]; rfl⟩
        refine strSet_loop ((Walks.list hh3 _ l hneI items).toS) s.heap.objs.size hSf xs hisz hb hval (items.size - 0) 0 _ (by omega) (Nat.zero_le _) ⟨⟨_, Heap.get?_push_size _ rfl, rfl, rfl⟩, (hl1.push _)⟩ ?hS0 ?hR
        case hS0 => exact ⟨[], ⟨List.nodup_nil, fun x => by simp⟩, strSet_fresh (Heap.get?_push_of_some _ hS)⟩
        case hR =>
          intro s3 L mv mL hS3
          obtain ⟨h3, g3, d3, tk3, os3⟩ := s3
          obtain rfl : g3 = s.gens := mv.gens; obtain rfl : d3 = s.drawn := mv.drawn; obtain rfl : os3 = s.os := mv.os
          show wpAny _ _ _ _ _ _
          refine wpAny_pure ?_
          show wpAny _ _ (ret Value.none) _ _ _
          refine wpAny_pure ⟨rfl, h3, tk3, L, rfl, mL, hS3, fun b o e => ?_⟩
          have hb0 : b < s.heap.objs.size := Heap.lt_size e
          refine mv.heap b o ?_ (Heap.get?_push_of_some _ (hkeep b o e))
          simp only [List.mem_cons, List.mem_singleton, List.not_mem_nil, or_false, not_or]
          exact ⟨Nat.ne_of_lt hb0, by rw [hNs]; exact Nat.ne_of_lt (Nat.lt_succ_of_lt hb0)⟩
      · cases r2 with
        | error e => exact hr2
        | ok fl2 =>
          cases fl2 with
          | ret r =>
            obtain ⟨rfl, h', tk, L, rfl, mL, hS', hk'⟩ := hr2
            repeat (any_goals (first | assumption | wp_step))
            exact h _ _ _ mL hS' hk'
          | _ => exact hr2.elim
    | _ => exact hr.elim
end
end Kr

/-! layer KrT -/
namespace Kr
section
open PySem PySem.Spec PyProof.Rows
variable {P : Program} {w : World} {A : Around} {E : Value → Shared → Prop} {s : Shared} {a : Addr} {L : List Str}
theorem strs_of_rows (w : World) : ∀ (l : List Value), (∀ v ∈ l, ∃ x tk, v = Value.str x tk) → ∃ ss, StrsAre l ss ∧ ss = l.map fun v => txtOf (0, v)
  | [], _ => ⟨[], .nil, rfl⟩
  | v :: l, h => by
    obtain ⟨ss, h1, h2⟩ := strs_of_rows w l fun u hu => h u (List.mem_cons_of_mem _ hu)
    obtain ⟨x, tk, rfl⟩ := h v List.mem_cons_self
    exact ⟨x :: ss, .cons x tk h1, by rw [h2]; rfl⟩
theorem sorted_strSet {Q : Value → Shared → Prop} (R : StrSet w s.heap a L) (hh : A.handled = none)
    (hQ : ∀ s' p (out : Array Value) (c : Nat) (ss : List Str), (∀ b o, s.heap.get? b = some o → s'.heap.get? b = some o) → s'.gens = s.gens → s'.os = s.os → s.heap.objs.size ≤ p → s'.heap.get? p = some (seqObj "list" out c) → StrsAre out.toList ss → ss.Perm L → sortedS ss = true → Q (.ref p) s') :
    wpAny (model P w) A (call (.builtin "sorted") [.ref a]) Q E s := by
  obtain ⟨ob, rows, ep, tb, h1, h2, h3, h4, h5, h6, h7, h8, h9, h10⟩ := R
  refine Calls.call_function_entry kind_sorted plain_sorted entry_sorted (args_sorted1 _) ?_
  unfold Builtin.«sorted»
  refine wpAny_bind (m := checkCount "sorted" 1 1 _) (wpAny_pure (wpAny_bind (L2.collect_set (A := A.in1) hh ⟨ob, h1, h2.1, h3⟩ h8 h7 h9 h10 fun s1 vs k1 hz g1 o1 pm => ?_)))
  obtain ⟨ss, hs, hse⟩ := strs_of_rows w vs fun v hv => by
    obtain ⟨e, he, q⟩ := List.mem_map.mp (pm.mem_iff.mp hv)
    obtain ⟨x, tk, e1, _⟩ := h4 e he
    exact ⟨x, tk, by rw [← q]; exact e1⟩
  have pk : ss.Perm L := by
    rw [hse, ← h5]
    have q := pm.map fun v => txtOf (0, v)
    rw [List.map_map] at q
    exact q
  have hvl : vs.length ≤ sizeLine := by rw [pm.length_eq, List.length_map, Array.length_toList]; exact fits_of_scanBound h7
  refine wpAny_bind (wpAny_newList ?_ hvl)
  have hoL : (s1.heap.push (seqObj "list" vs.toArray 0)).get? s1.heap.objs.size = some (seqObj "list" vs.toArray 0) := Heap.get?_push_size _ rfl
  refine wpAny_bind (wpAny_holding (wpAny_call_entry slot_list_sort ⟨_, hoL, rfl⟩ entry_list_sort (list_sort_treeKAny strKind_oneLt hoL hs.keysOf (fun v1 v2 rest e => keyKind_strs (by rw [← e]; exact hs)) hvl fun st hp hst => ⟨_, rfl, ?_⟩) (args_list_sort _)))
  obtain ⟨ss', a1, a2, a3⟩ := sorted_out_str hs hp hst
  obtain ⟨c, hc⟩ := sortedHeap_at (vs := vs) (out := (arrOf st).map (·.2)) hoL
  refine wpAny_pure ⟨_, rfl, hQ _ s1.heap.objs.size _ c ss' (fun b u e => ?_) g1 o1 hz hc a1 (a2.trans pk) a3⟩
  have q := k1 b u e; have hlt := Heap.lt_size q
  show (sortedHeap (s1.heap.push (seqObj "list" vs.toArray 0)) s1.heap.objs.size vs ((arrOf st).map (·.2))).get? b = some u
  rw [sortedHeap_old (Nat.ne_of_lt hlt) (by rw [size_push']; exact Nat.lt_succ_of_lt hlt)]
  exact Heap.get?_push_of_some _ q
end
open PySem L2
/-! ## set(xs), sorted of it -/
def SetSO (w : World) (a : Addr) (L : List Str) : HO := .ext fun h => StrSet w h a L
theorem setSO_new {P : Program} {w : World} {H : Hp} {h : Heap} {a : Addr} {L : List Str} (R : StrSet w h a L) : ObjOk P w H h a (SetSO w a L) := by
  have ⟨o, _, _, _, ho, _⟩ := R
  exact ⟨R, ⟨o, ho⟩, fun h1 h2 p k => p.at k⟩
/-- the kinds of a list, sorted, each once -/
def kset (xs : List Str) : List Str := srt xs.eraseDups
theorem eraseDups_met : ∀ (n : Nat) (xs : List Str), xs.length ≤ n → Met xs xs.eraseDups
  | 0, [], _ => ⟨List.nodup_nil, fun x => by simp⟩
  | n + 1, [], _ => ⟨List.nodup_nil, fun x => by simp⟩
  | n + 1, x :: xs, h => by
    rw [List.eraseDups_cons]
    have hl : (xs.filter fun b => !b == x).length ≤ n := Nat.le_trans (List.length_filter_le _ _) (by simpa using h)
    obtain ⟨h1, h2⟩ := eraseDups_met n _ hl
    refine ⟨List.nodup_cons.mpr ⟨fun z => ?_, h1⟩, fun y => ?_⟩
    · have := (h2 x).mp z
      simp at this
    · rw [List.mem_cons, h2 y, List.mem_filter, List.mem_cons]
      by_cases e : y = x
      · simp [e]
      · simp [e]
theorem perm_of_nodup : ∀ {xs ys : List Str}, xs.Nodup → ys.Nodup → (∀ x, x ∈ xs ↔ x ∈ ys) → xs.Perm ys := fun {xs ys} h1 h2 h => by
  rw [List.perm_iff_count]
  intro a
  by_cases ha : a ∈ xs
  · have c1 := (List.nodup_iff_count.mp h1) a
    have c2 := (List.nodup_iff_count.mp h2) a
    have c3 := List.count_pos_iff.mpr ha
    have c4 := List.count_pos_iff.mpr ((h a).mp ha)
    omega
  · rw [List.count_eq_zero.mpr ha, List.count_eq_zero.mpr (fun z => ha ((h a).mpr z))]
theorem srt_perm_eq {xs ys : List Str} (p : xs.Perm ys) : srt xs = srt ys := sorted_unique ((srt_perm xs).trans (p.trans (srt_perm ys).symm)) (srt_sorted xs) (srt_sorted ys)
theorem Met.kset {xs L : List Str} (m : Met xs L) : srt L = Kr.kset xs := srt_perm_eq (perm_of_nodup m.1 (eraseDups_met _ xs (Nat.le_refl _)).1 fun x => (m.2 x).trans ((eraseDups_met _ xs (Nat.le_refl _)).2 x).symm)
theorem mem_kset {xs : List Str} {x : Str} : x ∈ kset xs ↔ x ∈ xs := mem_srt.trans ((eraseDups_met _ xs (Nat.le_refl _)).2 x)
theorem kset_nodup (xs : List Str) : (kset xs).Nodup := (srt_perm _).nodup_iff.mpr (eraseDups_met _ xs (Nat.le_refl _)).1
theorem kset_sorted (xs : List Str) : (kset xs).Pairwise (fun a b => leS a b = true) := srt_sorted _
/-- two sorted lists of the same kinds, each once, are one -/
theorem kset_ext {xs ys : List Str} (h : ∀ x, x ∈ xs ↔ x ∈ ys) : kset xs = kset ys := srt_perm_eq (perm_of_nodup (eraseDups_met _ xs (Nat.le_refl _)).1 (eraseDups_met _ ys (Nat.le_refl _)).1 fun x => ((eraseDups_met _ xs (Nat.le_refl _)).2 x).trans ((h x).trans ((eraseDups_met _ ys (Nat.le_refl _)).2 x).symm))
section
variable {X : Cx} {σ : St} {F H : Hp} {e : Expr} {pos p p2 pos2 : Pos} {xs : List Str}
def rSetS (K : PySem.W.Frag) (w : World) : List V → Hp → VK → Prop := fun vs H Q => ∃ (a : Addr) (ks : List Str), vs = [.ref a] ∧ SqL K H a (ks.map V.str) ∧ ks.length + 1 < scanBound ∧ ∀ p L, H p = none → Met ks L → Q (.ref p) (upd H p (SetSO w p L))
theorem cr_setS (hc : X.calm = true) : CallR X (.type "set") (rSetS X.K X.w) := by
  intro pins s σ H vs us Q I r h
  obtain ⟨a, ks, rfl, hs, hb, q⟩ := h
  obtain ⟨its, rv, hl, hz⟩ := I.list hs
  rw [Vals.ref1 r]
  refine call_set_strs ks (I.ok.hd hc) hl.isList (by rw [List.toList_toArray]; exact strs_of_vals rv) hb fun h' tk L m hS k => ?_
  have hn : H s.heap.objs.size = none := I.hok.fresh (Nat.le_refl _)
  exact ⟨.ref _, upd H s.heap.objs.size (SetSO X.w s.heap.objs.size L), I.laid (t' := tk) k (Nat.le_refl _) (setSO_new hS), rfl, q _ L hn m⟩
def rSortedSetS (w : World) : List V → Hp → VK → Prop := fun vs H Q => ∃ (a : Addr) (L : List Str), vs = [.ref a] ∧ H a = some (SetSO w a L) ∧ ∀ p, H p = none → Q (.ref p) (upd H p (.lst ((srt L).map V.str)))
theorem cr_sortedSetS (hc : X.calm = true) : CallR X (.builtin "sorted") (rSortedSetS X.w) := by
  intro pins s σ H vs us Q I r h
  obtain ⟨a, L, rfl, ha, q⟩ := h
  have R : StrSet X.w s.heap a L := (I.hok a _ ha).1
  rw [Vals.ref1 r]
  refine sorted_strSet R (I.ok.hd hc) fun s' p out c ss k g o hp hg hi pm hs => ?_
  obtain rfl := srt_eq pm hs
  have hlen : ((srt L).map V.str).length ≤ sizeLine := by
    obtain ⟨_, rows, _, _, _, _, _, _, e, _, hb, _⟩ := R
    rw [List.length_map, srt_length, ← e, List.length_map, Array.length_toList]
    exact fits_of_scanBound hb
  have hn : H p = none := I.hok.fresh hp
  have J : Inv X pins σ (upd H p (.lst ((srt L).map V.str))) { s with heap := s'.heap, gens := s'.gens, drawn := s'.drawn, toks := s'.toks } :=
    I.call (ch := []) (Un.laid k hp hn) (I.hok.laid k hp ⟨hlen, out.toList, c, vals_of_strs hi, hg⟩) (by rw [g]; exact I.bare) (fun _ z => nomatch z)
  have e : s' = { s with heap := s'.heap, gens := s'.gens, drawn := s'.drawn, toks := s'.toks } := by cases s'; cases s; cases o; rfl
  rw [e]
  exact ⟨.ref p, _, J, rfl, q p hn⟩
/-- sorted(set(e)) -/
theorem de_sortedSet (hm : X.mg "sorted" = none) (hm2 : X.mg "set" = none) (hc : X.calm = true) (hl : xs.length ≤ 4000) (ha : DE X e σ F H (.list (xs.map .str))) (hg : Gl X "sorted" := by rfl) (hg2 : Gl X "set" := by rfl) (l : Pl X (.Call (.Name "set" p2) [e] [] pos2) [] pos := by exact ⟨rfl, rfl⟩) (l2 : Pl X e [] pos2 := by exact ⟨rfl, rfl⟩) :
    DE X (.Call (.Name "sorted" p) [.Call (.Name "set" p2) [e] [] pos2] [] pos) σ F H (ksD (kset xs)) := fun F1 H1 g Q q =>
  we_of (pe_callB (cr_sortedSetS hc) hg hm (by decide +kernel) (pa_cons (pe_callTy (cr_setS hc) hg2 hm2 (by decide +kernel) (pa_cons pe_we pa_nil l2.he) (by decide) (by decide) l2.he l2.hpl) pa_nil l.he) (by decide) (by decide) l.he l.hpl)
    (ha F1 H1 g _ fun v F2 H2 g2 hv => by
      obtain ⟨a, ys, rfl, h1, h2⟩ := hv
      obtain rfl := h2.strs
      refine ⟨a, xs, rfl, SqL.of (g2.fh _ _ h1), by show xs.length + 1 < 4096; omega, fun b L hb m => ⟨b, L, rfl, upd_same, fun c hcn => ?_⟩⟩
      have gb := g2.open' (o := SetSO X.w b L) hb
      rw [m.kset]
      exact q _ (upd F2 c (.lst _)) _ (gb.shut hcn) ⟨c, _, rfl, upd_same, daAll_strs _⟩)
end
end Kr

/-! layer KrU -/
namespace Kr
open PySem L2
/-! ## defs that tell something new of data -/
def spR (n : Nat) (pre : List PyData → Prop) (post : List PyData → PyData → Prop) : Sp := fun vs H Q _ => ∃ F ds, ds.length = n ∧ Same F H ∧ DaAll F ds vs ∧ pre ds ∧ ∀ d v F2 H2, Gr F H F2 H2 → Da F2 d v → post ds d → (∀ a, v = .ref a → H a = none) → Q v H2
section
variable {P : Program} {w : World} {K : PySem.W.Frag} {mg : Str → Option Value} {base : Heap}
theorem okR {x qual : Str} {st : Stmt} {f : Addr} {fd : FuncData} {N ps : List Str} {k : Nat} {pre : List PyData → Prop} {post : List PyData → PyData → Prop} (F : Fun K x qual st f fd) (S : FnScope N ps (defScope st))
    (hbody : ∀ (X : Cx) (cdv : Value) (A : Around) (outer : List Env) (s : Shared) (H0 : Hp) (E : XK) (vs : List V) (F H : Hp) (ds : List PyData) (Q : VK), X = (cxOf CX0 P w K mg base N qual (defScope st) f cdv A outer s H0 E).nox → Room k X.A → Same F H → DaAll F ds vs → pre ds → (∀ d v F2 H2, Gr F H F2 H2 → Da F2 d v → post ds d → (∀ a, v = .ref a → H a = none) → Q v H2) →
      WSs X (defBody st) { nx := fun _ H' => Q .non H', rt := Q } (start N vs) H) : FnOk P w K mg base CX0 (k + 1) f fd ps (spR ps.length pre post) :=
  okW F S (fun vs H Q E ⟨F, ds, hl, _, ha, _⟩ => by rw [ha.length, hl]) fun cdv A outer s H vs Q E hr ⟨F, ds, hl, hs, ha, hp, q⟩ => hbody _ cdv A outer s H E vs F H ds Q rfl hr hs ha hp q
end
section
variable {X : Cx} {σ : St} {F H : Hp} {e o : Expr} {es : List Expr} {ds : List PyData} {k n : Nat} {f : Addr} {fd : FuncData} {ps : List Str} {pre : List PyData → Prop} {post : List PyData → PyData → Prop} {x : Str} {p pos apos cpos : Pos} {D : Ends} {d : PyData} {l : Addr} {xs : List V}
/-- what is new and one of R -/
def NE (X : Cx) (e : Expr) (σ : St) (F H : Hp) (R : PyData → Prop) : Prop := ∀ F1 H1, Gr F H F1 H1 → ∀ Q : VK, (∀ d v F2 H2, Gr F1 H1 F2 H2 → Da F2 d v → R d → (∀ a, v = .ref a → H1 a = none) → Q v H2) → WE X e σ H1 Q
theorem NE.go {R : PyData → Prop} (h : NE X e σ F H R) (s : Same F H) {Q : VK} (q : ∀ d v F2 H2, Gr F H F2 H2 → Da F2 d v → R d → (∀ a, v = .ref a → H a = none) → Q v H2) : WE X e σ H Q := h F H (.refl s) Q q
theorem NE.de {R : PyData → Prop} (h : NE X e σ F H R) (hR : ∀ d', R d' → d' = d) : DE X e σ F H d := fun F1 H1 g Q q => h F1 H1 g Q fun d' v F2 H2 g2 hd r _ => by have := hR d' r; subst this; exact q v F2 H2 g2 hd
theorem ne_call (G : FnOk X.prog X.w X.K X.mg X.base CX0 k f fd ps (spR n pre post)) (hr : Room k X.A) (hm : X.mg x = some (.ref f)) (hk : PySem.W.keepIn X.K (.ref f) = true) (hb : Binds X.K fd ps []) (ha : DL X (e :: es) σ F H ds) (hn : ds.length = n) (hp : pre ds)
    (hg : Gl X x := by rfl) (hdb : (x == ("__debug__" : Str)) = false := by decide) (l : Pl X e es pos := by exact ⟨rfl, rfl⟩) : NE X (.Call (.Name x p) (e :: es) [] pos) σ F H (post ds) := fun F1 H1 g Q q =>
  we_of (pe_call G hr hg hm hk hb .nil pass0 pa_wa hdb l.he l.hpl) (ha F1 H1 g _ fun vs F2 H2 g2 hvs => by
    show spR n pre post (vs ++ []) H2 Q E0
    rw [List.append_nil]
    exact ⟨F2, ds, hn, g2.fh, hvs, hp, fun d v F3 H3 g3 hv hpo hf => q d v F3 H3 (g2.trans g3) hv hpo fun a ea => g2.hh.free (hf a ea)⟩)
/-- list(e), left open -/
theorem we_listOf (hm : X.mg "list" = none) (ha : DE X e σ F F (.list ds)) (s : Same F H) {Q : VK} (q : ∀ l vs F2 H2, Gr F H F2 H2 → DaAll F2 ds vs → H2 l = none → Q (.ref l) (upd H2 l (.lst vs))) (hg : Gl X "list" := by rfl) (pl : Pl X e [] pos := by exact ⟨rfl, rfl⟩) : WE X (.Call (.Name "list" p) [e] [] pos) σ H Q :=
  we_of (pe_callTy call_list_of hg hm (by decide +kernel) (pa_cons pe_we pa_nil pl.he) (by decide) (by decide) pl.he pl.hpl) (ha.at s fun v F2 H2 g2 hv => by
    obtain ⟨a, vs, rfl, h1, h2⟩ := hv
    exact ⟨a, vs, rfl, .inl (SqL.of (g2.fh _ _ h1)), fun l hl => q l vs F2 H2 g2 h2 hl⟩)
/-- o.extend(e) -/
theorem ws_extend (ho : VE X o σ F F (.ref l)) (he : DE X e σ F F (.list ds)) (s : Same F H) (hl : H l = some (.lst xs)) (hz : xs.length + ds.length ≤ sizeLine) (q : ∀ vs F2 H2, Gr F H F2 H2 → DaAll F2 ds vs → D.nx σ (upd H2 l (.lst (xs ++ vs))))
    (b : Bm X o "extend" e [] apos cpos := by exact ⟨rfl, rfl, rfl, rfl, rfl⟩) (hsw : swapsWith (.Call (.Attribute o "extend" apos) [e] [] cpos) none pos.line X.env = pure false := by rfl) : WS X (.Expr (.Call (.Attribute o "extend" apos) [e] [] cpos) pos) D σ H :=
  ws_expr (we_of (pe_bm PySem.F.plainAttrs_list PySem.F.slot_list_extend PySem.F.type_list_extend mt_extend pe_we (pa_cons pe_we pa_nil b.hs) b.hbase b.hfew b.hline b.hs b.hplain)
    (ho.at s fun F2 H2 g2 => ⟨.inl ⟨rfl, xs, SqL.of (g2.hh _ _ hl)⟩, (he.f g2.ff).at g2.fh fun v F3 H3 g3 hv => by
      obtain ⟨a, vs, rfl, h1, h2⟩ := hv
      exact ⟨l, a, xs, vs, rfl, rfl, (g2.trans g3).hh _ _ hl, g3.fh _ _ h1, by rw [h2.length]; exact hz, q vs F3 H3 (g2.trans g3) h2⟩⟩)) hsw
end
section
variable {X : Cx} {σ : St} {F H : Hp} {e : Expr} {p p2 pos pos2 : Pos} {xs : List Str}
theorem ne_sortedSet (hm : X.mg "sorted" = none) (hm2 : X.mg "set" = none) (hc : X.calm = true) (hl : xs.length ≤ 4000) (ha : DE X e σ F H (.list (xs.map .str))) (hg : Gl X "sorted" := by rfl) (hg2 : Gl X "set" := by rfl) (l : Pl X (.Call (.Name "set" p2) [e] [] pos2) [] pos := by exact ⟨rfl, rfl⟩) (l2 : Pl X e [] pos2 := by exact ⟨rfl, rfl⟩) :
    NE X (.Call (.Name "sorted" p) [.Call (.Name "set" p2) [e] [] pos2] [] pos) σ F H (fun d => d = ksD (kset xs)) := fun F1 H1 g Q q =>
  we_of (pe_callB (cr_sortedSetS hc) hg hm (by decide +kernel) (pa_cons (pe_callTy (cr_setS hc) hg2 hm2 (by decide +kernel) (pa_cons pe_we pa_nil l2.he) (by decide) (by decide) l2.he l2.hpl) pa_nil l.he) (by decide) (by decide) l.he l.hpl)
    (ha F1 H1 g _ fun v F2 H2 g2 hv => by
      obtain ⟨a, ys, rfl, h1, h2⟩ := hv
      obtain rfl := h2.strs
      refine ⟨a, xs, rfl, SqL.of (g2.fh _ _ h1), by show xs.length + 1 < 4096; omega, fun b L hb m => ⟨b, L, rfl, upd_same, fun c hcn => ?_⟩⟩
      have gb := g2.open' (o := SetSO X.w b L) hb
      rw [m.kset]
      exact q (ksD (kset xs)) _ (upd F2 c (.lst _)) _ (gb.shut hcn) ⟨c, _, rfl, upd_same, daAll_strs _⟩ rfl fun z ez => by
        injection ez with ez; subst ez; exact gb.hh.free hcn)
end
/-! ## what comes -/
inductive Comes (h : House) : Str → Prop
  | begin' {k : Str} : k ∈ h.1 → Comes h k
  | room {r : Room'} {k : Str} : r ∈ h.2 → (∀ l ∈ r.1, Comes h l) → k ∈ r.2 → Comes h k
def IsCome (h : House) (c : List Str) : Prop := (∀ x, x ∈ c ↔ Comes h x) ∧ c.Nodup ∧ c.Pairwise (fun a b => leS a b = true)
theorem IsCome.unique {h : House} {c d : List Str} (a : IsCome h c) (b : IsCome h d) : c = d := sorted_unique (perm_of_nodup a.2.1 b.2.1 fun x => (a.1 x).trans (b.1 x).symm) a.2.2 b.2.2
/-- closed under the rooms, and no more than comes -/
theorem isCome_of {h : House} {c : List Str} (h1 : ∀ x ∈ c, Comes h x) (h2 : ∀ x ∈ h.1, x ∈ c) (h3 : ∀ r ∈ h.2, (∀ l ∈ r.1, l ∈ c) → ∀ k ∈ r.2, k ∈ c) (h4 : c.Nodup) (h5 : c.Pairwise (fun a b => leS a b = true)) : IsCome h c := by
  refine ⟨fun x => ⟨h1 x, fun hx => ?_⟩, h4, h5⟩
  induction hx with
  | begin' h => exact h2 _ h
  | room hr _ hk ih => exact h3 _ hr ih _ hk
/-- the keys of the rooms of rs whose locks are all of c -/
def newKeys (c : List Str) (rs : List Room') : List Str := (rs.filter fun r => r.1.all fun k => decide (k ∈ c)).flatMap (·.2)
theorem mem_newKeys {c : List Str} {rs : List Room'} {k : Str} : k ∈ newKeys c rs ↔ ∃ r ∈ rs, (∀ l ∈ r.1, l ∈ c) ∧ k ∈ r.2 := by
  unfold newKeys
  simp only [List.mem_flatMap, List.mem_filter, List.all_eq_true, decide_eq_true_eq]
  exact ⟨fun ⟨r, ⟨h1, h2⟩, h3⟩ => ⟨r, h1, h2, h3⟩, fun ⟨r, h1, h2, h3⟩ => ⟨r, ⟨h1, h2⟩, h3⟩⟩
theorem nodup_back {l ks : List Str} (hl : l.Nodup) (hk : ks.Nodup) (h : ∀ x ∈ l, x ∈ ks) (hn : ks.length ≤ l.length) : ∀ x ∈ ks, x ∈ l := fun x hx => by
  by_cases hm : x ∈ l
  · exact hm
  · exfalso
    have := subset_length (l := x :: l) (ks := ks) (List.nodup_cons.mpr ⟨hm, hl⟩) fun y hy => by
      rcases List.mem_cons.mp hy with rfl | hy
      · exact hx
      · exact h y hy
    simp only [List.length_cons] at this
    omega
def keysIn (rs : List Room') : Nat := (rs.map fun r => r.2.length).sum
structure Small (h : House) : Prop where
  good : GoodHouse h
  b : h.1.length ≤ 1000
  r : h.2.length ≤ 1000
  k : keysIn h.2 ≤ 1000
theorem newKeys_len (c : List Str) : ∀ rs : List Room', (newKeys c rs).length ≤ keysIn rs
  | [] => Nat.le_refl _
  | r :: rs => by
    have ih := newKeys_len c rs
    unfold newKeys keysIn at ih ⊢
    rw [List.filter_cons, List.map_cons, List.sum_cons]
    split
    · rw [List.flatMap_cons, List.length_append]; omega
    · omega
theorem comes_in {h : House} {x : Str} (hx : Comes h x) : x ∈ h.1 ++ h.2.flatMap (·.2) := by
  cases hx with
  | begin' h => exact List.mem_append_left _ h
  | room hr _ hk => exact List.mem_append_right _ (List.mem_flatMap.mpr ⟨_, hr, hk⟩)
theorem flat_len : ∀ rs : List Room', (rs.flatMap (·.2)).length = keysIn rs
  | [] => rfl
  | r :: rs => by unfold keysIn; rw [List.flatMap_cons, List.length_append, List.map_cons, List.sum_cons, flat_len rs]; rfl
theorem come_len {h : House} {c : List Str} (s : Small h) (h1 : ∀ x ∈ c, Comes h x) (hn : c.Nodup) : c.length ≤ 2000 := by
  have := subset_length (ks := h.1 ++ h.2.flatMap (·.2)) hn fun x hx => comes_in (h1 x hx)
  rw [List.length_append, flat_len] at this
  have := s.b
  have := s.k
  omega
theorem newKeys_snoc {c : List Str} {rs : List Room'} {i : Nat} {r : Room'} (h : rs[i]? = some r) : newKeys c (rs.take (i + 1)) = newKeys c (rs.take i) ++ (if (r.1.all fun k => decide (k ∈ c)) = true then r.2 else []) := by
  unfold newKeys
  rw [List.take_add_one, h, List.filter_append, List.flatMap_append]
  congr 1
  simp only [Option.toList_some, List.filter_cons, List.filter_nil]
  split <;> simp
theorem take_keys {rs : List Room'} (i : Nat) : keysIn (rs.take i) ≤ keysIn rs := by
  have e : keysIn rs = keysIn (rs.take i) + keysIn (rs.drop i) := by
    unfold keysIn
    rw [← List.sum_append, ← List.map_append, List.take_append_drop]
  omega
theorem step_come {h : House} {c : List Str} (hc : ∀ x ∈ c, Comes h x) : ∀ x ∈ kset (c ++ newKeys c h.2), Comes h x := fun x hx => by
  rcases List.mem_append.mp (mem_kset.mp hx) with hx | hx
  · exact hc x hx
  · obtain ⟨r, hr, h1, h2⟩ := mem_newKeys.mp hx
    exact .room hr (fun l hl => hc l (h1 l hl)) h2
theorem done_come {h : House} {c : List Str} {many : Int} (hc : ∀ x ∈ c, Comes h x) (hb : ∀ x ∈ h.1, x ∈ c) (hn : c.Nodup) (hp : c.Pairwise (fun a b => leS a b = true)) (hm : ¬ many < c.length)
    (hw : many = -1 ∨ ∃ c0 : List Str, c0.Nodup ∧ (c0.length : Int) = many ∧ (∀ x ∈ c0, x ∈ c) ∧ ∀ x ∈ newKeys c0 h.2, x ∈ c) : IsCome h c := by
  rcases hw with rfl | ⟨c0, h1, h2, h3, h4⟩
  · omega
  · have hb' := nodup_back h1 hn h3 (by omega)
    exact isCome_of hc hb (fun r hr hl k hk => h4 k (mem_newKeys.mpr ⟨r, hr, fun l hl' => hb' l (hl l hl'), hk⟩)) hn hp

theorem getMap {α : Type} {f : α → PyData} {xs : List α} {i : Nat} {d : PyData} (h : (xs.map f)[i]? = some d) : ∃ x, xs[i]? = some x ∧ f x = d := by
  rw [List.getElem?_map] at h
  cases e : xs[i]? with
  | none => rw [e] at h; cases h
  | some x => rw [e] at h; exact ⟨x, rfl, by injection h⟩
theorem roomSz {h : House} {r : Room'} {i : Nat} (s : Small h) (hr : h.2[i]? = some r) : r.1.length ≤ sizeLine := by
  have := (s.good.rooms r (List.mem_of_getElem? hr)).2.2.2.1
  exact sz100 (by omega)
theorem extSz {h : House} {r : Room'} {i : Nat} {c : List Str} (s : Small h) (cl : c.length ≤ 2000) (hr : h.2[i]? = some r) : ((c ++ newKeys c (h.2.take i)).map V.str).length + (r.2.map PyData.str).length ≤ sizeLine := by
  have h1 := newKeys_len c (h.2.take i)
  have h2 := take_keys (rs := h.2) i
  have h3 := s.k
  have h4 := s.good.each r (List.mem_of_getElem? hr)
  rw [List.length_map, List.length_map, List.length_append]
  exact Nat.le_trans (show _ ≤ 200000 by omega) (by decide)
theorem comeSz {h : House} {c : List Str} (s : Small h) (cl : c.length ≤ 2000) : (c ++ newKeys c h.2).length ≤ 4000 := by
  have := newKeys_len c h.2
  have := s.k
  rw [List.length_append]; omega
end Kr

/-! layer KrV -/
namespace Kr
open PySem L2
/-! ## ints in lists -/
theorem inV_ints (x : Int) : ∀ xs : List Int, inV (.int x) (xs.map V.int) = decide (x ∈ xs)
  | [] => rfl
  | y :: ys => by
    have ih := inV_ints x ys
    unfold inV at ih ⊢
    rw [List.map_cons, List.any_cons, ih]
    show ((y == x) || decide (x ∈ ys)) = _
    by_cases h : y = x
    · subst h; simp
    · have h' : x ≠ y := fun e => h e.symm
      simp [h, h']
theorem flat_ints (xs : List Int) : (xs.map V.int).all flatV = true := by
  rw [List.all_map, List.all_eq_true]
  intro x _; rfl
theorem ints_unique : ∀ {xs ys : List Int}, xs.Perm ys → xs.Pairwise (· ≤ ·) → ys.Pairwise (· ≤ ·) → xs = ys
  | [], ys, p, _, _ => (List.nil_perm.mp p).symm
  | x :: xs, [], p, _, _ => by simpa using p.length_eq
  | x :: xs, y :: ys, p, h1, h2 => by
    have e : x = y := by
      have hx : x ∈ y :: ys := p.mem_iff.mp List.mem_cons_self
      have hy : y ∈ x :: xs := p.mem_iff.mpr List.mem_cons_self
      rcases List.mem_cons.mp hx with e | hx
      · exact e
      rcases List.mem_cons.mp hy with e | hy
      · exact e.symm
      exact Int.le_antisymm (List.rel_of_pairwise_cons h1 hy) (List.rel_of_pairwise_cons h2 hx)
    subst e
    rw [ints_unique ((List.perm_cons x).mp p) h1.of_cons h2.of_cons]
def srtI (xs : List Int) : List Int := xs.mergeSort fun a b => decide (a ≤ b)
theorem srtI_perm (xs : List Int) : (srtI xs).Perm xs := List.mergeSort_perm _ _
theorem srtI_sorted (xs : List Int) : (srtI xs).Pairwise (· ≤ ·) := by
  have := List.pairwise_mergeSort (le := fun a b : Int => decide (a ≤ b)) (fun a b c h1 h2 => by simp only [decide_eq_true_eq] at *; omega) (fun a b => by simp only [Bool.or_eq_true, decide_eq_true_eq]; omega) xs
  exact this.imp fun h => of_decide_eq_true h
section
variable {X : Cx} {σ : St} {F H : Hp} {e a b o : Expr} {pos p apos p2 : Pos} {x : Int} {xs : List Int}
theorem c_notInI (ha : DE X a σ F H (.int x)) (hb : DE X b σ F H (.list (xs.map .int))) (hm : behindInMarks .NotIn b = false := by rfl) : DC X .NotIn a b σ F H (!decide (x ∈ xs)) :=
  c_cmp op_notIn_seq hm ha hb fun x' y' F1 H1 g1 hx hy Q q => by
    obtain rfl : x' = .int x := hx
    obtain ⟨l, vs, rfl, h1, h2⟩ := hy
    obtain rfl := h2.ints
    exact ⟨l, _, rfl, .inl (SqL.of (g1.fh _ _ h1)), rfl, flat_ints _, q _ F1 H1 (.refl g1.fh) (by rw [inV_ints]; rfl)⟩
theorem c_inI (ha : DE X a σ F H (.int x)) (hb : DE X b σ F H (.list (xs.map .int))) (hm : behindInMarks .In b = false := by rfl) : DC X .In a b σ F H (decide (x ∈ xs)) :=
  c_cmp op_in_seq hm ha hb fun x' y' F1 H1 g1 hx hy Q q => by
    obtain rfl : x' = .int x := hx
    obtain ⟨l, vs, rfl, h1, h2⟩ := hy
    obtain rfl := h2.ints
    exact ⟨l, _, rfl, .inl (SqL.of (g1.fh _ _ h1)), rfl, flat_ints _, q _ F1 H1 (.refl g1.fh) (by rw [inV_ints]; rfl)⟩
theorem de_sortedI (hm : X.mg "sorted" = none) (ha : DE X e σ F H (.list (xs.map .int))) (hg : Gl X "sorted" := by rfl) (l : Pl X e [] pos := by exact ⟨rfl, rfl⟩) : DE X (.Call (.Name "sorted" p) [e] [] pos) σ F H (.list ((srtI xs).map .int)) :=
  de_callB cr_sortedI hg hm (by decide +kernel) (dl_cons ha dl_nil l.he) (fun vs F1 H1 g1 hv Q q => by
    obtain ⟨v, rfl, a, ys, rfl, h1, h2⟩ := daAll1 hv
    obtain rfl := h2.ints
    refine ⟨_, xs, rfl, SqL.of (g1.fh _ _ h1), fun ns l hp hs hl => ?_⟩
    have := ints_unique (hp.trans (srtI_perm xs).symm) hs (srtI_sorted xs)
    subst this
    exact q _ (upd F1 l (.lst _)) _ ((Gr.refl g1.fh).shut hl) ⟨l, _, rfl, upd_same, daAll_ints _⟩) ⟨by decide, by decide⟩ l
theorem de_intB {bb : Bool} (hm : X.mg "int" = none) (ha : DE X e σ F H (.bool bb)) (hg : Gl X "int" := by rfl) (l : Pl X e [] pos := by exact ⟨rfl, rfl⟩) : DE X (.Call (.Name "int" p) [e] [] pos) σ F H (.int (if bb then 1 else 0)) :=
  de_callTy call_int1 hg hm (by decide +kernel) (dl_cons ha dl_nil l.he) (fun vs F1 H1 g1 hv Q q => by
    obtain ⟨v, rfl, hd⟩ := daAll1 hv
    obtain rfl : v = .bl bb := hd
    exact .inr ⟨bb, rfl, q _ F1 H1 (.refl g1.fh) rfl⟩) ⟨by decide, by decide⟩ l
end
/-! ## a sign, some times -/
def repS (x : Str) (n : Int) : Str := if n = 1 then x else ⟨(List.replicate n.toNat x.cps).foldl (· ++ ·) #[]⟩
theorem op_repS {X : Cx} : OpR X (binaryOp .Mult) (fun x y H Q => ∃ z n, x = V.str z ∧ y = V.int n ∧ 1 ≤ n ∧ n ≤ 1000 ∧ z.length = 1 ∧ Q (.str (repS z n)) H) := by
  intro pins s σ H x y v u Q I rx ry h
  obtain ⟨z, n, rfl, rfl, h1, h2, hz, q⟩ := h
  obtain ⟨t, rfl⟩ := rx
  obtain ⟨t', rfl⟩ := ry
  have hl : PySem.Builtin.Str.tooLong (z.length * n.toNat) = false := by
    rw [hz, Nat.one_mul]
    unfold PySem.Builtin.Str.tooLong
    simp only [decide_eq_false_iff_not]
    have : sizeLine = 16777216 := by decide
    omega
  refine PySem.P.mul_str (by rw [decide_eq_false (by omega), decide_eq_false (by omega)]; rfl) (fun _ _ => by
    rw [hz]
    have : (1 : Int) ≤ (2 ^ 63 - 1) / n := Int.le_ediv_of_mul_le (by omega) (by omega)
    show ¬ ((1 : Nat) : Int) > _
    omega) (fun _ _ => hl) ?_
  rw [if_neg (by omega)]
  unfold repS at q
  by_cases hn : n = 1
  · subst hn
    rw [if_pos rfl] at q
    rw [if_pos (by rfl)]
    exact ⟨.str z, H, I, ⟨_, rfl⟩, q⟩
  · rw [if_neg hn] at q
    rw [if_neg (by simp [hn, hz])]
    exact ⟨PySem.fits_reps hl, .str _, H, I.tok _, ⟨_, rfl⟩, q⟩
theorem de_repS {X : Cx} {σ : St} {F H : Hp} {a b : Expr} {pos : Pos} {z : Str} {n : Int} (ha : DE X a σ F H (.str z)) (hb : DE X b σ F H (.int n)) (h1 : 1 ≤ n) (h2 : n ≤ 1000) (hz : z.length = 1) : DE X (.BinOp a .Mult b pos) σ F H (.str (repS z n)) :=
  de_op op_repS ha hb fun x y F1 H1 g1 hx hy Q q => ⟨z, n, hx, hy, h1, h2, hz, q _ F1 H1 (.refl g1.fh) rfl⟩
/-! ## the come of a house, as the law takes it -/
structure LC (h : House) (c : List Str) (R : List Int) : Prop where
  hc : ∀ x ∈ c, Comes h x
  hb : ∀ x ∈ h.1, x ∈ c
  nd : c.Nodup
  st : c.Pairwise (fun a b => leS a b = true)
  rn : R.Nodup
  rr : ∀ i ∈ R, ∃ j : Nat, i = j ∧ j < h.2.length
  rk : ∀ j : Nat, (j : Int) ∈ R → ∀ r, h.2[j]? = some r → (∀ l ∈ r.1, l ∈ c) ∧ ∀ k ∈ r.2, k ∈ c
theorem LC.start (h : House) : LC h (kset h.1) [] := ⟨fun x hx => .begin' (mem_kset.mp hx), fun x hx => mem_kset.mpr hx, kset_nodup _, kset_sorted _, List.nodup_nil, (fun _ h => nomatch h), (fun _ h => nomatch h)⟩
theorem LC.step {h : House} {c : List Str} {R : List Int} {j : Nat} {r : Room'} (L : LC h c R) (hr : h.2[j]? = some r) (hj : (j : Int) ∉ R) (hl : ∀ l ∈ r.1, l ∈ c) : LC h (kset (c ++ r.2)) (R ++ [(j : Int)]) := by
  have sub : ∀ x ∈ c, x ∈ kset (c ++ r.2) := fun x hx => mem_kset.mpr (List.mem_append_left _ hx)
  refine ⟨fun x hx => ?_, fun x hx => sub x (L.hb x hx), kset_nodup _, kset_sorted _, ?_, fun i hi => ?_, fun k hk s hs => ?_⟩
  · rcases List.mem_append.mp (mem_kset.mp hx) with hx | hx
    · exact L.hc x hx
    · exact .room (List.mem_of_getElem? hr) (fun l hl' => L.hc l (hl l hl')) hx
  · exact List.nodup_append.mpr ⟨L.rn, List.nodup_cons.mpr ⟨(fun h => nomatch h), List.nodup_nil⟩, fun a ha b hb e => by
      rw [List.mem_singleton] at hb
      subst hb; subst e
      exact hj ha⟩
  · rcases List.mem_append.mp hi with hi | hi
    · exact L.rr i hi
    · rw [List.mem_singleton] at hi
      exact ⟨j, hi, (List.getElem?_eq_some_iff.mp hr).1⟩
  · rcases List.mem_append.mp hk with hk | hk
    · obtain ⟨h1, h2⟩ := L.rk k hk s hs
      exact ⟨fun l hl => sub l (h1 l hl), fun l hl => sub l (h2 l hl)⟩
    · rw [List.mem_singleton] at hk
      have : k = j := by omega
      subst this
      rw [hr] at hs
      injection hs with hs
      subst hs
      exact ⟨fun l hl' => sub l (hl l hl'), fun l hl' => mem_kset.mpr (List.mem_append_right _ hl')⟩
theorem LC.len {h : House} {c : List Str} {R : List Int} (L : LC h c R) : R.length ≤ h.2.length := by
  have := subset_length (ks := (List.range h.2.length).map fun j : Nat => (j : Int)) L.rn fun i hi => by
    obtain ⟨j, rfl, hj⟩ := L.rr i hi
    exact List.mem_map.mpr ⟨j, List.mem_range.mpr hj, rfl⟩
  simpa using this
def IsOpen (h : House) (R : List Int) : Prop := R.Pairwise (· ≤ ·) ∧ R.Nodup ∧ ∀ i : Int, i ∈ R ↔ ∃ j : Nat, i = j ∧ ∃ r, h.2[j]? = some r ∧ ∀ l ∈ r.1, Comes h l
theorem LC.done {h : House} {c : List Str} {R : List Int} (L : LC h c R) (hd : ∀ (j : Nat) r, h.2[j]? = some r → (j : Int) ∈ R ∨ ¬ ∀ l ∈ r.1, l ∈ c) : IsCome h c ∧ IsOpen h (srtI R) := by
  have C : IsCome h c := isCome_of L.hc L.hb (fun r hr hl k hk => by
    obtain ⟨j, hj⟩ := List.getElem?_of_mem hr
    rcases hd j r hj with h1 | h1
    · exact (L.rk j h1 r hj).2 k hk
    · exact absurd hl h1) L.nd L.st
  refine ⟨C, srtI_sorted _, (srtI_perm R).nodup_iff.mpr L.rn, fun i => ?_⟩
  rw [(srtI_perm R).mem_iff]
  constructor
  · intro hi
    obtain ⟨j, rfl, hj⟩ := L.rr i hi
    exact ⟨j, rfl, h.2[j], List.getElem?_eq_getElem hj, fun l hl => L.hc l ((L.rk j hi _ (List.getElem?_eq_getElem hj)).1 l hl)⟩
  · rintro ⟨j, rfl, r, hr, hl⟩
    rcases hd j r hr with h1 | h1
    · exact h1
    · exact absurd (fun l hl' => (C.1 l).mpr (hl l hl')) h1
theorem lenSz {h : House} {R : List Int} (hR : R.length ≤ h.2.length) (s : Small h) : (R.map V.int).length < sizeLine := by
  have := s.r
  rw [List.length_map]
  have : sizeLine = 16777216 := by decide
  omega
theorem one_le {r : Room'} : ∀ {rs : List Room'}, r ∈ rs → r.2.length ≤ keysIn rs
  | x :: rs, h => by
    have e : keysIn (x :: rs) = x.2.length + keysIn rs := by unfold keysIn; rw [List.map_cons, List.sum_cons]
    rcases List.mem_cons.mp h with rfl | h
    · omega
    · have := one_le h
      omega
theorem addSz {h : House} {r : Room'} {i : Nat} {c : List Str} (s : Small h) (cl : c.length ≤ 2000) (hr : h.2[i]? = some r) : (c ++ r.2).length ≤ 4000 := by
  have := one_le (List.mem_of_getElem? hr)
  have := s.k
  rw [List.length_append]; omega
theorem addSz2 {h : House} {r : Room'} {i : Nat} {c : List Str} (s : Small h) (cl : c.length ≤ 2000) (hr : h.2[i]? = some r) : (c.map PyData.str).length + (r.2.map PyData.str).length ≤ sizeLine := by
  have := one_le (List.mem_of_getElem? hr)
  have := s.k
  rw [List.length_map, List.length_map]
  exact sz100 (by omega)
end Kr

/-! layer KrW -/
namespace Kr
open PySem L2
theorem flat_ones {α : Type} (x : α) : ∀ n : Nat, (List.replicate n [x]).flatten = List.replicate n x
  | 0 => rfl
  | n + 1 => by rw [List.replicate_succ, List.flatten_cons, List.replicate_succ, flat_ones x n]; rfl
theorem seqIx {i : Int} {n : Nat} (h0 : 0 ≤ i) (hi : i.toNat < n) : seqIndex? i n = some i.toNat := by
  have hn : ¬ i < 0 := by omega
  have hb : (decide (0 ≤ i) && decide (i < (n : Int))) = true := by
    simp only [Bool.and_eq_true, decide_eq_true_eq]
    omega
  unfold seqIndex?
  simp only [hn, if_false, hb, if_true]
section
variable {p : Addr} {c c1 c2 : Nat} {X : Cx} {σ : St} {F H : Hp} {e a b o : Expr} {pos q cpos apos lp : Pos} {R : PyData → Prop}
/-! ## more that draws -/
theorem px_lst1 {A : PyData → Prop} (ha : Px p c X a σ F A) (l1 : starEach [a] X.env = [(false, eval a X.env)] := by rfl) : Px p c X (.List [a] pos) σ F (fun d => ∃ x, d = .list [x] ∧ A x) := fun n F1 H1 s1 s2 f P hn Q k =>
  we_of (pe_lst (pa_cons pe_we pa_nil l1)) (ha n F1 H1 s1 s2 f P hn _ fun d v F2 H2 g2 P2 hv hA => by
    refine ⟨by show 1 ≤ sizeLine; decide, fun l hl => ?_⟩
    have hp : H1 p ≠ none := by obtain ⟨o, ho⟩ := P.some; rw [ho]; exact fun z => nomatch z
    have hlp : l ≠ p := fun z => by subst z; exact g2.at' hp hl
    refine k (.list [d]) (.ref l) (upd F2 l (.lst [v])) _ (g2.shut hl hp) ?_ ⟨l, _, rfl, upd_same, daAll_cons (hv.mono (same_upd (g2.fh.free hl))) daAll_nil⟩ ⟨d, rfl, hA⟩
    obtain ⟨c, m, t, h, h1, h2, h3⟩ := P2
    exact ⟨c, m, t, by rw [upd_ne (fun z => hlp z.symm)]; exact h, h1, h2, h3⟩)
theorem px_catL {A B : List PyData → Prop} (ha : Px p c1 X a σ F (fun d => ∃ xs, d = .list xs ∧ A xs)) (hb : Px p c2 X b σ F (fun d => ∃ ys, d = .list ys ∧ B ys)) (hz : ∀ xs ys, A xs → B ys → xs.length + ys.length ≤ 100000) : Px p (c1 + c2) X (.BinOp a .Add b pos) σ F (fun d => ∃ xs ys, d = .list (xs ++ ys) ∧ A xs ∧ B ys) :=
  px_op op_cat ha hb fun d1 d2 x y F1 H1 s1 s2 ⟨xs, e1, hA⟩ ⟨ys, e2, hB⟩ hx hy Q k => by
    subst e1 e2
    obtain ⟨l, us, rfl, h1, h2⟩ := hx
    obtain ⟨m, ws, rfl, h3, h4⟩ := hy
    refine ⟨l, m, us, ws, rfl, rfl, s2 _ _ h1, s2 _ _ h3, by rw [h2.length, h4.length]; exact sz100 (hz xs ys hA hB), fun r hr => ?_⟩
    exact k (.list (xs ++ ys)) (.ref r) (upd F1 r (.lst (us ++ ws))) _ ((Gr.refl s2).shut hr) ⟨r, _, rfl, upd_same, (h2.append h4).mono (same_upd (s2.free hr))⟩ ⟨xs, ys, rfl, hA, hB⟩
theorem px_repL {A : PyData → Prop} {B : Nat → Prop} (ha : Px p c1 X a σ F (fun d => ∃ x, d = .list [x] ∧ A x)) (hb : Px p c2 X b σ F (fun d => ∃ n : Nat, d = .int n ∧ n ≤ 100000 ∧ B n)) : Px p (c1 + c2) X (.BinOp a .Mult b pos) σ F (fun d => ∃ (n : Nat) (x : PyData), d = .list (List.replicate n x) ∧ A x ∧ B n) :=
  px_op op_rep ha hb fun d1 d2 x y F1 H1 s1 s2 ⟨x0, e1, hA⟩ ⟨n, e2, hn, hB⟩ hx hy Q k => by
    subst e1 e2
    obtain ⟨l, us, rfl, h1, h2⟩ := hx
    have e := flat_ones x0 n
    have hu : us.length = 1 := h2.length
    refine ⟨l, n, us, rfl, hy, s2 _ _ h1, by omega, by omega, by rw [hu, Nat.one_mul, Int.toNat_natCast]; exact sz100 hn, fun r hr => ?_⟩
    have da := daAll_rep h2 n
    rw [e] at da
    rw [Int.toNat_natCast]
    exact k (.list (List.replicate n x0)) (.ref r) (upd F1 r (.lst _)) _ ((Gr.refl s2).shut hr) ⟨r, _, rfl, upd_same, da.mono (same_upd (s2.free hr))⟩ ⟨n, x0, rfl, hA, hB⟩
theorem px_intB (hm : X.mg "int" = none) (ha : Px p c X e σ F (fun d => ∃ bb : Bool, d = .bool bb)) (hg : Gl X "int" := by rfl) (l : Pl X e [] pos := by exact ⟨rfl, rfl⟩) : Px p c X (.Call (.Name "int" q) [e] [] pos) σ F (fun d => ∃ n : Nat, d = .int n ∧ n ≤ 100000 ∧ n ≤ 1) := fun n F1 H1 s1 s2 f P hn Q k =>
  we_of (pe_callTy call_int1 hg hm (by decide +kernel) (pa_cons pe_we pa_nil l.he) (by decide) (by decide) l.he l.hpl) (ha n F1 H1 s1 s2 f P hn _ fun d v F2 H2 g2 P2 hv hA => by
    obtain ⟨bb, rfl⟩ := hA
    obtain rfl : v = .bl bb := hv
    refine .inr ⟨bb, rfl, ?_⟩
    cases bb with
    | true => exact k (.int ((1 : Nat) : Int)) _ F2 H2 g2 P2 rfl ⟨1, rfl, by decide, by decide⟩
    | false => exact k (.int ((0 : Nat) : Int)) _ F2 H2 g2 P2 rfl ⟨0, rfl, by decide, by decide⟩)
theorem px_one {op} (h : Px p c X a σ F R) : Px p c X (.BoolOp op [a] pos) σ F R := fun n F1 H1 s1 s2 f P hn Q k => we_of (pe_one pe_we) (h n F1 H1 s1 s2 f P hn Q k)
theorem px_and {bb : Bool} (ha : DE X a σ F F (.bool bb)) (hb : bb = true → Px p c X (.BoolOp .And [b] pos) σ F (fun d => ∃ bb : Bool, d = .bool bb)) : Px p c X (.BoolOp .And [a, b] pos) σ F (fun d => ∃ bb : Bool, d = .bool bb) := fun n F1 H1 s1 s2 f P hn Q k =>
  we_of (pe_and pe_we pe_we) ((ha.f s1).at s2 fun v F2 H2 g2 hv => ⟨bb, hv, by
    cases bb with
    | true => exact iteT (hb rfl n F2 H2 (s1.trans g2.ff) g2.fh (by obtain ⟨o, ho⟩ := P.some; exact g2.f0 f ho) (P.mono g2.hh) hn _ fun d v F3 H3 g3 P3 hv hR => k d v F3 H3 (g2.gp.trans g3) P3 hv hR)
    | false => exact iteF (k (.bool false) _ F2 H2 g2.gp (P.mono g2.hh) rfl ⟨false, rfl⟩)⟩)
theorem px_eqI {j : Int} {A : Int → Prop} (ha : Px p c X a σ F (fun d => ∃ i, d = .int i ∧ A i)) (hb : DE X b σ F F (.int j)) : Px p c X (.Compare a [.Eq] [b] pos) σ F (fun d => ∃ bb : Bool, d = .bool bb) := fun n F1 H1 s1 s2 f P hn Q k =>
  we_of (pe_cmpR op_eq pe_we pe_we (nomark _)) (ha n F1 H1 s1 s2 f P hn _ fun d v F2 H2 g2 P2 hv hA => by
    obtain ⟨i, rfl, hi⟩ := hA
    obtain rfl : v = .int i := hv
    refine (hb.f (s1.trans g2.ff)).at g2.fh fun u F3 H3 g3 hu => ?_
    obtain rfl : u = .int j := hu
    exact ⟨rfl, k (.bool _) _ F3 H3 (g2.trans g3.gp) (P2.mono g3.hh) rfl ⟨_, rfl⟩⟩)
/-- o.pop(e), e drawn -/
theorem we_popX {n : Nat} {l : Addr} {xs : List V} (ho : VE X o σ F F (.ref l)) (he : Px p c X e σ F (fun d => ∃ i, d = .int i ∧ (0 : Int) ≤ i ∧ i < xs.length)) (s : Same F H) (hl : H l = some (.lst xs)) (hlp : l ≠ p) (hz : xs.length ≤ 100000) (f : F p = none) (P : Pool H p n) (hn : n + c ≤ 1000000) {Q : VK}
    (k : ∀ (i : Nat) v F2 H2, xs[i]? = some v → Gp p F H F2 H2 → Pool H2 p (n + c) → Q v (upd H2 l (.lst (xs.eraseIdx i))))
    (b : Bm X o "pop" e [] apos cpos := by exact ⟨rfl, rfl, rfl, rfl, rfl⟩) : WE X (.Call (.Attribute o "pop" apos) [e] [] cpos) σ H Q :=
  we_of (pe_bm PySem.F.plainAttrs_list PySem.F.slot_list_pop PySem.F.type_list_pop mt_popAt pe_we (pa_cons pe_we pa_nil b.hs) b.hbase b.hfew b.hline b.hs b.hplain)
    (ho.at s fun F2 H2 g2 => ⟨.inl ⟨rfl, xs, SqL.of (g2.hh _ _ hl)⟩, he n F2 H2 g2.ff g2.fh (by obtain ⟨o, ho⟩ := P.some; exact g2.f0 f ho) (P.mono g2.hh) hn _ fun d v F3 H3 g3 P3 hv hA => by
      obtain ⟨i, rfl, h0, h1⟩ := hA
      obtain rfl : v = .int i := hv
      have hi : i.toNat < xs.length := by omega
      refine ⟨l, xs, i, i.toNat, xs[i.toNat], rfl, rfl, g3.hh _ _ hlp (g2.hh _ _ hl), by omega, by omega, ?_, List.getElem?_eq_getElem hi, k i.toNat _ F3 H3 (List.getElem?_eq_getElem hi) (g2.gp.trans g3) P3⟩
      exact seqIx h0 hi⟩)
end
/-! ## y = [.. for .. in range(e)], by a word of the turn and the heap -/
theorem ws_setLcP {X : Cx} {σ : St} {F H : Hp} {e elt tg : Expr} {scope : Scope} {pos rp q spos py : Pos} {y : Str} {n : Nat} {D : Ends} (k : Nat) (own : List (Str × Nat)) (o : LcOk X scope own (.Call (.Name "range" q) [e] [] rp)) (hm : X.mg "range" = none) (he : DE X e σ F F (.int n)) (hn : n ≤ 100000) (s : Same F H)
    (h : ∀ F1 H1, Gr F H F1 H1 → ∀ L, H1 L = none → ∃ Pv : Nat → Hp → Prop, Pv 0 (upd H1 L (.lst [])) ∧ (∀ i H', i < n → Pv i H' → gB X scope tg (.int (0 + (i : Int))) (wipe σ (own.map (·.2))) H' fun σ2 H2 => wipe σ2 (own.map (·.2)) = wipe σ (own.map (·.2)) ∧ ∀ s H0 C cl fp, WE (Blk X scope s H0 C cl fp) elt σ2 H2 fun v H4 => ∃ acc, H4 L = some (.lst acc) ∧ acc.length < sizeLine ∧ Pv (i + 1) (upd H4 L (.lst (acc ++ [v])))) ∧ ∀ H', Pv n H' → D.nx (σ.set k (some (.ref L))) H')
    (hg : Gl X "range" := by rfl) (l : Pl X e [] rp := by exact ⟨rfl, rfl⟩) (hy : X.N[k]? = some y := by rfl) (hyl : X.env.scope.names.lookup y = some .local := by rfl)
    (hsw : swapsWith (.ListComp elt [⟨tg, .Call (.Name "range" q) [e] [] rp, [], 0⟩] scope pos) (some (.Name y py)) spos.line X.env = pure true := by exact sw_true rfl rfl rfl (by decide +kernel)) : WS X (.Assign [.Name y py] (.ListComp elt [⟨tg, .Call (.Name "range" q) [e] [] rp, [], 0⟩] scope pos) spos) D σ H :=
  ws_of (ps_setLc (g := gB X scope tg) (tt := tYes) (te := eB X scope elt) o.calm o.nd hy hyl hsw (pi_range1 hg hm (pa_cons pe_we pa_nil l.he) (hs := l.he)) (blkOk_by o.ok) (fun s H0 C cl fp => ⟨fun pins s' σ H v u Q I r h => h s H0 C cl fp pins s' u I r⟩) (fun _ _ _ _ _ => pts_nil) (fun s H0 C cl fp => ⟨fun pins s' σ H Q I h => h s H0 C cl fp pins s' I⟩) o.fs)
    (he.at s fun v F2 H2 g2 hv => by
      obtain rfl : v = .int n := hv
      refine ⟨n, rfl, by omega, by omega, fun L hL => ?_⟩
      obtain ⟨Pv, h0, hS, hD⟩ := h F2 H2 g2 L hL
      refine lc_range (lo := 0) (n := (n : Int).toNat) Pv h0 (fun i H' hi p => ?_) (fun H' p => ?_)
      · refine gB_mono _ _ _ _ _ ?_ (hS i H' (by omega) p)
        rintro σ2 H3 ⟨hw, hx⟩
        refine ⟨hw, ?_⟩
        unfold tYes
        dsimp only
        rw [if_pos rfl]
        exact hx
      · rw [Int.toNat_natCast] at p
        exact hD H' p)
/-! ## the chain's names -/
def nmK (k : Nat) : Str := repS ⟨#[letters.cps.toList.getD (k % 26) 0]⟩ (1 + (k : Int) / 26)
theorem nmK_kind : ∀ k : Nat, k ≤ 60 → isKind (nmK k) = true := by
  have h : ((List.range 61).all fun k => isKind (nmK k)) = true := by decide +kernel
  intro k hk
  exact List.all_eq_true.mp h k (List.mem_range.mpr (by omega))
theorem nmK_at (k : Nat) : L2.atI letters.cps.toList ((k : Int) % 26) = some (letters.cps.toList.getD (k % 26) 0) := by
  have ll : letters.cps.toList.length = 26 := by decide +kernel
  have e : (k : Int) % 26 = ((k % 26 : Nat) : Int) := by omega
  have hk : k % 26 < letters.cps.toList.length := by omega
  rw [e, List.getD_eq_getElem?_getD, List.getElem?_eq_getElem hk]
  exact atI_nat (List.getElem?_eq_getElem hk)
def nms (n : Nat) : List Str := (List.range n).map nmK
theorem nms_succ (n : Nat) : nms (n + 1) = nms n ++ [nmK n] := by unfold nms; rw [List.range_succ, List.map_append]; rfl
theorem nms_len (n : Nat) : (nms n).length = n := by unfold nms; simp
theorem nms_mem {n : Nat} {x : Str} (h : x ∈ nms n) (hn : n ≤ 61) : isKind x = true := by
  obtain ⟨k, hk, rfl⟩ := List.mem_map.mp h
  exact nmK_kind k (by have := List.mem_range.mp hk; omega)
theorem nms_at {n k : Nat} (h : k < n) : L2.atI ((nms n).map PyData.str) (k : Int) = some (.str (nmK k)) := by
  refine atI_nat ?_
  unfold nms
  rw [List.getElem?_map, List.getElem?_map, List.getElem?_range h]
  rfl
theorem nms_before {n k : Nat} (h : k < n) : ∃ x ∈ nms n, L2.atI ((nms n).map PyData.str) ((k : Int) - 1) = some (.str x) := by
  cases k with
  | zero =>
    have e : n = (n - 1) + 1 := by omega
    refine ⟨nmK (n - 1), by rw [e, nms_succ]; simp, ?_⟩
    rw [e, nms_succ, List.map_append]
    exact atI_last _ _
  | succ k =>
    refine ⟨nmK k, List.mem_map.mpr ⟨k, List.mem_range.mpr (by omega), rfl⟩, ?_⟩
    rw [show ((k + 1 : Nat) : Int) - 1 = (k : Int) by omega]
    exact nms_at (by omega)
/-- a house of a chain -/
structure ChainOf (most : Nat) (h : House) : Prop where
  good : GoodHouse h
  rooms : h.2.length ≤ most
  some : 1 ≤ h.2.length
  begin' : h.1.length ≤ 2
  each : ∀ r ∈ h.2, r.2.length ≤ 2
theorem each_sum {n : Nat} : ∀ {rs : List Room'}, (∀ r ∈ rs, r.2.length ≤ n) → keysIn rs ≤ n * rs.length
  | [], _ => Nat.zero_le _
  | r :: rs, h => by
    have e : keysIn (r :: rs) = r.2.length + keysIn rs := by unfold keysIn; rw [List.map_cons, List.sum_cons]
    have h1 := h r List.mem_cons_self
    have h2 := each_sum (n := n) (rs := rs) fun s hs => h s (List.mem_cons_of_mem _ hs)
    rw [e, List.length_cons, Nat.mul_add]
    omega
theorem ChainOf.small {most : Nat} {h : House} (c : ChainOf most h) (hm : most ≤ 100) : Small h := ⟨c.good, by have := c.begin'; omega, by have := c.rooms; omega, by
  have := each_sum c.each
  have := c.rooms
  omega⟩
theorem HouseOf.small {most tot : Nat} {h : House} (c : HouseOf most tot h) (hm : most ≤ 1000) (ht : tot ≤ 1000) : Small h := ⟨c.good, by have := c.begin'; omega, by have := c.rooms; omega, Nat.le_trans c.total ht⟩
/-- the things of vs are rooms of rs -/
def OfRooms (F : Hp) (rs : List Room') (vs : List V) : Prop := ∀ v ∈ vs, ∃ r ∈ rs, Da F (roomD r) v
theorem ofRooms {F : Hp} {rs : List Room'} {vs : List V} : OfRooms F rs vs → ∃ ss : List Room', DaAll F (ss.map roomD) vs ∧ ss.length = vs.length ∧ ∀ r ∈ ss, r ∈ rs := by
  induction vs with
  | nil => exact fun _ => ⟨[], daAll_nil, rfl, fun r h => nomatch h⟩
  | cons v vs ih =>
    intro h
    obtain ⟨ss, h1, h2, h3⟩ := ih fun v hv => h v (List.mem_cons_of_mem _ hv)
    obtain ⟨r, hr, hd⟩ := h v List.mem_cons_self
    exact ⟨r :: ss, daAll_cons hd h1, by simp [h2], fun s hs => by
      rcases List.mem_cons.mp hs with rfl | hs
      · exact hr
      · exact h3 s hs⟩
theorem daAll_of {F : Hp} : ∀ {rs : List Room'} {vs : List V}, DaAll F (rs.map roomD) vs → OfRooms F rs vs
  | [], vs, h => by obtain rfl := (show vs = [] from h); exact fun v hv => nomatch hv
  | r :: rs, vs, h => by
    obtain ⟨v, us, rfl, h1, h2⟩ := (show ∃ v us, vs = v :: us ∧ Da F (roomD r) v ∧ DaAll F (rs.map roomD) us from h)
    intro w hw
    rcases List.mem_cons.mp hw with rfl | hw
    · exact ⟨r, List.mem_cons_self, h1⟩
    · obtain ⟨s, hs, hd⟩ := daAll_of h2 w hw
      exact ⟨s, List.mem_cons_of_mem _ hs, hd⟩
/-- what a room of the chain is -/
def chainRoom (ns : List Str) (r : Room') : Prop := (∀ k ∈ r.1, k ∈ ns) ∧ (∀ k ∈ r.2, k ∈ ns) ∧ 1 ≤ r.1.length ∧ r.1.length ≤ 4 ∧ srt r.1 = r.1 ∧ r.2.length ≤ 2
theorem chainOf {ns : List Str} {rs : List Room'} {b : List Str} {most : Nat} (hk : ∀ k ∈ ns, isKind k = true) (hr : ∀ r ∈ rs, chainRoom ns r) (hb : ∀ k ∈ b, k ∈ ns) (hb2 : b.length ≤ 2) (h1 : 1 ≤ rs.length) (h2 : rs.length ≤ most) (h3 : most ≤ 1000) : ChainOf most (b, rs) :=
  ⟨⟨fun k h => hk k (hb k h), fun r h => ⟨fun k h' => hk k ((hr r h).1 k h'), fun k h' => hk k ((hr r h).2.1 k h'), (hr r h).2.2.1, (hr r h).2.2.2.1, (hr r h).2.2.2.2.1⟩, by show b.length ≤ 100000; omega, by show rs.length ≤ 100000; omega, fun r h => by have := (hr r h).2.2.2.2.2; omega⟩, h2, h1, hb2, fun r h => (hr r h).2.2.2.2.2⟩
theorem srt_srt (xs : List Str) : srt (srt xs) = srt xs := sorted_unique (srt_perm _) (srt_sorted _) (srt_sorted _)
theorem mem_rep {x y : Str} {n : Nat} {ds : List PyData} (h : ds = List.replicate n (.str x)) : ds = (List.replicate n x).map PyData.str := by rw [h, List.map_replicate]
end Kr

/-! layer KrX -/
namespace Kr
open PySem L2
theorem Gp.back' {p : Addr} {F H F1 H1 F2 : Hp} (g : Gp p F H F2 H1) (s : Same F1 F2) (s0 : Same F F1) (n : ∀ b, F b = none → H b ≠ none → F1 b = none) : Gp p F H F1 H1 := ⟨s0, s.trans g.fh, g.hh, g.at', n⟩
theorem Gp.free' {p : Addr} {F H F1 H1 : Hp} {q : Addr} (g : Gp p F H F1 H1) (hq : q ≠ p) (h : H1 q = none) : H q = none := by
  cases e : H q with
  | none => rfl
  | some o => rw [g.hh q o hq e] at h; cases h
theorem Gp.thenGr {p : Addr} {F H F1 H1 F2 H2 : Hp} (g : Gp p F H F1 H1) (g2 : Gr F1 H1 F2 H2) : Gp p F H F1 H2 := ⟨g.ff, g2.ff.trans g2.fh, fun b o n e => g2.hh _ _ (g.hh b o n e), fun n z => g.at' n (g2.hh.free z), g.new⟩
theorem Pool.mut' {p q : Addr} {H H2 : Hp} {n m : Nat} {o : HO} (P : Pool H p n) (s : Same H H2) (h : q ≠ p) (hm : n ≤ m) : Pool (upd H2 q o) p m := by
  obtain ⟨c, k, t, h0, h1, h2, h3⟩ := P
  exact ⟨c, k, t, by rw [upd_ne (fun z => h z.symm)]; exact s _ _ h0, h1, h2, by omega⟩
theorem nmsSz {i many n : Nat} (h : i < many + 1) (h1 : many ≤ n) (h2 : n ≤ 60) : ((nms i).map V.str).length < sizeLine := by
  rw [List.length_map, nms_len]
  have : sizeLine = 16777216 := by decide
  omega
theorem chainSz1 {xs ys : List PyData} {x y : PyData} (h1 : xs = [x]) (h2 : ∃ n : Nat, ys = List.replicate n y ∧ n ≤ 1) : xs.length + ys.length ≤ 100000 := by
  obtain ⟨n, rfl, hn⟩ := h2
  subst h1
  rw [List.length_replicate]
  show 1 + n ≤ 100000
  omega
theorem chainSz2 {xs ys : List PyData} {x : PyData} {ns : List Str} (h1 : ∃ n : Nat, xs = List.replicate n x ∧ n ≤ 1) (h2 : ∃ (n : Nat) (x : Str), ys = List.replicate n (.str x) ∧ x ∈ ns ∧ n ≤ 1) : xs.length + ys.length ≤ 100000 := by
  obtain ⟨n, rfl, hn⟩ := h1
  obtain ⟨k, y, rfl, _, hk⟩ := h2
  rw [List.length_replicate, List.length_replicate]
  omega
theorem chainSz3 {vs : List V} {i many n : Nat} (h : vs.length = i) (hi : i < many) (h1 : many ≤ n) (h2 : n ≤ 60) : vs.length < sizeLine := by
  have : sizeLine = 16777216 := by decide
  omega
theorem chainLocks {d : PyData} {xs ys : List PyData} {a b : Str} {ns : List Str} (e : d = .list (xs ++ ys)) (h1 : xs = [.str a]) (h2 : ∃ n : Nat, ys = List.replicate n (.str b) ∧ n ≤ 1) (ha : a ∈ ns) (hb : b ∈ ns) : ∃ zs : List Str, d = ksD zs ∧ (∀ x ∈ zs, x ∈ ns) ∧ 1 ≤ zs.length ∧ zs.length ≤ 2 := by
  obtain ⟨n, rfl, hn⟩ := h2
  subst h1
  refine ⟨a :: List.replicate n b, ?_, fun x hx => ?_, ?_, ?_⟩
  · rw [e]; unfold ksD; rw [List.map_cons, List.map_replicate]; rfl
  · rcases List.mem_cons.mp hx with rfl | hx
    · exact ha
    · rw [List.eq_of_mem_replicate hx]; exact hb
  · rw [List.length_cons]; omega
  · rw [List.length_cons, List.length_replicate]; omega
theorem chainKeys {d : PyData} {a : Str} {ns : List Str} (h : ∃ xs ys, d = .list (xs ++ ys) ∧ (∃ n : Nat, xs = List.replicate n (.str a) ∧ n ≤ 1) ∧ ∃ (n : Nat) (x : Str), ys = List.replicate n (.str x) ∧ x ∈ ns ∧ n ≤ 1) (ha : a ∈ ns) : ∃ zs : List Str, d = ksD zs ∧ (∀ x ∈ zs, x ∈ ns) ∧ zs.length ≤ 2 := by
  obtain ⟨xs, ys, rfl, ⟨n, rfl, hn⟩, k, y, rfl, hy, hk⟩ := h
  refine ⟨List.replicate n a ++ List.replicate k y, ?_, fun x hx => ?_, ?_⟩
  · unfold ksD; rw [List.map_append, List.map_replicate, List.map_replicate]
  · rcases List.mem_append.mp hx with hx | hx
    · rw [List.eq_of_mem_replicate hx]; exact ha
    · rw [List.eq_of_mem_replicate hx]; exact hy
  · rw [List.length_append, List.length_replicate, List.length_replicate]; omega
theorem chainR {ns xs ks : List Str} (h1 : ∀ x ∈ xs, x ∈ ns) (h2 : 1 ≤ xs.length) (h3 : xs.length ≤ 2) (h4 : ∀ x ∈ ks, x ∈ ns) (h5 : ks.length ≤ 2) : chainRoom ns (srt xs, ks) := by
  have hl := (srt_perm xs).length_eq
  exact ⟨fun k hk => h1 k ((srt_perm xs).mem_iff.mp hk), h4, by show 1 ≤ (srt xs).length; omega, by show (srt xs).length ≤ 4; omega, srt_srt xs, h5⟩
theorem cmul_small {many n : Nat} (h1 : many ≤ n) (h2 : n ≤ 60) : CMul 2 (many : Int) := .inl ⟨by decide, by decide⟩
theorem popSz {xs : List V} {i many n : Nat} (h : xs.length + i = many) (h1 : many ≤ n) (h2 : n ≤ 60) : xs.length ≤ 100000 := by omega
theorem accSz {ys : List V} {i many n : Nat} (h : ys.length = i) (hi : i < many) (h1 : many ≤ n) (h2 : n ≤ 60) : ys.length < sizeLine := by
  have : sizeLine = 16777216 := by decide
  omega
theorem erase_len {α : Type} {xs : List α} {j : Nat} {v : α} (h : xs[j]? = some v) : (xs.eraseIdx j).length + 1 = xs.length := by
  have := (List.getElem?_eq_some_iff.mp h).1
  rw [List.length_eraseIdx, if_pos this]
  omega
theorem popPos {ss : List Room'} {xs : List V} {i many : Nat} (h : ss.length = xs.length) (h1 : xs.length + i = many) (hi : i < many) : (0 : Int) < (ss.map roomD).length := by rw [List.length_map]; omega
theorem popLt {ss : List Room'} {xs : List V} {i many n : Nat} (h : ss.length = xs.length) (h1 : xs.length + i = many) (h2 : many ≤ n) (h3 : n ≤ 60) : ((ss.map roomD).length : Int) < 1073741824 := by rw [List.length_map]; omega
theorem popIx {ss : List Room'} {xs : List V} (h : ss.length = xs.length) (d : PyData) (hd : ∃ i, d = .int i ∧ (0 : Int) ≤ i ∧ i < (ss.map roomD).length) : ∃ i, d = .int i ∧ (0 : Int) ≤ i ∧ i < xs.length := by
  obtain ⟨i, e, h0, h1⟩ := hd
  rw [List.length_map] at h1
  exact ⟨i, e, h0, by omega⟩
/-! ## the law's own call -/
def spLaw (K : PySem.W.Frag) : Sp := fun vs H Q _ => ∃ (a : Addr) (ns : List Int), vs = [.ref a] ∧ SqL K H a (ns.map V.int) ∧ ns.length ≤ 63 ∧ ∀ H', Q (.bl true) H'
end Kr

/-! layer KrY -/
namespace Kr
open PySem L2
section
variable {X : Cx} {σ : St} {F H : Hp} {a b e : Expr} {pos p : Pos} {D : Ends} {body : List Stmt} {R A : PyData → Prop} {i : Int}
/-- an item of a new list -/
theorem we_ixNE (ha : NE X a σ F F R) (hb : DE X b σ F F (.int i)) (s : Same F H) (h : ∀ d, R d → ∃ ds d0, d = .list ds ∧ L2.atI ds i = some d0 ∧ A d0) {Q : VK} (q : ∀ d0 v F2 H2, Gr F H F2 H2 → Da F2 d0 v → A d0 → Q v H2) (hs : PlainIx b := by exact fun _ _ => rfl) : WE X (.Subscript a b pos) σ H Q :=
  we_of (pe_ix ix_list pe_we pe_we hs) (ha F H ⟨Same.refl _, s, s, fun _ e n => absurd e n⟩ _ fun d x F2 H2 g2 hx hR _ => by
    obtain ⟨ds, d0, rfl, hat, hA⟩ := h d hR
    refine (hb.f g2.ff).at g2.fh fun y F3 H3 g3 hy => ?_
    obtain ⟨l, vs, rfl, h1, h2⟩ := g3.da hx
    obtain ⟨v, hv, hd⟩ := h2.atI hat
    exact ⟨l, vs, i, v, rfl, hy, SqL.of (g3.fh _ _ h1), hv, q d0 v F3 H3 (g2.trans g3) hd hA⟩)
/-- for, over a list told by any means -/
theorem ws_forX {tg iter : Expr} (hp : PassesOwn (model X.prog X.w) X.A X.env X.xe) (hc : X.calm = true)
    (hi : WE X iter σ H fun v H1 => ∃ (F1 : Hp) (ds : List PyData), Same F1 H1 ∧ Da F1 (.list ds) v ∧ ∃ Pv : Nat → St → Hp → Hp → Prop, Pv 0 σ F1 H1 ∧ (∀ i σ' F' H', Pv i σ' F' H' → Same F1 F' ∧ Same F' H') ∧
      (∀ i d v σ' F' H', ds[i]? = some d → Pv i σ' F' H' → Da F' d v → WG X tg v σ' H' fun σ2 H2 => WSs X body { D with nx := fun σ3 H3 => ∃ F3, Pv (i + 1) σ3 F3 H3, ct := fun σ3 H3 => ∃ F3, Pv (i + 1) σ3 F3 H3, bk := D.nx } σ2 H2) ∧
      (∀ σ' F' H', Pv ds.length σ' F' H' → D.nx σ' H')) (hs : ∀ x, foldedSetIterable iter X.env x = pure x := by intro _; rfl) : WS X (.For tg iter body [] pos) D σ H :=
  ws_of (ps_for hp hc (pi_list pe_we) pg_wg pss_wss hs) (hi.imp fun v H2 ⟨F2, ds, s2, hd, Pv, h0, hF, hS, hD⟩ => by
    obtain ⟨l, xs, rfl, h1, h2⟩ := hd
    refine ⟨l, rfl, ⟨xs, SqL.of (s2 _ _ h1)⟩, fun i m σ' H' => m = ds.length - i ∧ i ≤ ds.length ∧ ∃ F', Pv i σ' F' H', ⟨ds.length, by simp, Nat.zero_le _, F2, h0⟩, ?_⟩
    rintro i m σ' H' ⟨rfl, hi', F', p⟩
    obtain ⟨s3, s4⟩ := hF _ _ _ _ p
    by_cases hlt : i < ds.length
    · have e : ds[i]? = some ds[i] := List.getElem?_eq_getElem hlt
      obtain ⟨v, hv, hdv⟩ := h2.get e
      refine .inr ⟨⟨xs, v, SqL.of (s4 _ _ (s3 _ _ h1)), hv⟩, fun σ3 H3 => ∃ F3, Pv (i + 1) σ3 F3 H3, fun σ3 H3 p' => ⟨ds.length - (i + 1), by omega, rfl, hlt, p'⟩, fun x H4 y => ?_⟩
      obtain ⟨y1, y2⟩ := y
      subst y1
      exact hS i _ x σ' F' _ e p ((getV h2 e (y2 xs (SqL.of (s4 _ _ (s3 _ _ h1))))).mono s3)
    · have e : i = ds.length := by omega
      subst e
      exact .inl ⟨⟨xs, SqL.of (s4 _ _ (s3 _ _ h1)), by rw [h2.length]; exact Nat.le_refl _⟩, hD σ' F' H' p⟩)
end
theorem small0 : Small ([], []) := ⟨⟨(fun _ h => nomatch h), (fun _ h => nomatch h), by decide, by decide, (fun _ h => nomatch h)⟩, by decide, by decide, by decide⟩
theorem come0 {c : List Str} (h : IsCome ([], []) c) : c = [] := by
  cases c with
  | nil => rfl
  | cons x c =>
    have := (h.1 x).mp List.mem_cons_self
    cases this with
    | begin' h => cases h
    | room h _ _ => cases h
theorem come_kind {h : House} {x : Str} (g : GoodHouse h) (hx : Comes h x) : isKind x = true := by
  cases hx with
  | begin' h => exact g.keys x h
  | room hr _ hk => exact (g.rooms _ hr).2.1 x hk
theorem upto12 (n : Nat) : ∃ m : Nat, max (1 : Int) (min 12 (n : Int)) = m ∧ m ≤ 12 := ⟨(max (1 : Int) (min 12 (n : Int))).toNat, by omega, by omega⟩
theorem comeLt {h : House} {c : List Str} {F : Hp} {vs : List V} (sm : Small h) (hc : IsCome h c) (hd : DaAll F (c.map .str) vs) : vs.length < sizeLine := by
  have := come_len sm (fun x hx => (hc.1 x).mp hx) hc.2.1
  rw [hd.length, List.length_map]
  have : sizeLine = 16777216 := by decide
  omega
end Kr

/-! layer KrZ -/
namespace Kr
open PySem L2
theorem perm_ints {xs ys : List Int} (h1 : xs.Nodup) (h2 : ys.Nodup) (h : ∀ x, x ∈ xs ↔ x ∈ ys) : xs.Perm ys := by
  rw [List.perm_iff_count]
  intro a
  by_cases ha : a ∈ xs
  · rw [List.nodup_iff_count] at h1 h2
    have p1 : 0 < xs.count a := List.count_pos_iff.mpr ha
    have p2 : 0 < ys.count a := List.count_pos_iff.mpr ((h a).mp ha)
    have := h1 a
    have := h2 a
    omega
  · rw [List.count_eq_zero.mpr ha, List.count_eq_zero.mpr fun hb => ha ((h a).mpr hb)]
theorem IsOpen.unique {h : House} {a b : List Int} (x : IsOpen h a) (y : IsOpen h b) : a = b := ints_unique (perm_ints x.2.1 y.2.1 fun i => (x.2.2 i).trans (y.2.2 i).symm) x.1 y.1
theorem eqvAll_ints : ∀ R : List Int, PyData.eqvAll (R.map .int) (R.map .int) = true
  | [] => by simp [PyData.eqvAll]
  | x :: R => by
    rw [List.map_cons]
    unfold PyData.eqvAll
    rw [eqvAll_ints R]
    simp [PyData.eqv]
theorem eqv_ints (R : List Int) : PyData.eqv (.list (R.map .int)) (.list (R.map .int)) = true := by
  unfold PyData.eqv
  exact eqvAll_ints R
theorem lay_ints (R : List Int) : Lay 1 (.list (R.map .int)) := lay_list fun d m => by
  obtain ⟨k, hk, rfl⟩ := List.mem_map.mp m
  exact lay_int k
/-- the rooms that could be opened, of the first i -/
def opens (c : List Str) (rs : List Room') : Nat → List Int
  | 0 => []
  | i + 1 => opens c rs i ++ (match rs[i]? with | some r => if (r.1.all fun k => decide (k ∈ c)) = true then [(i : Int)] else [] | none => [])
theorem opens_lt {c : List Str} {rs : List Room'} : ∀ {i : Nat} {x : Int}, x ∈ opens c rs i → ∃ j : Nat, x = j ∧ j < i ∧ ∃ r, rs[j]? = some r ∧ ∀ l ∈ r.1, l ∈ c
  | i + 1, x, h => by
    unfold opens at h
    rcases List.mem_append.mp h with h | h
    · obtain ⟨j, h1, h2, h3⟩ := opens_lt h
      exact ⟨j, h1, by omega, h3⟩
    · cases e : rs[i]? with
      | none => rw [e] at h; cases h
      | some r =>
        rw [e] at h
        dsimp only at h
        split at h
        · rename_i ht
          rw [List.mem_singleton] at h
          refine ⟨i, h, by omega, r, e, fun l hl => ?_⟩
          have := List.all_eq_true.mp ht l hl
          exact of_decide_eq_true this
        · cases h
theorem opens_mem {c : List Str} {rs : List Room'} {j : Nat} {r : Room'} (hr : rs[j]? = some r) (hl : ∀ l ∈ r.1, l ∈ c) : ∀ {i : Nat}, j < i → (j : Int) ∈ opens c rs i
  | i + 1, h => by
    unfold opens
    by_cases e : j = i
    · subst e
      rw [hr]
      dsimp only
      rw [if_pos (List.all_eq_true.mpr fun l hl' => decide_eq_true (hl l hl'))]
      exact List.mem_append_right _ (List.mem_singleton.mpr rfl)
    · exact List.mem_append_left _ (opens_mem hr hl (by omega))
theorem opens_sorted {c : List Str} {rs : List Room'} : ∀ i : Nat, (opens c rs i).Pairwise (· < ·)
  | 0 => List.Pairwise.nil
  | i + 1 => by
    unfold opens
    refine List.pairwise_append.mpr ⟨opens_sorted i, ?_, fun a ha b hb => ?_⟩
    · split
      · split
        · exact List.pairwise_singleton _ _
        · exact List.Pairwise.nil
      · exact List.Pairwise.nil
    · obtain ⟨j, rfl, hj, _⟩ := opens_lt ha
      split at hb
      · split at hb
        · rw [List.mem_singleton] at hb; omega
        · cases hb
      · cases hb
theorem isOpen_of {h : House} {c : List Str} (hc : IsCome h c) : IsOpen h (opens c h.2 h.2.length) := by
  refine ⟨(opens_sorted _).imp fun h => Int.le_of_lt h, (opens_sorted _).imp fun h e => absurd (e ▸ h) (Int.lt_irrefl _), fun i => ⟨fun hi => ?_, fun hi => ?_⟩⟩
  · obtain ⟨j, e, _, r, hr, hl⟩ := opens_lt hi
    exact ⟨j, e, r, hr, fun l hl' => (hc.1 l).mp (hl l hl')⟩
  · obtain ⟨j, rfl, r, hr, hl⟩ := hi
    exact opens_mem hr (fun l hl' => (hc.1 l).mpr (hl l hl')) (List.getElem?_eq_some_iff.mp hr).1
theorem opens_snoc {c : List Str} {rs : List Room'} {i : Nat} {r : Room'} (hr : rs[i]? = some r) : opens c rs (i + 1) = opens c rs i ++ (if (r.1.all fun k => decide (k ∈ c)) = true then [(i : Int)] else []) := by
  show _ ++ _ = _
  rw [hr]
theorem opens_len {c : List Str} {rs : List Room'} : ∀ i : Nat, (opens c rs i).length ≤ i
  | 0 => Nat.le_refl _
  | i + 1 => by
    have ih := opens_len (c := c) (rs := rs) i
    unfold opens
    rw [List.length_append]
    split
    · split
      · simp only [List.length_cons, List.length_nil]; omega
      · simp only [List.length_nil]; omega
    · simp only [List.length_nil]; omega
theorem open0 {R : List Int} (h : IsOpen ([], []) R) : R = [] := by
  cases R with
  | nil => rfl
  | cons x R =>
    obtain ⟨j, _, r, hr, _⟩ := (h.2.2 x).mp List.mem_cons_self
    simp at hr
theorem opensSz {h : House} {c : List Str} {i : Nat} {d : Room'} (s : Small h) (hr : h.2[i]? = some d) : ((opens c h.2 i).map V.int).length < sizeLine := by
  have h1 := opens_len (c := c) (rs := h.2) i
  have h2 := (List.getElem?_eq_some_iff.mp hr).1
  have h3 := s.r
  rw [List.length_map]
  have : sizeLine = 16777216 := by decide
  omega
theorem openLen {h : House} {R : List Int} (s : Small h) (hR : IsOpen h R) : R.length ≤ 1000 := by
  have := subset_length (ks := (List.range h.2.length).map fun j : Nat => (j : Int)) hR.2.1 fun i hi => by
    obtain ⟨j, rfl, r, hr, _⟩ := (hR.2.2 i).mp hi
    exact List.mem_map.mpr ⟨j, List.mem_range.mpr (List.getElem?_eq_some_iff.mp hr).1, rfl⟩
  rw [List.length_map, List.length_range] at this
  exact Nat.le_trans this s.r
theorem openLt {h : House} {R : List Int} {F : Hp} {vs : List V} (s : Small h) (hR : IsOpen h R) (hd : DaAll F (R.map .int) vs) : vs.length < sizeLine := by
  have := openLen s hR
  rw [hd.length, List.length_map]
  have : sizeLine = 16777216 := by decide
  omega
theorem none_of {α : Type} (xs : List α) (h : α → PyData) : PyData.list ((xs.filter fun _ => false).map h) = .list [] := by
  rw [List.filter_eq_nil_iff.mpr (fun _ _ => Bool.false_ne_true)]
  rfl
end Kr

/-! layer KrB -/
namespace Kr
open PySem L2
/-! ## slices of lists -/
section
variable {X : Cx} {σ : St} {F H : Hp} {e a b : Expr} {pos p p2 : Pos} {ds : List PyData} {n : Nat}
theorem de_slLHi (he : DE X e σ F H (.list ds)) (hh : DE X b σ F H (.int (n : Int))) : DE X (.Subscript e (.Slice none (some b) none p2) pos) σ F H (.list (ds.take n)) := fun F1 H1 g Q q =>
  we_of (pe_slice sl_list pe_we po_none (po_some pe_we)) (he F1 H1 g _ fun v F2 H2 g2 hv => hh F2 H2 (g.trans g2) _ fun u F3 H3 g3 hu => ⟨n, hu, by
    obtain ⟨l, vs, rfl, h1, h2⟩ := g3.da hv
    refine ⟨l, vs, rfl, SqL.of (g3.fh _ _ h1), fun r hr => ?_⟩
    have e : cutV vs none (some (n : Int)) = vs.take n := by
      unfold cutV
      show (vs.drop 0).take (HT.sIx vs.length vs.length (some (n : Int)) - 0) = _
      have : HT.sIx vs.length vs.length (some (n : Int)) = min n vs.length := by
        unfold HT.sIx
        dsimp only
        rw [if_neg (by omega), Int.toNat_natCast]
      rw [this, List.drop_zero, Nat.sub_zero]
      by_cases hn : n ≤ vs.length
      · rw [Nat.min_eq_left hn]
      · rw [Nat.min_eq_right (by omega), List.take_length, List.take_of_length_le (by omega)]
    rw [e]
    exact q (.ref r) (upd F3 r (.lst (vs.take n))) _ ((g2.trans g3).shut hr) ⟨r, _, rfl, upd_same, (h2.take n).mono (same_upd (g3.fh.free hr))⟩⟩)
theorem de_slLLo (he : DE X e σ F H (.list ds)) (hh : DE X b σ F H (.int (n : Int))) : DE X (.Subscript e (.Slice (some b) none none p2) pos) σ F H (.list (ds.drop n)) := fun F1 H1 g Q q =>
  we_of (pe_slice sl_list pe_we (po_some pe_we) po_none) (he F1 H1 g _ fun v F2 H2 g2 hv => hh F2 H2 (g.trans g2) _ fun u F3 H3 g3 hu => ⟨n, hu, by
    obtain ⟨l, vs, rfl, h1, h2⟩ := g3.da hv
    refine ⟨l, vs, rfl, SqL.of (g3.fh _ _ h1), fun r hr => ?_⟩
    have e : cutV vs (some (n : Int)) none = vs.drop n := by
      unfold cutV
      have : HT.sIx vs.length 0 (some (n : Int)) = min n vs.length := by
        unfold HT.sIx
        dsimp only
        rw [if_neg (by omega), Int.toNat_natCast]
      rw [this]
      show (vs.drop (min n vs.length)).take (vs.length - min n vs.length) = _
      rw [List.take_of_length_le (by rw [List.length_drop]; exact Nat.le_refl _)]
      by_cases hn : n ≤ vs.length
      · rw [Nat.min_eq_left hn]
      · rw [Nat.min_eq_right (by omega), List.drop_length, List.drop_of_length_le (by omega)]
    rw [e]
    exact q (.ref r) (upd F3 r (.lst (vs.drop n))) _ ((g2.trans g3).shut hr) ⟨r, _, rfl, upd_same, (h2.drop n).mono (same_upd (g3.fh.free hr))⟩⟩)
theorem pxt_notTrue {p : Addr} {c : Nat} (h : Px p c X e σ F (fun d => d = .bool true)) (he : ∀ whole, isTrue e X.env whole = (do let v ← whole; standAt e.pos; holding [v] (truthy v)) := by intro _; rfl) : PxT p c X (.UnaryOp .Not e pos) σ F (fun b => b = false) := fun n F1 H1 s1 s2 f P hn Q k =>
  wt_of (pt_not (pt_val pe_we he)) (h n F1 H1 s1 s2 f P hn _ fun d v F2 H2 g2 P2 hv hd => by
    subst hd
    exact ⟨true, hv, k false F2 H2 g2 P2 rfl⟩)
end
/-! ## plain facts of what comes -/
theorem comes_mono {g h : House} (h1 : ∀ k ∈ g.1, Comes h k) (h2 : ∀ r ∈ g.2, ∃ s ∈ h.2, (∀ l ∈ s.1, l ∈ r.1) ∧ ∀ k ∈ r.2, k ∈ s.2) {x : Str} (hx : Comes g x) : Comes h x := by
  induction hx with
  | begin' hb => exact h1 _ hb
  | room hr _ hk ih =>
    obtain ⟨s, hs, hl, hk'⟩ := h2 _ hr
    exact .room hs (fun l hl' => ih l (hl l hl')) (hk' _ hk)
def twice (h : House) : House := (h.1 ++ h.1, h.2.map fun r => (kset r.1, r.2 ++ r.2))
theorem comes_twice {h : House} {x : Str} : Comes (twice h) x ↔ Comes h x := by
  constructor
  · refine comes_mono (fun k hk => .begin' ?_) fun r hr => ?_
    · rcases List.mem_append.mp hk with h | h <;> exact h
    · obtain ⟨s, hs, rfl⟩ := List.mem_map.mp hr
      exact ⟨s, hs, fun l hl => mem_kset.mpr hl, fun k hk => by rcases List.mem_append.mp hk with h | h <;> exact h⟩
  · refine comes_mono (fun k hk => .begin' (List.mem_append_left _ hk)) fun r hr => ⟨_, List.mem_map.mpr ⟨r, hr, rfl⟩, fun l hl => mem_kset.mp hl, fun k hk => List.mem_append_left _ hk⟩
theorem IsCome.twice {h : House} {c : List Str} (hc : IsCome h c) : IsCome (twice h) c := ⟨fun x => (hc.1 x).trans comes_twice.symm, hc.2⟩
theorem IsOpen.twice {h : House} {R : List Int} (hR : IsOpen h R) : IsOpen (twice h) R := by
  refine ⟨hR.1, hR.2.1, fun i => (hR.2.2 i).trans ⟨fun ⟨j, e, r, hr, hl⟩ => ?_, fun ⟨j, e, r, hr, hl⟩ => ?_⟩⟩
  · exact ⟨j, e, (kset r.1, r.2 ++ r.2), by show (h.2.map _)[j]? = _; rw [List.getElem?_map, hr]; rfl, fun l hl' => comes_twice.mpr (hl l (mem_kset.mp hl'))⟩
  · have hr : (h.2.map fun r => (kset r.1, r.2 ++ r.2))[j]? = some r := hr
    rw [List.getElem?_map] at hr
    cases e2 : h.2[j]? with
    | none => rw [e2] at hr; cases hr
    | some s =>
      rw [e2] at hr
      injection hr with hr
      subst hr
      exact ⟨j, e, s, e2, fun l hl' => comes_twice.mp (hl l (mem_kset.mpr hl'))⟩
theorem kset_of_mem {xs c : List Str} (h : ∀ x, x ∈ xs ↔ x ∈ c) (h1 : c.Nodup) (h2 : c.Pairwise (fun a b => leS a b = true)) : kset xs = c := sorted_unique (perm_of_nodup (kset_nodup _) h1 fun x => mem_kset.trans (h x)) (kset_sorted _) h2
theorem IsCome.self {h : House} {c : List Str} (hc : IsCome h c) : IsCome (c, h.2) c := by
  refine ⟨fun x => ⟨fun hx => .begin' hx, fun hx => (hc.1 x).mpr ?_⟩, hc.2⟩
  exact comes_mono (g := (c, h.2)) (h := h) (fun k hk => (hc.1 k).mp hk) (fun r hr => ⟨r, hr, fun _ h => h, fun _ h => h⟩) hx
theorem isCome_begin (b : List Str) : IsCome (b, []) (kset b) := by
  refine ⟨fun x => ⟨fun hx => .begin' (mem_kset.mp hx), fun hx => ?_⟩, kset_nodup _, kset_sorted _⟩
  cases hx with
  | begin' h => exact mem_kset.mpr h
  | room h _ _ => cases h
def keysAt (rs : List Room') (i : Int) : List Str := ((rs[i.toNat]?).map (·.2)).getD []
theorem opens_keys {c : List Str} {rs : List Room'} : ∀ n : Nat, n ≤ rs.length → (opens c rs n).flatMap (keysAt rs) = newKeys c (rs.take n)
  | 0, _ => rfl
  | n + 1, h => by
    have hr : rs[n]? = some rs[n] := List.getElem?_eq_getElem (by omega)
    rw [opens_snoc hr, List.flatMap_append, opens_keys n (by omega), newKeys_snoc hr]
    congr 1
    split
    · rw [List.flatMap_cons, List.flatMap_nil, List.append_nil]
      unfold keysAt
      rw [Int.toNat_natCast, hr]
      rfl
    · rfl
theorem lies_eq {h : House} {c : List Str} {R : List Int} (hc : IsCome h c) (hR : IsOpen h R) : R.flatMap (keysAt h.2) = newKeys c h.2 := by
  rw [hR.unique (isOpen_of hc), opens_keys _ (Nat.le_refl _), List.take_length]
theorem lies_come {h : House} {c : List Str} (hc : IsCome h c) : kset (h.1 ++ newKeys c h.2) = c := kset_of_mem (fun x => by
  rw [hc.1 x, List.mem_append, mem_newKeys]
  constructor
  · rintro (hx | ⟨r, hr, hl, hk⟩)
    · exact .begin' hx
    · exact .room hr (fun l hl' => (hc.1 l).mp (hl l hl')) hk
  · intro hx
    cases hx with
    | begin' h => exact .inl h
    | room hr hl hk => exact .inr ⟨_, hr, fun l hl' => (hc.1 l).mpr (hl l hl'), hk⟩) hc.2.1 hc.2.2
theorem IsCome.without {h : House} {c : List Str} {R : List Int} {j : Nat} (hc : IsCome h c) (hR : IsOpen h R) (hj : (j : Int) ∉ R) : IsCome (h.1, h.2.take j ++ h.2.drop (j + 1)) c := by
  refine ⟨fun x => (hc.1 x).trans ⟨fun hx => ?_, fun hx => ?_⟩, hc.2⟩
  · induction hx with
    | begin' hb => exact .begin' hb
    | @room r k hr hl hk ih =>
      obtain ⟨i, hi⟩ := List.getElem?_of_mem hr
      have hne : i ≠ j := fun e => by
        subst e
        exact hj ((hR.2.2 _).mpr ⟨i, rfl, r, hi, hl⟩)
      refine .room (r := r) ?_ ih hk
      show r ∈ h.2.take j ++ h.2.drop (j + 1)
      have hlt := (List.getElem?_eq_some_iff.mp hi).1
      rw [List.mem_append]
      by_cases h1 : i < j
      · exact .inl (List.mem_of_getElem? (i := i) (by rw [List.getElem?_take, if_pos h1]; exact hi))
      · exact .inr (List.mem_of_getElem? (i := i - (j + 1)) (by rw [List.getElem?_drop, show j + 1 + (i - (j + 1)) = i by omega]; exact hi))
  · exact comes_mono (g := (h.1, h.2.take j ++ h.2.drop (j + 1))) (h := h) (fun k hk => .begin' hk) (fun r hr => ⟨r, by
      rcases List.mem_append.mp hr with h | h
      · exact List.mem_of_mem_take h
      · exact List.mem_of_mem_drop h, fun _ h => h, fun _ h => h⟩) hx
theorem comes_more {h : House} {b : List Str} {x : Str} (hx : Comes h x) : Comes (h.1 ++ b, h.2) x := comes_mono (g := h) (h := (h.1 ++ b, h.2)) (fun k hk => .begin' (List.mem_append_left _ hk)) (fun r hr => ⟨r, hr, fun _ h => h, fun _ h => h⟩) hx
theorem come_more {h : House} {b c d : List Str} (hc : IsCome h c) (hd : IsCome (h.1 ++ b, h.2) d) : ∀ x ∈ c, x ∈ d := fun x hx => (hd.1 x).mpr (comes_more ((hc.1 x).mp hx))
theorem open_more {h : House} {b : List Str} {R S : List Int} (hR : IsOpen h R) (hS : IsOpen (h.1 ++ b, h.2) S) : ∀ x ∈ R, x ∈ S := fun x hx => by
  obtain ⟨j, e, r, hr, hl⟩ := (hR.2.2 x).mp hx
  exact (hS.2.2 x).mpr ⟨j, e, r, hr, fun l hl' => comes_more (hl l hl')⟩
/-- there is a come, and the rooms of it -/
theorem come_ex (h : House) : ∃ c, IsCome h c := by
  have key : ∀ n : Nat, ∀ c : List Str, (∀ x ∈ c, Comes h x) → (∀ x ∈ h.1, x ∈ c) → c.Nodup → c.Pairwise (fun a b => leS a b = true) → (h.1 ++ h.2.flatMap (·.2)).length + 1 - c.length ≤ n → ∃ c, IsCome h c := by
    intro n
    induction n with
    | zero =>
      intro c h1 _ h3 _ h5
      have := subset_length (ks := h.1 ++ h.2.flatMap (·.2)) h3 fun x hx => comes_in (h1 x hx)
      omega
    | succ n ih =>
      intro c h1 h2 h3 h4 h5
      by_cases hh : ∀ x ∈ newKeys c h.2, x ∈ c
      · exact ⟨c, isCome_of h1 h2 (fun r hr hl k hk => hh k (mem_newKeys.mpr ⟨r, hr, hl, hk⟩)) h3 h4⟩
      · refine ih (kset (c ++ newKeys c h.2)) (step_come h1) (fun x hx => mem_kset.mpr (List.mem_append_left _ (h2 x hx))) (kset_nodup _) (kset_sorted _) ?_
        have hlt : c.length < (kset (c ++ newKeys c h.2)).length := by
          apply Nat.lt_of_not_le
          intro hle
          exact hh fun x hx => nodup_back h3 (kset_nodup _) (fun x hx => mem_kset.mpr (List.mem_append_left _ hx)) hle x (mem_kset.mpr (List.mem_append_right _ hx))
        omega
  exact key _ (kset h.1) (fun x hx => .begin' (mem_kset.mp hx)) (fun x hx => mem_kset.mpr hx) (kset_nodup _) (kset_sorted _) (Nat.le_refl _)
end Kr

/-! layer KrC -/
namespace Kr
open PySem L2
structure Mid (h : House) : Prop where
  good : GoodHouse h
  b : h.1.length ≤ 200
  r : h.2.length ≤ 100
  k : keysIn h.2 ≤ 200
theorem Mid.small {h : House} (m : Mid h) : Small h := ⟨m.good, by have := m.b; omega, by have := m.r; omega, by have := m.k; omega⟩
theorem kset_len (xs : List Str) : (kset xs).length ≤ xs.length := subset_length (kset_nodup xs) fun x hx => mem_kset.mp hx
theorem kset_pos {xs : List Str} (h : 1 ≤ xs.length) : 1 ≤ (kset xs).length := by
  cases xs with
  | nil => simp at h
  | cons x xs => exact List.length_pos_of_mem (mem_kset.mpr (List.mem_cons_self (a := x) (l := xs)))
theorem srt_kset (xs : List Str) : srt (kset xs) = kset xs := sorted_unique (srt_perm _) (srt_sorted _) (kset_sorted _)
theorem keysIn_twice : ∀ rs : List Room', keysIn (rs.map fun r => (kset r.1, r.2 ++ r.2)) = 2 * keysIn rs
  | [] => rfl
  | r :: rs => by
    have ih := keysIn_twice rs
    unfold keysIn at ih ⊢
    rw [List.map_cons, List.map_cons, List.sum_cons, ih, List.map_cons, List.sum_cons]
    show (r.2 ++ r.2).length + _ = _
    rw [List.length_append]
    omega
theorem keysIn_append (a b : List Room') : keysIn (a ++ b) = keysIn a + keysIn b := by
  unfold keysIn
  rw [List.map_append, List.sum_append]
theorem drop_keys {rs : List Room'} (i : Nat) : keysIn (rs.drop i) ≤ keysIn rs := by
  have e : keysIn rs = keysIn (rs.take i) + keysIn (rs.drop i) := by
    rw [← keysIn_append, List.take_append_drop]
  omega
theorem Mid.each {h : House} (m : Mid h) {r : Room'} (hr : r ∈ h.2) : r.2.length ≤ 200 := Nat.le_trans (one_le hr) m.k
theorem Mid.twice {h : House} (m : Mid h) : Small (twice h) := by
  have h1 := m.b; have h2 := m.r; have h3 := m.k
  refine ⟨⟨fun k hk => ?_, fun r hr => ?_, ?_, ?_, fun r hr => ?_⟩, ?_, ?_, ?_⟩
  · rcases List.mem_append.mp hk with h | h <;> exact m.good.keys k h
  · obtain ⟨s, hs, rfl⟩ := List.mem_map.mp hr
    obtain ⟨o1, o2, o3, o4, o5⟩ := m.good.rooms s hs
    exact ⟨fun k hk => o1 k (mem_kset.mp hk), fun k hk => by rcases List.mem_append.mp hk with h | h <;> exact o2 k h, kset_pos o3, Nat.le_trans (kset_len _) o4, srt_kset _⟩
  · show (h.1 ++ h.1).length ≤ _; rw [List.length_append]; omega
  · show (h.2.map _).length ≤ _; rw [List.length_map]; omega
  · obtain ⟨s, hs, rfl⟩ := List.mem_map.mp hr
    have := m.each hs
    show (s.2 ++ s.2).length ≤ _
    rw [List.length_append]; omega
  · show (h.1 ++ h.1).length ≤ _; rw [List.length_append]; omega
  · show (h.2.map _).length ≤ _; rw [List.length_map]; omega
  · show keysIn (h.2.map _) ≤ _; rw [keysIn_twice]; omega
theorem Mid.come {h : House} {c : List Str} (m : Mid h) (hc : IsCome h c) : c.length ≤ 400 := by
  have := subset_length (ks := h.1 ++ h.2.flatMap (·.2)) hc.2.1 fun x hx => comes_in ((hc.1 x).mp hx)
  rw [List.length_append, flat_len] at this
  have h1 := m.b; have h3 := m.k
  omega
theorem Mid.self {h : House} {c : List Str} (m : Mid h) (hc : IsCome h c) : Small (c, h.2) := by
  have h1 := m.come hc; have h2 := m.r; have h3 := m.k
  exact ⟨⟨fun k hk => come_kind m.good ((hc.1 k).mp hk), m.good.rooms, by show c.length ≤ _; omega, m.good.many, m.good.each⟩, by show c.length ≤ _; omega, by show h.2.length ≤ _; omega, by show keysIn h.2 ≤ _; omega⟩
theorem Mid.begin' {h : House} (m : Mid h) : Small (h.1, []) := by
  have h1 := m.b
  exact ⟨⟨m.good.keys, (fun _ h => nomatch h), by show h.1.length ≤ _; omega, Nat.zero_le _, (fun _ h => nomatch h)⟩, by show h.1.length ≤ _; omega, Nat.zero_le _, Nat.zero_le _⟩
theorem Mid.without {h : House} (m : Mid h) (j : Nat) : Small (h.1, h.2.take j ++ h.2.drop (j + 1)) := by
  have h1 := m.b; have h2 := m.r; have h3 := m.k
  have h4 := take_keys (rs := h.2) j
  have h5 := drop_keys (rs := h.2) (j + 1)
  have mem : ∀ r ∈ h.2.take j ++ h.2.drop (j + 1), r ∈ h.2 := fun r hr => by
    rcases List.mem_append.mp hr with h | h
    · exact List.mem_of_mem_take h
    · exact List.mem_of_mem_drop h
  have len : (h.2.take j ++ h.2.drop (j + 1)).length ≤ 200 := by
    rw [List.length_append, List.length_take, List.length_drop]; omega
  exact ⟨⟨m.good.keys, fun r hr => m.good.rooms r (mem r hr), by show h.1.length ≤ _; omega, by show (h.2.take j ++ h.2.drop (j + 1)).length ≤ _; omega, fun r hr => m.good.each r (mem r hr)⟩, by show h.1.length ≤ _; omega, by show (h.2.take j ++ h.2.drop (j + 1)).length ≤ _; omega, by show keysIn (h.2.take j ++ h.2.drop (j + 1)) ≤ _; rw [keysIn_append]; omega⟩
theorem Mid.more {h : House} (m : Mid h) {r : Room'} (hr : r ∈ h.2) : Small (h.1 ++ r.1.take 1, h.2) := by
  have h1 := m.b; have h2 := m.r; have h3 := m.k
  have len : (h.1 ++ r.1.take 1).length ≤ 300 := by rw [List.length_append, List.length_take]; omega
  refine ⟨⟨fun k hk => ?_, m.good.rooms, by show (h.1 ++ r.1.take 1).length ≤ _; omega, m.good.many, m.good.each⟩, by show (h.1 ++ r.1.take 1).length ≤ _; omega, by show h.2.length ≤ _; omega, by show keysIn h.2 ≤ _; omega⟩
  rcases List.mem_append.mp hk with h | h
  · exact m.good.keys k h
  · exact (m.good.rooms r hr).1 k (List.mem_of_mem_take h)
theorem HouseOf.mid {most tot : Nat} {h : House} (c : HouseOf most tot h) (hm : most ≤ 100) (ht : tot ≤ 200) : Mid h := ⟨c.good, by have := c.begin'; omega, by have := c.rooms; omega, Nat.le_trans c.total ht⟩
theorem ChainOf.mid {most : Nat} {h : House} (c : ChainOf most h) (hm : most ≤ 100) : Mid h := ⟨c.good, by have := c.begin'; omega, by have := c.rooms; omega, by
  have := each_sum c.each
  have := c.rooms
  omega⟩
theorem Mid.b' {h : House} (m : Mid h) : h.1.length ≤ 4000 := by have := m.b; omega
theorem Mid.bsz {h : House} (m : Mid h) : (h.1.map PyData.str).length * (2 : Int).toNat ≤ sizeLine := by
  rw [List.length_map]
  have := m.b
  have : sizeLine = 16777216 := by decide
  show h.1.length * 2 ≤ _
  omega
theorem rep2 (xs : List Str) : (List.replicate (2 : Int).toNat (xs.map PyData.str)).flatten = (xs ++ xs).map PyData.str := by
  show (List.replicate 2 _).flatten = _
  simp [List.replicate_succ]
theorem Mid.locks {h : House} (m : Mid h) {r : Room'} (hr : r ∈ h.2) : r.1.length ≤ 4000 := by
  have := (m.good.rooms r hr).2.2.2.1
  omega
theorem Mid.keys2 {h : House} (m : Mid h) {r : Room'} (hr : r ∈ h.2) : (r.2.map PyData.str).length + (r.2.map PyData.str).length ≤ sizeLine := by
  have := m.each hr
  rw [List.length_map]
  exact sz100 (by omega)
theorem lies_take {h : House} {c : List Str} {R : List Int} (m : Mid h) (hc : IsCome h c) (hR : IsOpen h R) (i : Nat) : (h.1 ++ (R.take i).flatMap (keysAt h.2)).length ≤ 400 := by
  have e := lies_eq hc hR
  have h1 := newKeys_len c h.2
  have h2 : ((R.take i).flatMap (keysAt h.2)).length ≤ (R.flatMap (keysAt h.2)).length := by
    conv => rhs; rw [← List.take_append_drop i R, List.flatMap_append, List.length_append]
    omega
  rw [e] at h2
  have := m.b; have := m.k
  rw [List.length_append]
  omega
theorem open_at {h : House} {R : List Int} (hR : IsOpen h R) {i : Int} (hi : i ∈ R) : ∃ r, r ∈ h.2 ∧ L2.atI (h.2.map roomD) i = some (roomD r) ∧ keysAt h.2 i = r.2 := by
  obtain ⟨j, rfl, r, hr, _⟩ := (hR.2.2 i).mp hi
  refine ⟨r, List.mem_of_getElem? hr, L2.atI_nat (by rw [List.getElem?_map, hr]; rfl), ?_⟩
  unfold keysAt
  rw [Int.toNat_natCast, hr]
  rfl
theorem take_flat {R : List Int} {rs : List Room'} {i : Nat} {x : Int} (h : R[i]? = some x) : (R.take (i + 1)).flatMap (keysAt rs) = (R.take i).flatMap (keysAt rs) ++ keysAt rs x := by
  rw [List.take_add_one, h, List.flatMap_append]
  simp
/-- the rooms that do not come -/
def lostOf (h : House) (R : List Int) : List Nat := (List.range h.2.length).filter fun k => !decide ((k : Int) ∈ R)
theorem lost_mem {h : House} {R : List Int} {d : PyData} (hd : d ∈ (lostOf h R).map fun k : Nat => PyData.int (k : Int)) : ∃ j : Nat, d = .int j ∧ (j : Int) ∉ R ∧ ∃ r, h.2[j]? = some r := by
  obtain ⟨j, hj, rfl⟩ := List.mem_map.mp hd
  obtain ⟨h1, h2⟩ := List.mem_filter.mp hj
  exact ⟨j, rfl, of_decide_eq_false (by simpa using h2), _, List.getElem?_eq_getElem (List.mem_range.mp h1)⟩
theorem none_out {α : Type} {xs : List α} {f : α → Bool} (h : α → PyData) (hf : ∀ x ∈ xs, f x = false) : PyData.list ((xs.filter f).map h) = .list [] := by
  rw [List.filter_eq_nil_iff.mpr fun x hx => by rw [hf x hx]; exact Bool.false_ne_true]
  rfl
theorem intsD_nat (n : Nat) : intsD 0 (n : Int) = (List.range n).map fun k : Nat => PyData.int (k : Int) := by
  unfold intsD
  rw [show ((n : Int) - 0).toNat = n by omega]
  exact List.map_congr_left fun k _ => by rw [Int.zero_add]
theorem lost_ne {h : House} {R : List Int} (hb : (!((lostOf h R).map fun k : Nat => PyData.int (k : Int)).isEmpty) = true) : 0 < ((lostOf h R).map fun k : Nat => PyData.int (k : Int)).length := by
  cases e : (lostOf h R).map fun k : Nat => PyData.int (k : Int) with
  | nil => rw [e] at hb; cases hb
  | cons x xs => simp
theorem lost_lt {h : House} {R : List Int} (m : Mid h) : ((lostOf h R).map fun k : Nat => PyData.int (k : Int)).length ≤ 100 := by
  rw [List.length_map]
  unfold lostOf
  have := List.length_filter_le (fun k : Nat => !decide ((k : Int) ∈ R)) (List.range h.2.length)
  rw [List.length_range] at this
  exact Nat.le_trans this m.r
theorem lay_nats (xs : List Nat) : Lay 1 (.list (xs.map fun k : Nat => PyData.int (k : Int))) := lay_list fun d m => by
  obtain ⟨k, hk, rfl⟩ := List.mem_map.mp m
  exact lay_int k
theorem eqv_nil' (ds : List PyData) : PyData.eqv (.list ds) (.list []) = ds.isEmpty := by cases ds <;> simp [PyData.eqv, PyData.eqvAll]
theorem without_sz {h : House} (m : Mid h) (j : Nat) : ((h.2.map roomD).take j).length + ((h.2.map roomD).drop (j + 1)).length ≤ sizeLine := by
  rw [List.length_take, List.length_drop, List.length_map]
  have := m.r
  exact sz100 (by omega)
theorem more_sz {h : House} (m : Mid h) (r : Room') : (h.1.map PyData.str).length + ((r.1.map PyData.str).take 1).length ≤ sizeLine := by
  rw [List.length_take, List.length_map]
  have := m.b
  exact sz100 (by omega)
theorem liesSz {h : House} {c : List Str} {R : List Int} (m : Mid h) (hc : IsCome h c) (hR : IsOpen h R) (i : Nat) {r : Room'} (hr : r ∈ h.2) : ((h.1 ++ (R.take i).flatMap (keysAt h.2)).map PyData.str).length + (r.2.map PyData.str).length ≤ sizeLine := by
  have h1 := lies_take m hc hR i
  have h2 := m.each hr
  rw [List.length_map, List.length_map]
  exact sz100 (by omega)
theorem rangeSz {h : House} (m : Mid h) : -(2 ^ 62) ≤ ((h.2.map roomD).length : Int) ∧ ((h.2.map roomD).length : Int) < 2 ^ 62 := by
  rw [List.length_map]
  have := m.r
  omega
theorem lostPos {h : House} {R : List Int} (hb : (!((lostOf h R).map fun k : Nat => PyData.int (k : Int)).isEmpty) = true) : (0 : Int) < (((lostOf h R).map fun k : Nat => PyData.int (k : Int)).length : Nat) := by
  have := lost_ne hb
  omega
theorem lostLt {h : House} {R : List Int} (m : Mid h) : ((((lostOf h R).map fun k : Nat => PyData.int (k : Int)).length : Nat) : Int) < 1073741824 := by
  have := lost_lt (R := R) m
  omega
theorem getEnum {ds : List PyData} {i : Nat} {d : PyData} (h : (enumsD ds)[i]? = some d) : ∃ d0, ds[i]? = some d0 ∧ d = .tuple [.int (i : Nat), d0] := by
  unfold enumsD at h
  rw [List.getElem?_mapIdx] at h
  cases e : ds[i]? with
  | none => rw [e] at h; cases h
  | some x => rw [e] at h; exact ⟨x, rfl, by injection h with h; exact h.symm⟩
theorem enumsD_length (ds : List PyData) : (enumsD ds).length = ds.length := by unfold enumsD; simp
theorem upto10 (n : Nat) : ∃ m : Nat, max (1 : Int) (min 10 (n : Int)) = m ∧ m ≤ 10 := ⟨(max (1 : Int) (min 10 (n : Int))).toNat, by omega, by omega⟩
theorem twice_rooms (h : House) : PyData.list (h.2.map fun r => roomD (kset r.1, r.2 ++ r.2)) = .list ((twice h).2.map roomD) := by
  unfold twice
  rw [List.map_map]
  rfl
end Kr
namespace Kr
open PySem L2
def topS (i : Nat) : Stmt := PySem.Challenge.pw_keyrooms_k12_whole_what_comes.main.body.getD i (.Pass ⟨0, 0, 0, 0⟩)
abbrev s_is_kind : Stmt := topS 7
theorem sc_is_kind : FnScope ["thing", "sign"] ["thing"] (defScope s_is_kind) := ⟨rfl, rfl, rfl, by decide +kernel, rfl, by decide +kernel, by decide +kernel⟩
abbrev s_are_keys : Stmt := topS 8
theorem sc_are_keys : FnScope ["thing", "one"] ["thing"] (defScope s_are_keys) := ⟨rfl, rfl, rfl, by decide +kernel, rfl, by decide +kernel, by decide +kernel⟩
abbrev s_is_room : Stmt := topS 9
theorem sc_is_room : FnScope ["thing"] ["thing"] (defScope s_is_room) := ⟨rfl, rfl, rfl, by decide +kernel, rfl, by decide +kernel, by decide +kernel⟩
abbrev s_is_house : Stmt := topS 10
theorem sc_is_house : FnScope ["thing", "room"] ["thing"] (defScope s_is_house) := ⟨rfl, rfl, rfl, by decide +kernel, rfl, by decide +kernel, by decide +kernel⟩
abbrev s_need_house : Stmt := topS 11
theorem sc_need_house : FnScope ["thing"] ["thing"] (defScope s_need_house) := ⟨rfl, rfl, rfl, by decide +kernel, rfl, by decide +kernel, by decide +kernel⟩
abbrev s_kinds_that_come : Stmt := topS 13
theorem sc_kinds_that_come : FnScope ["house", "come", "many", "found", "locks", "keys", "kind"] ["house"] (defScope s_kinds_that_come) := ⟨rfl, rfl, rfl, by decide +kernel, rfl, by decide +kernel, by decide +kernel⟩
abbrev s_rooms_that_come : Stmt := topS 14
theorem sc_rooms_that_come : FnScope ["house", "come", "found", "room", "locks", "keys", "kind"] ["house"] (defScope s_rooms_that_come) := ⟨rfl, rfl, rfl, by decide +kernel, rfl, by decide +kernel, by decide +kernel⟩
abbrev s_law_pool : Stmt := topS 16
theorem sc_law_pool : FnScope ["script", "k", "cell"] ["script", "k"] (defScope s_law_pool) := ⟨rfl, rfl, rfl, by decide +kernel, rfl, by decide +kernel, by decide +kernel⟩
abbrev s_law_take : Stmt := topS 17
theorem sc_law_take : FnScope ["pool", "many", "found", "step", "mark"] ["pool", "many"] (defScope s_law_take) := ⟨rfl, rfl, rfl, by decide +kernel, rfl, by decide +kernel, by decide +kernel⟩
abbrev s_law_kinds : Stmt := topS 18
theorem sc_law_kinds : FnScope ["pool", "many", "letters", "found", "k", "kind", "j", "way", "at", "turn"] ["pool", "many"] (defScope s_law_kinds) := ⟨rfl, rfl, rfl, by decide +kernel, rfl, by decide +kernel, by decide +kernel⟩
abbrev s_law_some : Stmt := topS 19
theorem sc_law_some : FnScope ["pool", "kinds", "many", "k"] ["pool", "kinds", "many"] (defScope s_law_some) := ⟨rfl, rfl, rfl, by decide +kernel, rfl, by decide +kernel, by decide +kernel⟩
abbrev s_law_house : Stmt := topS 20
theorem sc_law_house : FnScope ["pool", "most", "kinds", "many", "locks", "keys", "rooms", "spare", "room", "doors", "few", "left", "within", "more"] ["pool", "most"] (defScope s_law_house) := ⟨rfl, rfl, rfl, by decide +kernel, rfl, by decide +kernel, by decide +kernel⟩
abbrev s_law_chain : Stmt := topS 21
theorem sc_law_chain : FnScope ["pool", "most", "many", "names", "k", "rooms", "broken", "locks", "keys", "begin", "left"] ["pool", "most"] (defScope s_law_chain) := ⟨rfl, rfl, rfl, by decide +kernel, rfl, by decide +kernel, by decide +kernel⟩
abbrev s_law_right : Stmt := topS 22
theorem sc_law_right : FnScope ["pool", "house", "come", "rooms", "twice", "locks", "keys", "lies", "room", "lost", "at", "more", "kind"] ["pool", "house"] (defScope s_law_right) := ⟨rfl, rfl, rfl, by decide +kernel, rfl, by decide +kernel, by decide +kernel⟩
abbrev s_law : Stmt := topS 23
theorem sc_law : FnScope ["script", "k", "pool", "house"] ["script"] (defScope s_law) := ⟨rfl, rfl, rfl, by decide +kernel, rfl, by decide +kernel, by decide +kernel⟩
structure Tx (K : PySem.W.Frag) (mg : Str → Option Value) where
  f_is_kind : Addr
  d_is_kind : FuncData
  F_is_kind : Fun K "is_kind" "is_kind" s_is_kind f_is_kind d_is_kind
  b_is_kind : Binds K d_is_kind ["thing"] []
  g_is_kind : mg "is_kind" = some (.ref f_is_kind)
  f_are_keys : Addr
  d_are_keys : FuncData
  F_are_keys : Fun K "are_keys" "are_keys" s_are_keys f_are_keys d_are_keys
  b_are_keys : Binds K d_are_keys ["thing"] []
  g_are_keys : mg "are_keys" = some (.ref f_are_keys)
  f_is_room : Addr
  d_is_room : FuncData
  F_is_room : Fun K "is_room" "is_room" s_is_room f_is_room d_is_room
  b_is_room : Binds K d_is_room ["thing"] []
  g_is_room : mg "is_room" = some (.ref f_is_room)
  f_is_house : Addr
  d_is_house : FuncData
  F_is_house : Fun K "is_house" "is_house" s_is_house f_is_house d_is_house
  b_is_house : Binds K d_is_house ["thing"] []
  g_is_house : mg "is_house" = some (.ref f_is_house)
  f_need_house : Addr
  d_need_house : FuncData
  F_need_house : Fun K "need_house" "need_house" s_need_house f_need_house d_need_house
  b_need_house : Binds K d_need_house ["thing"] []
  g_need_house : mg "need_house" = some (.ref f_need_house)
  f_kinds_that_come : Addr
  d_kinds_that_come : FuncData
  F_kinds_that_come : Fun K "kinds_that_come" "kinds_that_come" s_kinds_that_come f_kinds_that_come d_kinds_that_come
  b_kinds_that_come : Binds K d_kinds_that_come ["house"] []
  g_kinds_that_come : mg "kinds_that_come" = some (.ref f_kinds_that_come)
  f_rooms_that_come : Addr
  d_rooms_that_come : FuncData
  F_rooms_that_come : Fun K "rooms_that_come" "rooms_that_come" s_rooms_that_come f_rooms_that_come d_rooms_that_come
  b_rooms_that_come : Binds K d_rooms_that_come ["house"] []
  g_rooms_that_come : mg "rooms_that_come" = some (.ref f_rooms_that_come)
  f_law_pool : Addr
  d_law_pool : FuncData
  F_law_pool : Fun K "_law_pool" "_law_pool" s_law_pool f_law_pool d_law_pool
  b_law_pool : Binds K d_law_pool ["script", "k"] []
  g_law_pool : mg "_law_pool" = some (.ref f_law_pool)
  f_law_take : Addr
  d_law_take : FuncData
  F_law_take : Fun K "_law_take" "_law_take" s_law_take f_law_take d_law_take
  b_law_take : Binds K d_law_take ["pool", "many"] []
  g_law_take : mg "_law_take" = some (.ref f_law_take)
  f_law_kinds : Addr
  d_law_kinds : FuncData
  F_law_kinds : Fun K "_law_kinds" "_law_kinds" s_law_kinds f_law_kinds d_law_kinds
  b_law_kinds : Binds K d_law_kinds ["pool", "many"] []
  g_law_kinds : mg "_law_kinds" = some (.ref f_law_kinds)
  f_law_some : Addr
  d_law_some : FuncData
  F_law_some : Fun K "_law_some" "_law_some" s_law_some f_law_some d_law_some
  b_law_some : Binds K d_law_some ["pool", "kinds", "many"] []
  g_law_some : mg "_law_some" = some (.ref f_law_some)
  f_law_house : Addr
  d_law_house : FuncData
  F_law_house : Fun K "_law_house" "_law_house" s_law_house f_law_house d_law_house
  b_law_house : Binds K d_law_house ["pool", "most"] []
  g_law_house : mg "_law_house" = some (.ref f_law_house)
  f_law_chain : Addr
  d_law_chain : FuncData
  F_law_chain : Fun K "_law_chain" "_law_chain" s_law_chain f_law_chain d_law_chain
  b_law_chain : Binds K d_law_chain ["pool", "most"] []
  g_law_chain : mg "_law_chain" = some (.ref f_law_chain)
  f_law_right : Addr
  d_law_right : FuncData
  F_law_right : Fun K "_law_right" "_law_right" s_law_right f_law_right d_law_right
  b_law_right : Binds K d_law_right ["pool", "house"] []
  g_law_right : mg "_law_right" = some (.ref f_law_right)
  f_law : Addr
  d_law : FuncData
  F_law : Fun K "law" "law" s_law f_law d_law
  b_law : Binds K d_law ["script"] []
  g_law : mg "law" = some (.ref f_law)
  m_isinstance : mg "isinstance" = none
  m_str : mg "str" = none
  m_len : mg "len" = none
  m_list : mg "list" = none
  m_tuple : mg "tuple" = none
  m_sorted : mg "sorted" = none
  m_set : mg "set" = none
  m_enumerate : mg "enumerate" = none
  m_range : mg "range" = none
  m_sum : mg "sum" = none
  m_min : mg "min" = none
  m_int : mg "int" = none
  m_max : mg "max" = none
  c_LETTERS : Mg mg "LETTERS" (.str "abcdefghijklmnopqrstuvwxyz")
  c_LONGEST_KIND : Mg mg "LONGEST_KIND" (.int 4)
  c_MOST_LOCKS : Mg mg "MOST_LOCKS" (.int 4)
/-! part base -/
open PySem L2
section
variable {P : Program} {w : World} {K : PySem.W.Frag} {mg : Str → Option Value} {base : Heap}
theorem ok_is_kind (T : Tx K mg) : FnOk P w K mg base CX0 1 T.f_is_kind T.d_is_kind ["thing"] (spF 1 (pre1 SzD) (fn1 fun d => .bool (isKindD d))) := by
  refine okF T.F_is_kind sc_is_kind fun X cdv A outer s H0 E vs F H ds Q hX hr hl hs ha hp q => ?_
  obtain ⟨d, rfl, hz⟩ := hp
  obtain ⟨v, rfl, hd⟩ := daAll1 ha
  subst hX
  have q : ∀ v F2 H2, Gr F H F2 H2 → Da F2 (.bool (isKindD d)) v → Q v H2 := q
  have hu := hr.units
  by_cases hstr : ∃ x, d = .str x
  · obtain ⟨x, rfl⟩ := hstr
    have hx : x.length ≤ 100000 := hz
    refine ss_cons (ws_ifD (DT.of_w (dw_or (dt_not (dt_val (de_isi T.m_isinstance T.m_str (de_v 0 hd) (kit_str _)))) (fun _ => dw_or1 (dt_not (dt_lele de_int (de_lenS T.m_len (de_v 0 hd) (sz100 hx)) (de_of (ve_glob T.c_LONGEST_KIND) rfl)))))) hs (fun hb F2 H2 g => ?_) (fun hb F2 H2 g => ?_))
    · refine ss_one (ws_retD de_bool g.fh fun v F3 H3 g3 hv => q v F3 H3 (g.trans g3) ?_)
      have : isKind x = false := by
        unfold isKind
        revert hb
        cases decide ((1 : Int) ≤ x.length) <;> cases decide ((x.length : Int) ≤ 4) <;> simp
      show Da F3 (.bool (isKind x)) v
      rw [this]; exact hv
    · refine ss_nil (ss_one (ws_retD (de_c (c_eqNil hu (de_lcIf (xs := x.cps.toList) [("sign", 1)] (lcok sc_is_kind (by decide +kernel)) (fun c => !decide (c ∈ letters.cps.toList)) (fun c => .str ⟨#[c]⟩) (di_str (de_v 0 (g.da hd))).i (sz100 hx) fun c hc v F' H' g' hv => ?_))) g.fh fun v F3 H3 g3 hv => q v F3 H3 (g.trans g3) ?_))
      · exact gb_name 1 sc_is_kind.nd ⟨rfl, rfl, fun _ _ _ _ _ => dt_c (c_notInSign (de_v 1 hv) (de_of (ve_glob T.c_LETTERS) rfl)), fun _ _ _ _ _ _ => de_v 1 hv⟩
      · have h1 : (decide ((1 : Int) ≤ x.length) && decide ((x.length : Int) ≤ 4)) = true := by
          revert hb
          cases (decide ((1 : Int) ≤ x.length) && decide ((x.length : Int) ≤ 4)) <;> simp
        show Da F3 (.bool (isKind x)) v
        unfold isKind
        rw [h1, Bool.true_and, ← filter_none]
        exact hv
  · have hk : isKindD d = false := by
      cases d with
      | str x => exact absurd ⟨x, rfl⟩ hstr
      | _ => rfl
    have hn : kitB (tyName d) "str" = some false := by
      rw [kit_str]
      cases d with
      | str x => exact absurd ⟨x, rfl⟩ hstr
      | _ => rfl
    refine ss_cons (ws_ifD (b := true) (DT.of_w (dw_or (cc := true) (dt_not (dt_val (de_isi T.m_isinstance T.m_str (de_v 0 hd) hn))) (fun z => nomatch z))) hs (fun hb F2 H2 g => ?_) (fun hb F2 H2 g => nomatch hb))
    refine ss_one (ws_retD de_bool g.fh fun v F3 H3 g3 hv => q v F3 H3 (g.trans g3) ?_)
    rw [hk]; exact hv
theorem x_is_kind {X : Cx} {σ : St} {F H : Hp} {e : Expr} {d : PyData} {p pos : Pos} {k : Nat} (T : Tx X.K X.mg) (hr : Room k X.A) (h : DE X e σ F H d) (hz : SzD d) (hk : 1 ≤ k := by decide) (hg : Gl X "is_kind" := by rfl) (l : Pl X e [] pos := by exact ⟨rfl, rfl⟩) :
    DE X (.Call (.Name "is_kind" p) [e] [] pos) σ F H (.bool (isKindD d)) := de_call (ok_is_kind T) (hr.mono hk) T.g_is_kind T.F_is_kind.kp T.b_is_kind (dl_cons h dl_nil l.he) rfl ⟨d, rfl, hz⟩ rfl hg (by decide) l
theorem ok_are_keys (T : Tx K mg) : FnOk P w K mg base CX0 2 T.f_are_keys T.d_are_keys ["thing"] (spF 1 (pre1 SzD) (fn1 fun d => .bool (areKeysD d))) := by
  refine okF T.F_are_keys sc_are_keys fun X cdv A outer s H0 E vs F H ds Q hX hr hl hs ha hp q => ?_
  obtain ⟨d, rfl, hz⟩ := hp
  obtain ⟨v, rfl, hd⟩ := daAll1 ha
  subst hX
  have q : ∀ v F2 H2, Gr F H F2 H2 → Da F2 (.bool (areKeysD d)) v → Q v H2 := q
  have hu := hr.units
  by_cases hstr : ∃ xs, d = .list xs
  · obtain ⟨xs, rfl⟩ := hstr
    refine ss_one (ws_retD (de_and (de_isi T.m_isinstance T.m_list (de_v 0 hd) (kit_list _)) fun _ => de_one (de_c (c_eqNil hu (de_lcIf (Dx := fun d => d) (xs := xs) [("one", 1)] (lcok sc_are_keys (by decide +kernel)) (fun d => !isKindD d) (fun d => d) (by rw [List.map_id']; exact (di_list (de_v 0 hd)).i) (sz100 hz.1) fun x hx v F' H' g' hv => ?_)))) hs fun v F3 H3 g3 hv => q v F3 H3 g3 ?_)
    · exact gb_name 1 sc_are_keys.nd ⟨rfl, rfl, fun _ _ _ _ _ => dt_not (dt_val (x_is_kind T hr (de_v 1 hv) (hz.2.mem hx))), fun _ _ _ _ _ _ => de_v 1 hv⟩
    · show Da F3 (.bool (xs.all isKindD)) v
      rw [filter_none, Bool.true_and] at hv
      exact hv
  · have hk : areKeysD d = false := by
      cases d with
      | list x => exact absurd ⟨x, rfl⟩ hstr
      | _ => rfl
    have hn : kitB (tyName d) "list" = some false := by
      rw [kit_list]
      cases d with
      | list x => exact absurd ⟨x, rfl⟩ hstr
      | _ => rfl
    refine ss_one (ws_retD (de_and (cc := true) (de_isi T.m_isinstance T.m_list (de_v 0 hd) hn) fun z => nomatch z) hs fun v F3 H3 g3 hv => q v F3 H3 g3 ?_)
    rw [hk]; exact hv
theorem x_are_keys {X : Cx} {σ : St} {F H : Hp} {e : Expr} {d : PyData} {p pos : Pos} {k : Nat} (T : Tx X.K X.mg) (hr : Room k X.A) (h : DE X e σ F H d) (hz : SzD d) (hk : 2 ≤ k := by decide) (hg : Gl X "are_keys" := by rfl) (l : Pl X e [] pos := by exact ⟨rfl, rfl⟩) :
    DE X (.Call (.Name "are_keys" p) [e] [] pos) σ F H (.bool (areKeysD d)) := de_call (ok_are_keys T) (hr.mono hk) T.g_are_keys T.F_are_keys.kp T.b_are_keys (dl_cons h dl_nil l.he) rfl ⟨d, rfl, hz⟩ rfl hg (by decide) l
end

open PySem L2
section
variable {P : Program} {w : World} {K : PySem.W.Frag} {mg : Str → Option Value} {base : Heap}
theorem ne2 {n : Nat} (h : n ≠ 2) (z : (!decide ((n : Int) = 2)) = false) : False := by
  simp at z; omega
theorem room_len : ∀ {ds : List PyData}, ds.length ≠ 2 → isRoomD (.tuple ds) = false
  | [], _ => rfl
  | [_], _ => rfl
  | [_, _], h => absurd rfl h
  | _ :: _ :: _ :: _, _ => rfl
theorem house_len : ∀ {ds : List PyData}, ds.length ≠ 2 → isHouseD (.tuple ds) = false
  | [], _ => rfl
  | [_], _ => rfl
  | [_, _], h => absurd rfl h
  | a :: b :: c :: r, _ => by cases b <;> rfl
theorem room_out {a b : PyData} {n : Int} (h : ((!true) || ((!decide ((2 : Int) = n)) || ((!areKeysD a) || (!areKeysD b)))) = true) (hn : n = 2) : isRoomD (.tuple [a, b]) = false := by
  subst hn
  simp only [isRoomD]
  revert h
  cases areKeysD a <;> cases areKeysD b <;> simp
theorem room_in {a b : PyData} {n : Int} (h : ((!true) || ((!decide ((2 : Int) = n)) || ((!areKeysD a) || (!areKeysD b)))) = false) : areKeysD a = true ∧ areKeysD b = true := by
  revert h
  cases areKeysD a <;> cases areKeysD b <;> simp
theorem room_is {ks : List Str} {b : PyData} (h1 : areKeysD (ksD ks) = true) (h2 : areKeysD b = true) : isRoomD (.tuple [ksD ks, b]) = ((decide ((1 : Int) ≤ (ks.map PyData.str).length) && decide (((ks.map PyData.str).length : Int) ≤ 4)) && decide (ks = srt ks)) := by
  simp only [isRoomD, h1, h2, Bool.true_and]
  simp only [ksD, strsOf_strs]
def isListD : PyData → Bool
  | .list _ => true
  | _ => false
theorem kit_list' (d : PyData) : kitB (tyName d) "list" = some (isListD d) := by rw [kit_list]; cases d <;> rfl
theorem house_out {a b : PyData} {n : Int} (h : ((!true) || ((!decide ((2 : Int) = n)) || ((!areKeysD a) || (!isListD b)))) = true) (hn : n = 2) : isHouseD (.tuple [a, b]) = false := by
  subst hn
  cases b with
  | list rs => simp only [isHouseD]; revert h; cases areKeysD a <;> simp [isListD]
  | _ => rfl
theorem house_in {a b : PyData} {n : Int} (h : ((!true) || ((!decide ((2 : Int) = n)) || ((!areKeysD a) || (!isListD b)))) = false) : areKeysD a = true ∧ ∃ rs, b = .list rs := by
  cases b with
  | list rs => revert h; cases areKeysD a <;> simp [isListD]
  | _ => simp [isListD] at h
theorem house_is {a : PyData} {rs : List PyData} (h1 : areKeysD a = true) : isHouseD (.tuple [a, .list rs]) = rs.all isRoomD := by simp only [isHouseD, h1, Bool.true_and]
theorem areKeysD_list {d : PyData} (h : areKeysD d = true) : ∃ ks : List Str, d = ksD ks ∧ (∀ k ∈ ks, isKind k = true) := by
  cases d with
  | list ds =>
    have h' : ds.all isKindD = true := h
    refine ⟨strsOf ds, congrArg PyData.list (strsOf_eq h'), fun k hk => ?_⟩
    have : PyData.str k ∈ ds := by rw [strsOf_eq h']; exact List.mem_map_of_mem hk
    exact (List.all_eq_true.mp h') _ this
  | _ => simp [areKeysD] at h
theorem tup2_cases (d : PyData) : (∃ a b, d = .tuple [a, b]) ∨ (∃ ds, d = .tuple ds ∧ ds.length ≠ 2) ∨ (kitB (tyName d) "tuple" = some false ∧ isRoomD d = false ∧ isHouseD d = false) := by
  cases d with
  | tuple ds =>
    match ds with
    | [a, b] => exact .inl ⟨a, b, rfl⟩
    | [] => exact .inr (.inl ⟨_, rfl, by simp⟩)
    | [_] => exact .inr (.inl ⟨_, rfl, by simp⟩)
    | _ :: _ :: _ :: _ => exact .inr (.inl ⟨_, rfl, by simp⟩)
  | _ => exact .inr (.inr ⟨kit_tuple _, rfl, rfl⟩)
theorem ok_is_room (T : Tx K mg) : FnOk P w K mg base CX0 3 T.f_is_room T.d_is_room ["thing"] (spF 1 (pre1 SzD) (fn1 fun d => .bool (isRoomD d))) := by
  refine okF T.F_is_room sc_is_room fun X cdv A outer s H0 E vs F H ds Q hX hr hl hs ha hp q => ?_
  obtain ⟨d, rfl, hz⟩ := hp
  obtain ⟨v, rfl, hd⟩ := daAll1 ha
  subst hX
  clear hl
  have q : ∀ v F2 H2, Gr F H F2 H2 → Da F2 (.bool (isRoomD d)) v → Q v H2 := q
  have hu := hr.units
  rcases tup2_cases d with ⟨a, b, rfl⟩ | ⟨ds, rfl, hne⟩ | ⟨hk, h0, _⟩
  · refine ss_cons (ws_ifD (DT.of_w (dw_or (dt_not (dt_val (de_isi (bb := true) T.m_isinstance T.m_tuple (de_v 0 hd) (kit_tuple _)))) (fun _ => dw_or (dt_c (c_neI (de_lenT T.m_len (de_v 0 hd)) de_int))
      (fun _ => dw_or (dt_not (dt_val (x_are_keys T hr (de_ixT (d := a) (de_v 0 hd) de_int rfl) hz.1)))
      (fun _ => dw_or1 (dt_not (dt_val (x_are_keys T hr (de_ixT (d := b) (de_v 0 hd) de_int rfl) hz.2.1)))))))) hs (fun hb F2 H2 g => ?_) (fun hb F2 H2 g => ?_))
    · refine ss_one (ws_retD de_bool g.fh fun v F3 H3 g3 hv => q v F3 H3 (g.trans g3) ?_)
      rw [room_out hb rfl]; exact hv
    · obtain ⟨ha1, hb1⟩ := room_in hb
      obtain ⟨ks, rfl, hks⟩ := areKeysD_list ha1
      refine ss_nil (ss_one (ws_retD (de_and (de_lele de_int (de_lenL T.m_len (de_ixT (d := ksD ks) (de_v 0 (g.da hd)) de_int rfl)) (de_of (ve_glob T.c_MOST_LOCKS) rfl)) fun _ => de_one (de_c (c_is (c_eq hu (de_ixT (d := ksD ks) (de_v 0 (g.da hd)) de_int rfl) (de_sortedS T.m_sorted (de_ixT (d := ksD ks) (de_v 0 (g.da hd)) de_int rfl)) (lay_ks hks).shaped (lay_ks (fun k hk => hks k (mem_srt.mp hk))).shaped) (eqv_ks ks (srt ks))))) g.fh fun v F3 H3 g3 hv => q v F3 H3 (g.trans g3) ?_))
      rw [room_is ha1 hb1]; exact hv
  · refine ss_cons (ws_ifD (b := true) (DT.of_w (dw_or (cc := true) (dt_not (dt_val (de_isi (bb := true) T.m_isinstance T.m_tuple (de_v 0 hd) (kit_tuple _)))) (fun _ => dt_is_w (dw_or (cc := true) (dt_c (c_neI (de_lenT T.m_len (de_v 0 hd)) de_int)) (fun z => (ne2 hne z).elim)) (Bool.or_true _)))) hs (fun hb F2 H2 g => ?_) (fun hb F2 H2 g => nomatch hb))
    refine ss_one (ws_retD de_bool g.fh fun v F3 H3 g3 hv => q v F3 H3 (g.trans g3) ?_)
    rw [room_len hne]; exact hv
  · refine ss_cons (ws_ifD (b := true) (DT.of_w (dw_or (cc := true) (dt_not (dt_val (de_isi T.m_isinstance T.m_tuple (de_v 0 hd) hk))) (fun z => nomatch z))) hs (fun hb F2 H2 g => ?_) (fun hb F2 H2 g => nomatch hb))
    refine ss_one (ws_retD de_bool g.fh fun v F3 H3 g3 hv => q v F3 H3 (g.trans g3) ?_)
    rw [h0]; exact hv
theorem x_is_room {X : Cx} {σ : St} {F H : Hp} {e : Expr} {d : PyData} {p pos : Pos} {k : Nat} (T : Tx X.K X.mg) (hr : Room k X.A) (h : DE X e σ F H d) (hz : SzD d) (hk : 3 ≤ k := by decide) (hg : Gl X "is_room" := by rfl) (l : Pl X e [] pos := by exact ⟨rfl, rfl⟩) :
    DE X (.Call (.Name "is_room" p) [e] [] pos) σ F H (.bool (isRoomD d)) := de_call (ok_is_room T) (hr.mono hk) T.g_is_room T.F_is_room.kp T.b_is_room (dl_cons h dl_nil l.he) rfl ⟨d, rfl, hz⟩ rfl hg (by decide) l
theorem ok_is_house (T : Tx K mg) : FnOk P w K mg base CX0 4 T.f_is_house T.d_is_house ["thing"] (spF 1 (pre1 SzD) (fn1 fun d => .bool (isHouseD d))) := by
  refine okF T.F_is_house sc_is_house fun X cdv A outer s H0 E vs F H ds Q hX hr hl hs ha hp q => ?_
  obtain ⟨d, rfl, hz⟩ := hp
  obtain ⟨v, rfl, hd⟩ := daAll1 ha
  subst hX
  clear hl
  have q : ∀ v F2 H2, Gr F H F2 H2 → Da F2 (.bool (isHouseD d)) v → Q v H2 := q
  have hu := hr.units
  rcases tup2_cases d with ⟨a, b, rfl⟩ | ⟨ds, rfl, hne⟩ | ⟨hk, _, h0⟩
  · refine ss_cons (ws_ifD (DT.of_w (dw_or (dt_not (dt_val (de_isi (bb := true) T.m_isinstance T.m_tuple (de_v 0 hd) (kit_tuple _)))) (fun _ => dw_or (dt_c (c_neI (de_lenT T.m_len (de_v 0 hd)) de_int))
      (fun _ => dw_or (dt_not (dt_val (x_are_keys T hr (de_ixT (d := a) (de_v 0 hd) de_int rfl) hz.1)))
      (fun _ => dw_or1 (dt_not (dt_val (de_isi T.m_isinstance T.m_list (de_ixT (d := b) (de_v 0 hd) de_int rfl) (kit_list' _))))))))) hs (fun hb F2 H2 g => ?_) (fun hb F2 H2 g => ?_))
    · refine ss_one (ws_retD de_bool g.fh fun v F3 H3 g3 hv => q v F3 H3 (g.trans g3) ?_)
      rw [house_out hb rfl]; exact hv
    · obtain ⟨hka, rs, rfl⟩ := house_in hb
      have hz2 : rs.length ≤ 100000 ∧ SzAll rs := hz.2.1
      refine ss_nil (ss_one (ws_retD (de_c (c_eqNil hu (de_lcIf (Dx := fun d => d) (xs := rs) [("room", 1)] (lcok sc_is_house (by decide +kernel)) (fun d => !isRoomD d) (fun d => d) (by rw [List.map_id']; exact (di_list (de_ixT (d := .list rs) (de_v 0 (g.da hd)) de_int rfl)).i) (sz100 hz2.1) fun x hx v F' H' g' hv => ?_))) g.fh fun v F3 H3 g3 hv => q v F3 H3 (g.trans g3) ?_))
      · exact gb_name 1 sc_is_house.nd ⟨rfl, rfl, fun _ _ _ _ _ => dt_not (dt_val (x_is_room T hr (de_v 1 hv) (hz2.2.mem hx))), fun _ _ _ _ _ _ => de_v 1 hv⟩
      · rw [house_is hka, ← filter_none]; exact hv
  · refine ss_cons (ws_ifD (b := true) (DT.of_w (dw_or (cc := true) (dt_not (dt_val (de_isi (bb := true) T.m_isinstance T.m_tuple (de_v 0 hd) (kit_tuple _)))) (fun _ => dt_is_w (dw_or (cc := true) (dt_c (c_neI (de_lenT T.m_len (de_v 0 hd)) de_int)) (fun z => (ne2 hne z).elim)) (Bool.or_true _)))) hs (fun hb F2 H2 g => ?_) (fun hb F2 H2 g => nomatch hb))
    refine ss_one (ws_retD de_bool g.fh fun v F3 H3 g3 hv => q v F3 H3 (g.trans g3) ?_)
    rw [house_len hne]; exact hv
  · refine ss_cons (ws_ifD (b := true) (DT.of_w (dw_or (cc := true) (dt_not (dt_val (de_isi T.m_isinstance T.m_tuple (de_v 0 hd) hk))) (fun z => nomatch z))) hs (fun hb F2 H2 g => ?_) (fun hb F2 H2 g => nomatch hb))
    refine ss_one (ws_retD de_bool g.fh fun v F3 H3 g3 hv => q v F3 H3 (g.trans g3) ?_)
    rw [h0]; exact hv
theorem x_is_house {X : Cx} {σ : St} {F H : Hp} {e : Expr} {d : PyData} {p pos : Pos} {k : Nat} (T : Tx X.K X.mg) (hr : Room k X.A) (h : DE X e σ F H d) (hz : SzD d) (hk : 4 ≤ k := by decide) (hg : Gl X "is_house" := by rfl) (l : Pl X e [] pos := by exact ⟨rfl, rfl⟩) :
    DE X (.Call (.Name "is_house" p) [e] [] pos) σ F H (.bool (isHouseD d)) := de_call (ok_is_house T) (hr.mono hk) T.g_is_house T.F_is_house.kp T.b_is_house (dl_cons h dl_nil l.he) rfl ⟨d, rfl, hz⟩ rfl hg (by decide) l
/-- of a house need_house says nothing -/
theorem ok_need_house (T : Tx K mg) : FnOk P w K mg base CX0 5 T.f_need_house T.d_need_house ["thing"] (spF 1 (pre1 fun d => SzD d ∧ isHouseD d = true) (fn1 fun _ => .none)) := by
  refine okF T.F_need_house sc_need_house fun X cdv A outer s H0 E vs F H ds Q hX hr hl hs ha hp q => ?_
  obtain ⟨d, rfl, hz, hh⟩ := hp
  obtain ⟨v, rfl, hd⟩ := daAll1 ha
  subst hX
  have q : ∀ v F2 H2, Gr F H F2 H2 → Da F2 .none v → Q v H2 := q
  refine ss_one (ws_ifD (dt_not (dt_val (x_is_house T hr (de_v 0 hd) hz))) hs (fun hb F2 H2 g => ?_) (fun hb F2 H2 g => ?_))
  · rw [hh] at hb; exact nomatch hb
  · exact ss_nil (q _ F2 H2 g rfl)
theorem x_need_house {X : Cx} {σ : St} {F H : Hp} {e : Expr} {h : House} {p pos : Pos} {k : Nat} (T : Tx X.K X.mg) (hr : Room k X.A) (g : GoodHouse h) (he : DE X e σ F H (houseD h)) (hk : 5 ≤ k := by decide) (hg : Gl X "need_house" := by rfl) (l : Pl X e [] pos := by exact ⟨rfl, rfl⟩) :
    DE X (.Call (.Name "need_house" p) [e] [] pos) σ F H .none := de_call (ok_need_house T) (hr.mono hk) T.g_need_house T.F_need_house.kp T.b_need_house (dl_cons he dl_nil l.he) rfl ⟨_, rfl, szD_house g, isHouseD_house g⟩ rfl hg (by decide) l
end

/-! part pool -/
open PySem L2
def spPool (K : PySem.W.Frag) : Sp := fun vs H Q _ => ∃ (a : Addr) (ns : List Int) (k : Nat), vs = [.ref a, .int k] ∧ SqL K H a (ns.map V.int) ∧ k ≤ 1000 ∧ ∀ p H', H p = none → Same H H' → Pool H' p (53 * k) → Q (.ref p) H'
section
variable {P : Program} {w : World} {K : PySem.W.Frag} {mg : Str → Option Value} {base : Heap}
theorem ok_law_pool (T : Tx K mg) : FnOk P w K mg base CX0 1 T.f_law_pool T.d_law_pool ["script", "k"] (spPool K) := by
  refine okW T.F_law_pool sc_law_pool (fun vs H Q E ⟨a, ns, k, h, _⟩ => by rw [h]; rfl) fun cdv A outer s H vs Q E hr h => ?_
  obtain ⟨a, ns, k, rfl, hS, hk, q⟩ := h
  have nd := sc_law_pool.nd
  -- behind the cell's reading
  have rest : ∀ (c : Int) H1, Same H H1 → ∀ D : Ends, D.rt = Q → WSs (cxOf CX0 P w K mg base ["script", "k", "cell"] "_law_pool" (defScope s_law_pool) T.f_law_pool cdv A outer s H E).nox ((defBody s_law_pool).drop 2) D [some (.ref a), some (.int k), some (.int c)] H1 := by
    intro c H1 s1 D hD
    refine ss_cons (ws_ifD (F := H1) (dt_c (c_ge (de_v 2 (d := .int c) rfl) (de_pow de_int de_int ⟨by decide, by decide, by decide⟩))) (Same.refl _) (fun hb F2 H2 g => ?_) (fun hb F2 H2 g => ?_))
    · refine ss_one (ws_ret (we_lst (F := F2) (dl_cons (de_sub (de_v 2 (d := .int c) rfl) (de_pow de_int de_int ⟨by decide, by decide, by decide⟩)) (dl_cons de_int (dl_cons de_int dl_nil))) g.fh (by show 3 ≤ sizeLine; decide) fun l vs F3 H3 g3 hvs hl => ?_))
      obtain ⟨v1, r1, rfl, e1, hvs⟩ := hvs
      obtain ⟨v2, v3, rfl, e2, e3⟩ := daAll2 hvs
      obtain rfl := (show v1 = .int _ from e1)
      obtain rfl := (show v2 = .int _ from e2)
      obtain rfl := (show v3 = .int _ from e3)
      rw [hD]
      have s3 := s1.trans (g.hh.trans g3.hh)
      exact q l _ (s3.free hl) (s3.trans (same_upd hl)) ⟨_, _, _, upd_same, .inr rfl, by decide, by omega⟩
    · refine ss_nil (ss_one (ws_ret (we_lst (F := F2) (dl_cons (de_v 2 (d := .int c) rfl) (dl_cons de_int (dl_cons (de_mul de_int (de_v 1 (d := .int k) rfl) (.inl ⟨by decide, by decide⟩)) dl_nil))) g.fh (by show 3 ≤ sizeLine; decide) fun l vs F3 H3 g3 hvs hl => ?_)))
      obtain ⟨v1, r1, rfl, e1, hvs⟩ := hvs
      obtain ⟨v2, v3, rfl, e2, e3⟩ := daAll2 hvs
      obtain rfl := (show v1 = .int _ from e1)
      obtain rfl := (show v2 = .int _ from e2)
      obtain rfl := (show v3 = .int _ from e3)
      rw [hD]
      have s3 := s1.trans (g.hh.trans g3.hh)
      exact q l _ (s3.free hl) (s3.trans (same_upd hl)) ⟨_, _, _, upd_same, .inl rfl, by omega, by omega⟩
  refine ss_cons (ws_setD (F := H) 2 nd (d := .int 0) de_int (Same.refl _) fun v F2 H2 g hv => ?_)
  obtain rfl := (show v = .int 0 from hv)
  refine ss_cons (ws_ifD (F := H2) (dt_c (c_lt (de_v 1 (d := .int k) rfl) (de_lenQ T.m_len (ve_v 0) (g.hh.seq hS)))) (Same.refl _) (fun hb F3 H3 g3 => ?_) (fun hb F3 H3 g3 => ?_))
  · have hlt : k < ns.length := by
      have := of_decide_eq_true hb
      omega
    refine ss_one (ws_setD (F := H3) 2 nd (de_ixQ (ve_v 0) (de_v 1 (d := .int k) rfl) ((g.hh.trans g3.hh).seq hS) (Int.natCast_nonneg k) (n := ns[k]) (List.getElem?_eq_getElem hlt)) (Same.refl _) fun v F4 H4 g4 hv => ?_)
    obtain rfl := (show v = .int _ from hv)
    exact rest _ H4 (g.hh.trans (g3.hh.trans g4.hh)) _ rfl
  · exact ss_nil (rest 0 H3 (g.hh.trans g3.hh) _ rfl)
theorem take_bound {A B t : Int} (hA0 : 0 ≤ A) (hA : A ≤ 10000000570) (hB0 : 0 ≤ B) (hB : B ≤ 43000200) (ht0 : 0 ≤ t) (ht : t ≤ 1000001) : -(2 ^ 64) < A * B + 3581 * t * t ∧ A * B + 3581 * t * t < 2 ^ 64 := by
  have h1 : A * B ≤ 10000000570 * 43000200 := Int.mul_le_mul hA hB hB0 (by decide)
  have h2 : 0 ≤ A * B := Int.mul_nonneg hA0 hB0
  have h3 : 3581 * t * t ≤ (3581 * 1000001) * 1000001 := Int.mul_le_mul (by omega) ht ht0 (by decide)
  have h4 : 0 ≤ 3581 * t * t := Int.mul_nonneg (by omega) ht0
  constructor
  · have : (-(2 ^ 64) : Int) < 0 := by decide
    omega
  · have e1 : (10000000570 * 43000200 : Int) + (3581 * 1000001) * 1000001 < 2 ^ 64 := by decide
    omega
theorem ok_law_take (T : Tx K mg) : FnOk P w K mg base CX0 1 T.f_law_take T.d_law_take ["pool", "many"] spTake := by
  refine okW T.F_law_take sc_law_take (fun vs H Q E ⟨p, n, m, h, _⟩ => by rw [h]; rfl) fun cdv A outer s H vs Q E hr h => ?_
  obtain ⟨p, n, many, rfl, ⟨c, m, t, hP, hm, ht0, htn⟩, hn, h0, h1, q⟩ := h
  have nd := sc_law_take.nd
  have hu := hr.units
  have e0 : Da H (.list [.int c, .int m, .int t]) (.ref p) := ⟨p, _, rfl, hP, daAll_cons rfl (daAll_cons rfl (daAll_cons rfl daAll_nil))⟩
  refine ss_cons (ws_ifD (F := H) (dt_c (c_eqI (de_ixL (de_v 0 e0) de_int (d := .int m) rfl) de_int)) (Same.refl _) (fun hb F2 H2 g => ?_) (fun hb F2 H2 g => ?_))
  · -- by its own digits
    refine ss_cons (ws_setD (F := H2) 2 nd (de_mod (de_ixL (de_v 0 (g.daH e0)) de_int (d := .int c) rfl) (de_v 1 (d := .int many) rfl) h0) (Same.refl _) fun v F3 H3 g3 hv => ?_)
    obtain rfl := (show v = .int _ from hv)
    have e3 : Da H3 (.list [.int c, .int m, .int t]) (.ref p) := g3.daH (g.daH e0)
    have s3 : Same H H3 := g.hh.trans g3.hh
    refine ss_cons (ws_asg (DE.go (F := H3) (de_fdiv (de_ixL (de_v 0 e3) de_int (d := .int c) rfl) (de_v 1 (d := .int many) rfl) ⟨h0, h1⟩) (Same.refl _) fun v F4 H4 g4 hv => ?_))
    obtain rfl := (show v = .int _ from hv)
    refine wg_sub (F := H4) (ve_v 0) de_int (Same.refl _) ((s3.trans g4.hh) _ _ hP) (j := 0) rfl fun F5 H5 g5 => ?_
    have s5 : Same H H5 := s3.trans (g4.hh.trans g5.hh)
    refine ss_one (ws_ret (VE.go (F := upd H5 p (.lst ([V.int c, .int m, .int t].set 0 (.int (c / many))))) (ve_v 2) (Same.refl _) fun F6 H6 g6 => ?_))
    refine q _ H6 (Int.emod_nonneg _ (by omega)) (Int.emod_lt_of_pos _ h0) (fun b u hb e => g6.hh _ _ (by rw [upd_ne hb]; exact s5 _ _ e)) ⟨c / many, m, t, g6.hh _ _ upd_same, hm, ht0, by omega⟩
  · have s2 : Same H H2 := g.hh
    refine ss_nil ?_
    refine ss_cons (ws_asg (DE.go (F := H2) (de_add (de_ixL (de_v 0 (g.daH e0)) de_int (d := .int t) rfl) de_int) (Same.refl _) fun v F4 H4 g4 hv => ?_))
    obtain rfl := (show v = .int _ from hv)
    refine wg_sub (F := H4) (ve_v 0) de_int (Same.refl _) ((s2.trans g4.hh) _ _ hP) (j := 2) rfl fun F5 H5 g5 => ?_
    have s5 : Same H H5 := s2.trans (g4.hh.trans g5.hh)
    generalize hH6 : upd H5 p (.lst ([V.int c, .int m, .int t].set 2 (.int (t + 1)))) = H6
    have k6 : ∀ b u, b ≠ p → H b = some u → H6 b = some u := fun b u hb e => by rw [← hH6, upd_ne hb]; exact s5 _ _ e
    have P6 : H6 p = some (.lst [.int c, .int m, .int (t + 1)]) := by rw [← hH6, upd_same]; rfl
    have e6 : Da H6 (.list [.int c, .int m, .int (t + 1)]) (.ref p) := ⟨p, _, rfl, P6, daAll_cons rfl (daAll_cons rfl (daAll_cons rfl daAll_nil))⟩
    clear hH6
    refine ss_cons (ws_setD (F := H6) 3 nd (de_ixL (de_v 0 e6) de_int (d := .int (t + 1)) rfl) (Same.refl _) fun v F7 H7 g7 hv => ?_)
    obtain rfl := (show v = .int _ from hv)
    refine ss_cons (ws_setD (F := H7) 4 nd (de_mul (de_add (de_mod (de_ixL (de_v 0 (g7.daH e6)) de_int (d := .int c) rfl) de_int (by decide)) de_int) (de_add (de_mul de_int (de_v 3 (d := .int (t + 1)) rfl) (.inl ⟨by decide, by decide⟩)) de_int) (.inl ?_)) (Same.refl _) fun v F8 H8 g8 hv => ?_)
    · have a1 := Int.emod_nonneg c (show (9999999551 : Int) ≠ 0 by decide)
      have a2 := Int.emod_lt_of_pos c (show (0 : Int) < 9999999551 by decide)
      exact ⟨by omega, by omega⟩
    obtain rfl := (show v = .int _ from hv)
    refine ss_cons (ws_setD (F := H8) 4 nd (de_add (de_v 4 (d := .int ((c % 9999999551 + 1019) * (43 * (t + 1) + 73))) rfl) (de_mul (de_mul de_int (de_v 3 (d := .int (t + 1)) rfl) (.inl ⟨by decide, by decide⟩)) (de_v 3 (d := .int (t + 1)) rfl) (.inr ⟨by omega, by omega⟩))) (Same.refl _) fun v F9 H9 g9 hv => ?_)
    obtain rfl := (show v = .int _ from hv)
    have hb2 : -(2 ^ 64) < (c % 9999999551 + 1019) * (43 * (t + 1) + 73) + 3581 * (t + 1) * (t + 1) ∧ (c % 9999999551 + 1019) * (43 * (t + 1) + 73) + 3581 * (t + 1) * (t + 1) < 2 ^ 64 := by
      have a1 := Int.emod_nonneg c (show (9999999551 : Int) ≠ 0 by decide)
      have a2 := Int.emod_lt_of_pos c (show (0 : Int) < 9999999551 by decide)
      exact take_bound (by omega) (by omega) (by omega) (by omega) (by omega) (by omega)
    generalize (c % 9999999551 + 1019) * (43 * (t + 1) + 73) + 3581 * (t + 1) * (t + 1) = M at hb2 ⊢
    refine ss_cons (ws_setD (F := H9) 4 nd (de_mod (de_mul (de_v 4 (d := .int M) rfl) (de_v 4 (d := .int M) rfl) (.inl hb2)) de_int (by decide)) (Same.refl _) fun v F10 H10 g10 hv => ?_)
    obtain rfl := (show v = .int _ from hv)
    have b1 := Int.emod_nonneg (M * M) (show (99999999581 : Int) ≠ 0 by decide)
    have b2 := Int.emod_lt_of_pos (M * M) (show (0 : Int) < 99999999581 by decide)
    generalize M * M % 99999999581 = L at b1 b2 ⊢
    refine ss_one (ws_retD (F := H10) (de_mod (de_fdiv (de_mod (de_mul (de_v 4 (d := .int L) rfl) (de_add (de_v 4 (d := .int L) rfl) de_int) (.inl ⟨by omega, by omega⟩)) de_int (by decide)) de_int ⟨by decide, by decide⟩) (de_v 1 (d := .int many) rfl) h0) (Same.refl _) fun v F11 H11 g11 hv => ?_)
    obtain rfl := (show v = .int _ from hv)
    have s11 : Same H6 H11 := g7.hh.trans (g8.hh.trans (g9.hh.trans (g10.hh.trans g11.hh)))
    exact q _ H11 (Int.emod_nonneg _ (by omega)) (Int.emod_lt_of_pos _ h0) (fun b u hb e => s11 _ _ (k6 b u hb e)) ⟨c, m, t + 1, s11 _ _ P6, hm, by omega, by omega⟩
end

/-! part some -/
open PySem L2
section
variable {P : Program} {w : World} {K : PySem.W.Frag} {mg : Str → Option Value} {base : Heap}
theorem x_law_take {p : Addr} {c k : Nat} {X : Cx} {σ : St} {F : Hp} {a b : Expr} {pos q : Pos} {m : Int} (T : Tx X.K X.mg) (hr : Room k X.A) (hp : VE X a σ F F (.ref p)) (he : Px p c X b σ F (fun d => ∃ i, d = .int i ∧ (0 : Int) < i ∧ i ≤ m)) (hmm : m < 1073741824) (hk : 1 ≤ k := by decide) (hg : Gl X "_law_take" := by rfl) (l : Pl X a [b] pos := by exact ⟨rfl, rfl⟩) (l2 : starEach [b] X.env = [(false, eval b X.env)] := by rfl) :
    Px p (c + 1) X (.Call (.Name "_law_take" q) [a, b] [] pos) σ F (fun d => ∃ i, d = .int i ∧ (0 : Int) ≤ i ∧ i < m) := px_take (ok_law_take T) (hr.mono hk) T.g_law_take T.F_law_take.kp T.b_law_take hp he hmm hg l l2
/-- a drawing below a known number -/
theorem x_take {p : Addr} {k : Nat} {X : Cx} {σ : St} {F : Hp} {a b : Expr} {pos q : Pos} {m : Int} (T : Tx X.K X.mg) (hr : Room k X.A) (hp : VE X a σ F F (.ref p)) (he : DE X b σ F F (.int m)) (h0 : 0 < m) (hmm : m < 1073741824) (hk : 1 ≤ k := by decide) (hg : Gl X "_law_take" := by rfl) (l : Pl X a [b] pos := by exact ⟨rfl, rfl⟩) (l2 : starEach [b] X.env = [(false, eval b X.env)] := by rfl) :
    Px p 1 X (.Call (.Name "_law_take" q) [a, b] [] pos) σ F (fun d => ∃ i, d = .int i ∧ (0 : Int) ≤ i ∧ i < m) := x_law_take (c := 0) T hr hp ((px_d he).imp fun d e => ⟨m, e, h0, Int.le_refl _⟩) hmm hk hg l l2
def MemD (R : PyData → Prop) (lo hi : Nat) (d : PyData) : Prop := ∃ ds, d = .list ds ∧ lo ≤ ds.length ∧ ds.length ≤ hi ∧ ∀ x ∈ ds, R x
/-- some of some kinds -/
theorem ok_law_some (T : Tx K mg) : FnOk P w K mg base CX0 2 T.f_law_some T.d_law_some ["pool", "kinds", "many"] (spN 300 2 (fun ds => ∃ (ks : List PyData) (n : Nat), ds = [.list ks, .int n] ∧ 0 < ks.length ∧ ks.length ≤ 1000 ∧ n ≤ 300) (fun ds d => ∀ (ks : List PyData) (n : Nat), ds = [.list ks, .int n] → ∃ es, d = .list es ∧ es.length = n ∧ ∀ x ∈ es, x ∈ ks)) := by
  refine okN T.F_law_some sc_law_some rfl fun X cdv A outer s H0 E p m us F H ds Q hX hr hP hm hs hp ha hpre q => ?_
  obtain ⟨ks, n, rfl, hk0, hk1, hn⟩ := hpre
  obtain ⟨v1, v2, rfl, h1, h2⟩ := daAll2 ha
  obtain rfl := (show v2 = .int n from h2)
  subst hX
  refine ss_one (ws_ret (PxN.go (PxN.up (pxn_lcR (M := n) (c0 := 0) (ce := 1) (A := fun k => k = n) (R := fun d => d ∈ ks) [("k", 3)] (lcok sc_law_some (by decide +kernel)) T.m_range ((px_d (de_v 2 (d := .int n) rfl)).imp fun d e => ⟨n, e, Nat.le_refl _, rfl⟩) (by omega) fun k F' H' hk0' hk1' sF => ?_) (by omega)) hs hp hP hm fun d v F2 H2 g P2 hd hR hf => q d v F2 H2 g P2 hd ?_ hf))
  · refine gb_name 3 sc_law_some.nd ⟨rfl, rfl, fun _ _ _ _ _ => ?_⟩
    exact px_ixL (c1 := 0) (c2 := 1) (px_d (de_v 1 (h1.mono sF))) (Px.imp (x_take T hr (ve_v 0) (de_lenL T.m_len (de_v 1 (h1.mono sF))) (by omega) (by omega)) fun d ⟨i, e, h0, hl⟩ => ⟨i, e, h0, fun d' e' => ⟨ks, e', hl, fun x hx => hx⟩⟩)
  · obtain ⟨es, rfl, _, hl, hR⟩ := hR
    intro ks' n' e
    have e1 : ks = ks' := by injection e with e1 e2; injection e1
    have e2 : (n : Int) = n' := by injection e with e1 e2; injection e2 with e3 e4; injection e3
    subst e1
    exact ⟨es, rfl, by omega, hR⟩
end

/-! part kinds -/
open PySem L2
theorem letters_len : letters.length = 26 := by decide +kernel
theorem letters_sz : letters.length ≤ sizeLine := by decide +kernel
/-- the t-th spare kind -/
def cand (t : Nat) : Str := ⟨#[letters.cps.toList.getD (t / 26) 0, letters.cps.toList.getD (t % 26) 0, 122, 122]⟩
theorem letters_nd : letters.cps.toList.Nodup := by decide +kernel
theorem cand_inj {s t : Nat} (hs : s < 676) (ht : t < 676) (e : cand s = cand t) : s = t := by
  unfold cand at e
  have ll : letters.cps.toList.length = 26 := by decide +kernel
  have e1 : letters.cps.toList.getD (s / 26) 0 = letters.cps.toList.getD (t / 26) 0 ∧ letters.cps.toList.getD (s % 26) 0 = letters.cps.toList.getD (t % 26) 0 := by
    injection e with e
    have := congrArg Array.toList e
    simpa using this
  have gi : ∀ i j : Nat, i < 26 → j < 26 → letters.cps.toList.getD i 0 = letters.cps.toList.getD j 0 → i = j := by
    intro i j hi hj h
    have hi' : i < letters.cps.toList.length := by omega
    have hj' : j < letters.cps.toList.length := by omega
    rw [List.getD_eq_getElem?_getD, List.getD_eq_getElem?_getD, List.getElem?_eq_getElem hi', List.getElem?_eq_getElem hj'] at h
    exact (List.getElem_inj letters_nd).mp h
  have a := gi _ _ (by omega) (by omega) e1.1
  have b := gi _ _ (by omega) (by omega) e1.2
  omega
theorem cand_few {t : Nat} {ks : List Str} (ht : t ≤ 676) (h : ∀ s, s < t → cand s ∈ ks) : t ≤ ks.length := by
  have hn : ((List.range t).map cand).Nodup := by
    rw [List.nodup_iff_pairwise_ne, List.pairwise_map]
    exact (List.nodup_iff_pairwise_ne.mp List.nodup_range).imp_of_mem fun {a b} ha hb hne e => hne (cand_inj (by have := List.mem_range.mp ha; omega) (by have := List.mem_range.mp hb; omega) e)
  have := subset_length (ks := ks) hn fun x hx => by
    obtain ⟨s, hs, rfl⟩ := List.mem_map.mp hx
    exact h s (List.mem_range.mp hs)
  simpa using this
theorem cand_kind {t : Nat} (ht : t < 676) : isKind (cand t) = true := by
  have ll : letters.cps.toList.length = 26 := by decide +kernel
  have g : ∀ i : Nat, i < 26 → letters.cps.toList.getD i 0 ∈ letters.cps.toList := by
    intro i hi
    have hi' : i < letters.cps.toList.length := by omega
    rw [List.getD_eq_getElem?_getD, List.getElem?_eq_getElem hi']
    exact List.getElem_mem hi'
  refine isKind_iff.mpr ⟨fun c hc => ?_, by show 1 ≤ 4; decide, by show 4 ≤ 4; decide⟩
  have hz : (122 : Nat) ∈ letters.cps.toList := by decide +kernel
  have : c = letters.cps.toList.getD (t / 26) 0 ∨ c = letters.cps.toList.getD (t % 26) 0 ∨ c = 122 ∨ c = 122 := by
    simpa only [cand, List.mem_cons, List.not_mem_nil, or_false] using hc
  rcases this with rfl | rfl | rfl | rfl
  · exact g _ (by omega)
  · exact g _ (by omega)
  · exact hz
  · exact hz
theorem ks_of {ds : List PyData} (h : ∀ x ∈ ds, ∃ c ∈ letters.cps.toList, x = .str ⟨#[c]⟩) : ∃ ys : List Str, ds = ys.map .str ∧ ∀ y ∈ ys, ∃ c ∈ letters.cps.toList, y = ⟨#[c]⟩ := by
  induction ds with
  | nil => exact ⟨[], rfl, fun y hy => nomatch hy⟩
  | cons d ds ih =>
    obtain ⟨ys, rfl, hy⟩ := ih fun x hx => h x (List.mem_cons_of_mem _ hx)
    obtain ⟨c, hc, rfl⟩ := h _ List.mem_cons_self
    refine ⟨⟨#[c]⟩ :: ys, rfl, fun y hm => ?_⟩
    rcases List.mem_cons.mp hm with rfl | hm
    · exact ⟨c, hc, rfl⟩
    · exact hy y hm
theorem sum_ones {ys : List Str} (h : ∀ y ∈ ys, ∃ c ∈ letters.cps.toList, y = ⟨#[c]⟩) : (ys.map (·.length)).sum = ys.length := by
  induction ys with
  | nil => rfl
  | cons y ys ih =>
    obtain ⟨c, _, rfl⟩ := h y List.mem_cons_self
    have := ih fun z hz => h z (List.mem_cons_of_mem _ hz)
    simp only [List.map_cons, List.sum_cons, this, List.length_cons]
    show 1 + ys.length = _
    omega
/-- the drawn kind -/
theorem kind_join {ds : List PyData} (h0 : 1 ≤ ds.length) (h4 : ds.length ≤ 4) (h : ∀ x ∈ ds, ∃ c ∈ letters.cps.toList, x = .str ⟨#[c]⟩) :
    ∃ ys : List Str, PyData.list ds = .list (ys.map .str) ∧ (ys.map (·.length)).sum + ys.length * ("" : Str).length ≤ 16777216 ∧ ∃ x, PyData.str (Txt.join "" ys) = .str x ∧ isKind x = true := by
  obtain ⟨ys, rfl, hy⟩ := ks_of h
  rw [List.length_map] at h0 h4
  obtain ⟨h1, h2⟩ := join_letters hy
  refine ⟨ys, rfl, ?_, _, rfl, isKind_iff.mpr ⟨h1, by omega, by omega⟩⟩
  rw [sum_ones hy]
  have : (("" : Str)).length = 0 := by decide +kernel
  rw [this]
  omega
/-- what a turn knows -/
structure KSt (p l : Addr) (F0 H0 F H : Hp) (ks : List Str) (n : Nat) : Prop where
  g : Gp p F0 H0 F H
  fp : F p = none
  fl : F l = none
  hl : H l = some (.lst (ks.map V.str))
  P : Pool H p n
theorem KSt.go {p l : Addr} {F0 H0 F H F' F2 H2 : Hp} {ks : List Str} {n n2 : Nat} (k : KSt p l F0 H0 F H ks n) (hlp : l ≠ p) (s : Same F F') (g : Gp p F' H F2 H2) (P : Pool H2 p n2) : KSt p l F0 H0 F H2 ks n2 :=
  ⟨k.g.trans (g.back s), k.fp, k.fl, g.hh _ _ hlp k.hl, P⟩
theorem KSt.gr {p l : Addr} {F0 H0 F H F' F2 H2 : Hp} {ks : List Str} {n : Nat} (k : KSt p l F0 H0 F H ks n) (hlp : l ≠ p) (s : Same F F') (g : Gr F' H F2 H2) : KSt p l F0 H0 F H2 ks n := k.go hlp s g.gp (k.P.mono g.hh)
theorem KSt.cell {p l : Addr} {F0 H0 F H : Hp} {ks : List Str} {n : Nat} (k : KSt p l F0 H0 F H ks n) : Same (upd F l (.lst (ks.map V.str))) H := Same.cell k.g.fh k.hl
theorem KSt.sub {p l : Addr} {F0 H0 F H : Hp} {ks : List Str} {n : Nat} (k : KSt p l F0 H0 F H ks n) : Same F (upd F l (.lst (ks.map V.str))) := same_upd k.fl
theorem KSt.da {p l : Addr} {F0 H0 F H : Hp} {ks : List Str} {n : Nat} (k : KSt p l F0 H0 F H ks n) : Da (upd F l (.lst (ks.map V.str))) (.list (ks.map .str)) (.ref l) := ⟨l, _, rfl, upd_same, daAll_strs ks⟩
theorem KSt.up {p l : Addr} {F0 H0 F H : Hp} {ks : List Str} {n m : Nat} (k : KSt p l F0 H0 F H ks n) (h : n ≤ m) : KSt p l F0 H0 F H ks m := ⟨k.g, k.fp, k.fl, k.hl, k.P.mono (Same.refl _) h⟩
theorem last_str {ks : List Str} (h : ks ≠ []) : ∃ z ∈ ks, L2.atI (ks.map PyData.str) (-1) = some (.str z) := by
  obtain ⟨z, hz⟩ : ∃ z, ks.getLast? = some z := by
    cases e : ks.getLast? with
    | none => exact absurd (List.getLast?_eq_none_iff.mp e) h
    | some z => exact ⟨z, rfl⟩
  obtain ⟨ys, rfl⟩ := List.getLast?_eq_some_iff.mp hz
  refine ⟨z, by simp, ?_⟩
  rw [List.map_append]
  exact atI_last _ _
theorem kind_cut {z : Str} {c : Nat} (h : isKind z = true) (hc : c ∈ letters.cps.toList) : isKind (cutS (z ++ ⟨#[c]⟩) none (some 4)) = true := by
  obtain ⟨h1, h2, h3⟩ := isKind_iff.mp h
  refine isKind_iff.mpr ⟨(h1.append (LS.one hc)).cut _ _, ?_, ?_⟩
  · rw [show (4 : Int) = ((4 : Nat) : Int) from rfl, cutS_hi_length, str_append_length]
    show 1 ≤ min 4 (z.length + 1)
    omega
  · rw [show (4 : Int) = ((4 : Nat) : Int) from rfl, cutS_hi_length]
    omega
theorem kind_mid {z : Str} {c : Nat} {at' : Int} (h : isKind z = true) (hc : c ∈ letters.cps.toList) (h0 : 0 ≤ at') (h1 : at' < z.length) : isKind (cutS z none (some at') ++ ⟨#[c]⟩ ++ cutS z (some (at' + 1)) none) = true := by
  obtain ⟨k1, k2, k3⟩ := isKind_iff.mp h
  obtain ⟨n, rfl⟩ : ∃ n : Nat, at' = (n : Int) := ⟨at'.toNat, by omega⟩
  refine isKind_iff.mpr ⟨((k1.cut _ _).append (LS.one hc)).append (k1.cut _ _), ?_, ?_⟩
  all_goals
    rw [str_append_length, str_append_length, cutS_hi_length, show ((n : Int) + 1) = ((n + 1 : Nat) : Int) by omega, cutS_lo_length]
  · show 1 ≤ min n z.length + 1 + (z.length - (n + 1)); omega
  · show min n z.length + 1 + (z.length - (n + 1)) ≤ 4; omega
theorem cand_eq {t : Nat} {a b : Nat} (ha : L2.atI letters.cps.toList ((t : Int) / 26) = some a) (hb : L2.atI letters.cps.toList ((t : Int) % 26) = some b) (ht : t < 676) : (⟨#[a]⟩ : Str) ++ ⟨#[b]⟩ ++ ("zz" : Str) = cand t := by
  have ll : letters.cps.toList.length = 26 := by decide +kernel
  have hz : (("zz" : Str)) = ⟨#[122, 122]⟩ := by decide +kernel
  have e1 : (t : Int) / 26 = ((t / 26 : Nat) : Int) := by omega
  have e2 : (t : Int) % 26 = ((t % 26 : Nat) : Int) := by omega
  have g1 : t / 26 < letters.cps.toList.length := by omega
  have g2 : t % 26 < letters.cps.toList.length := by omega
  rw [e1, atI_nat (List.getElem?_eq_getElem g1)] at ha
  rw [e2, atI_nat (List.getElem?_eq_getElem g2)] at hb
  cases ha; cases hb
  rw [hz]
  unfold cand
  rw [List.getD_eq_getElem?_getD, List.getD_eq_getElem?_getD, List.getElem?_eq_getElem g1, List.getElem?_eq_getElem g2]
  rfl
theorem let_at {i : Int} (h0 : 0 ≤ i) (h1 : i < 26) : ∃ c, L2.atI letters.cps.toList i = some c := by
  have ll : letters.cps.toList.length = 26 := by decide +kernel
  have g1 : i.toNat < letters.cps.toList.length := by omega
  exact ⟨_, Eq.trans (congrArg (L2.atI letters.cps.toList) (show i = (i.toNat : Int) by omega)) (atI_nat (List.getElem?_eq_getElem g1))⟩
theorem len_of_mem {ks : List Str} {z : Str} (h : ∀ k ∈ ks, isKind k = true) (hz : z ∈ ks) : z.length ≤ 100000 := by have := isKind_len (h z hz); omega
section
variable {P : Program} {w : World} {K : PySem.W.Frag} {mg : Str → Option Value} {base : Heap}
theorem ok_law_kinds (T : Tx K mg) : FnOk P w K mg base CX0 2 T.f_law_kinds T.d_law_kinds ["pool", "many"] (spP 540 1 (fun ds => ∃ n : Nat, ds = [.int n] ∧ n ≤ 60) (fun ds d => ∀ n : Nat, ds = [.int n] → ∃ ks : List Str, d = ksD ks ∧ ks.length = n ∧ ∀ k ∈ ks, isKind k = true)) := by
  refine okP T.F_law_kinds sc_law_kinds rfl fun X cdv A outer s H0 E p m us F H ds Q hX hr hP hm hs hp ha hpre q => ?_
  obtain ⟨n, rfl, hn⟩ := hpre
  obtain ⟨v1, rfl, h1⟩ := daAll1 ha
  obtain rfl := (show v1 = .int n from h1)
  have nd := sc_law_kinds.nd
  have hu := hr.units
  have q : ∀ v F2 H2 (ks : List Str), Gp p F H F2 H2 → Pool H2 p (m + 540) → Da F2 (ksD ks) v → ks.length = n → (∀ k ∈ ks, isKind k = true) → Q v H2 := fun v F2 H2 ks g P2 hd hl hk => q (ksD ks) v F2 H2 g P2 hd fun n' e => ⟨ks, rfl, by
    have : (n : Int) = n' := by injection e with e1 e2; injection e1
    omega, hk⟩
  subst hX
  clear ha h1
  -- letters, found
  refine ss_cons (ws_setD (F := F) 2 nd (d := .str letters) de_str hs fun v F2 H2 g hv => ?_)
  obtain rfl := (show v = .str letters from hv)
  replace g := g.back (Same.refl F)
  refine ss_cons (ws_set 3 nd (we_lst (F := F) (ds := []) dl_nil g.fh (Nat.zero_le _) fun l vs F3 H3 g3 hvs hl => ?_))
  obtain rfl : vs = [] := hvs
  have g3' := g.trans (g3.back (Same.refl F))
  have P3 : Pool (upd H3 l (.lst [])) p m := hP.mono (g3'.hh.trans (same_upd hl))
  have hlp : l ≠ p := fun z => by
    subst z
    obtain ⟨o, ho⟩ := (hP.mono g3'.hh : Pool H3 l m).some
    rw [ho] at hl; cases hl
  have hHl : H l = none := g3'.hh.free hl
  have hFl : F l = none := hs.free hHl
  have gp3 : Gp p F H F (upd H3 l (.lst [])) := (g3'.open' hl).gp
  clear g g3 g3'
  refine ss_cons (ws_for0 (F := F) PassesOwn.never rfl (di_range1 T.m_range (de_v 1 (d := .int n) rfl) ⟨by omega, by omega⟩) gp3.fh fun F1 H1 g1 => ⟨fun i σ' F' H' => F' = F1 ∧ ∃ (ks : List Str) (y4 y5 y6 y7 y8 y9 : Option V), σ' = [some (.ref p), some (.int n), some (.str letters), some (.ref l), y4, y5, y6, y7, y8, y9] ∧ KSt p l F H F1 H' ks (m + 9 * i) ∧ ks.length = i ∧ (∀ k ∈ ks, isKind k = true), ?_, ?_, ?_, ?_⟩)
  · refine ⟨rfl, [], none, none, none, none, none, none, rfl, ⟨gp3.trans g1.gp, ?_, g1.f0 hFl upd_same, g1.hh _ _ upd_same, P3.mono g1.hh⟩, rfl, (fun k hk => nomatch hk)⟩
    obtain ⟨o, ho⟩ := P3.some
    exact g1.f0 hp ho
  · rintro i σ' F' H' ⟨rfl, ks, y4, y5, y6, y7, y8, y9, rfl, k, _⟩
    exact ⟨Same.refl _, k.g.fh⟩
  · rintro i d v σ' F' H' hd ⟨rfl, ks, y4, y5, y6, y7, y8, y9, rfl, k, hk, hks⟩ hv
    obtain ⟨rfl, hi⟩ := intsD_get hd
    obtain rfl := (show v = .int _ from hv)
    clear hv hd
    have hi' : i < n := by omega
    refine wg_name 4 nd ?_
    -- the drawn kind
    refine ss_cons (ws_set 5 nd (Px.go (px_join (z := "") (R := fun d => ∃ x, d = .str x ∧ isKind x = true) (ys := []) de_str (Px.imp (px_lcR (M := 4) (c0 := 1) (ce := 1) (A := fun k => 1 ≤ k) (R := fun d => ∃ c ∈ letters.cps.toList, d = .str ⟨#[c]⟩) [("j", 6)] (lcok sc_law_kinds (by decide +kernel)) T.m_range
      (Px.imp (px_add (c1 := 0) (c2 := 1) (A := fun i => i = 1) (B := fun i => 0 ≤ i ∧ i < 4) (Px.imp (px_d de_int) fun d e => ⟨1, e, rfl⟩) (x_take T hr (ve_v 0) de_int (by decide) (by decide))) fun d ⟨a, b, e, h1, h2⟩ => ⟨(a + b).toNat, by rw [e]; congr 1; omega, by omega, by omega⟩) (by decide)
      fun k F2 H2 _ _ _ => gb_name 6 nd ⟨rfl, rfl, fun _ _ _ _ _ => px_ixS (de_v 2 (d := .str letters) rfl) letters_sz (x_take T hr (ve_v 0) de_int (by decide) (by decide))⟩)
      fun d ⟨ds, e, h4, h1, hR⟩ => by subst e; exact kind_join h1 h4 hR)) k.g.fh k.fp k.P (by omega) fun d v F2 H2 g2 P2 hd hR => ?_))
    obtain ⟨x, rfl, hx⟩ := hR
    obtain rfl := (show v = .str x from hd)
    replace k := k.go hlp (Same.refl _) g2 P2
    -- way
    refine ss_cons (ws_set 7 nd (Px.go (x_take T hr (ve_v 0) de_int (by decide) (by decide)) k.g.fh k.fp k.P (by omega) fun d v F3 H3 g3 P3 hd' hR => ?_))
    obtain ⟨way, rfl, hw0, hw1⟩ := hR
    obtain rfl := (show v = .int way from hd')
    replace k := k.go hlp (Same.refl _) g3 P3
    clear g2 P2 g3 P3 hd hd'
    have fp' : (upd F' l (.lst (ks.map V.str))) p = none := by rw [upd_ne (fun z => hlp z.symm)]; exact k.fp
    have hne : SeqAt.shaped (ksD ks) = true := (lay_ks hks).shaped
    -- the beginning of another
    refine ss_cut (fun σ1 H1 => ∃ (x : Str), σ1 = [some (.ref p), some (.int n), some (.str letters), some (.ref l), some (.int (0 + (i : Int))), some (.str x), y6, some (.int way), y8, y9] ∧ isKind x = true ∧ KSt p l F H F' H1 ks (m + 9 * i + 7)) (ws_ifD (F := upd F' l (.lst (ks.map V.str))) (DT.of_w (dw_and (dt_c (c_eqI (de_v 7 (d := .int way) rfl) de_int)) fun _ => dw_and1 (dt_c (c_is (c_ne hu (de_v 3 k.da) (de_lst dl_nil) hne (by rfl)) (by rw [show PyData.eqv (.list (ks.map .str)) (.list []) = decide (ks = []) from eqv_ks ks []]))))) k.cell (fun hb F4 H4 g4 => ?_) (fun hb F4 H4 g4 => ?_)) ?_
    · have hkn : ks ≠ [] := by
        intro z
        rw [z] at hb
        simp at hb
      obtain ⟨z, hz, hat⟩ := last_str hkn
      replace k := k.gr hlp k.sub g4
      refine ss_one (ws_set 5 nd (Px.go (px_slHi (A := fun x => ∃ c ∈ letters.cps.toList, x = z ++ ⟨#[c]⟩) (Px.imp (px_addS (c1 := 0) (c2 := 1) (A := fun x => x = z) (B := fun y => ∃ c ∈ letters.cps.toList, y = ⟨#[c]⟩) (Px.imp (px_d (de_ixL (d := .str z) (de_v 3 k.da) (de_neg de_int) hat)) fun d e => ⟨z, e, rfl, len_of_mem hks hz⟩)
        (Px.imp (px_ixS (de_v 2 (d := .str letters) rfl) letters_sz (x_take T hr (ve_v 0) de_int (by decide) (by decide))) fun d ⟨c, hc, e⟩ => ⟨⟨#[c]⟩, e, ⟨c, hc, rfl⟩, by show 1 ≤ 100000; decide⟩)) fun d ⟨a, b, e, h1, c, hc, h2⟩ => ⟨a ++ b, e, ⟨c, hc, by rw [h1, h2]⟩, by
          rw [h1, h2, str_append_length]
          have := isKind_len (hks z hz)
          show z.length + 1 ≤ 100000
          omega⟩) de_int) k.cell fp' k.P (by omega) fun d v F5 H5 g5 P5 hd hR => ?_))
      obtain ⟨x', rfl, c, hc, rfl⟩ := hR
      obtain rfl := (show v = .str _ from hd)
      exact ⟨_, rfl, kind_cut (hks z hz) hc, (k.go hlp k.sub g5 P5).up (by omega)⟩
    · exact ss_nil ⟨x, rfl, hx, (k.gr hlp k.sub g4).up (by omega)⟩
    rintro σ1 H1 ⟨x, rfl, hx, k⟩
    -- another, a letter apart
    refine ss_cut (fun σ1 H1 => ∃ (x : Str) (y8 : Option V), σ1 = [some (.ref p), some (.int n), some (.str letters), some (.ref l), some (.int (0 + (i : Int))), some (.str x), y6, some (.int way), y8, y9] ∧ isKind x = true ∧ KSt p l F H F' H1 ks (m + 9 * i + 9)) (ws_ifD (F := upd F' l (.lst (ks.map V.str))) (DT.of_w (dw_and (dt_c (c_eqI (de_v 7 (d := .int way) rfl) de_int)) fun _ => dw_and1 (dt_c (c_is (c_ne hu (de_v 3 k.da) (de_lst dl_nil) hne (by rfl)) (by rw [show PyData.eqv (.list (ks.map .str)) (.list []) = decide (ks = []) from eqv_ks ks []]))))) k.cell (fun hb F4 H4 g4 => ?_) (fun hb F4 H4 g4 => ?_)) ?_
    · have hkn : ks ≠ [] := by
        intro z
        rw [z] at hb
        simp at hb
      obtain ⟨z, hz, hat⟩ := last_str hkn
      have hzl := isKind_len (hks z hz)
      have hz100 : z.length ≤ sizeLine := sz100 (by omega)
      replace k := k.gr hlp k.sub g4
      refine ss_cons (ws_set 8 nd (Px.go (x_take T hr (ve_v 0) (de_lenS T.m_len (de_ixL (d := .str z) (de_v 3 k.da) (de_neg de_int) hat) hz100) (by omega) (by omega)) k.cell fp' k.P (by omega) fun d v F5 H5 g5 P5 hd hR => ?_))
      obtain ⟨at', rfl, ha0, ha1⟩ := hR
      obtain rfl := (show v = .int at' from hd)
      replace k := k.go hlp k.sub g5 P5
      refine ss_one (ws_set 5 nd (Px.go (Px.imp (px_addS (c1 := 1) (c2 := 0) (A := fun x => ∃ c ∈ letters.cps.toList, x = cutS z none (some at') ++ ⟨#[c]⟩) (B := fun y => y = cutS z (some (at' + 1)) none) (Px.imp (px_addS (c1 := 0) (c2 := 1) (A := fun x => x = cutS z none (some at')) (B := fun y => ∃ c ∈ letters.cps.toList, y = ⟨#[c]⟩)
          (Px.imp (px_d (de_slHi (de_ixL (d := .str z) (de_v 3 k.da) (de_neg de_int) hat) (de_v 8 (d := .int at') rfl) hz100)) fun d e => ⟨_, e, rfl, ?_⟩)
          (Px.imp (px_ixS (de_v 2 (d := .str letters) rfl) letters_sz (x_take T hr (ve_v 0) de_int (by decide) (by decide))) fun d ⟨c, hc, e⟩ => ⟨⟨#[c]⟩, e, ⟨c, hc, rfl⟩, by show 1 ≤ 100000; decide⟩)) fun d ⟨a, b, e, h1, c, hc, h2⟩ => ⟨a ++ b, e, ⟨c, hc, by rw [h1, h2]⟩, ?_⟩)
        (Px.imp (px_d (de_slLo (de_ixL (d := .str z) (de_v 3 k.da) (de_neg de_int) hat) (de_add (de_v 8 (d := .int at') rfl) de_int) hz100)) fun d e => ⟨_, e, rfl, ?_⟩)) fun d h => h) k.cell fp' k.P (by omega) fun d v F5 H5 g5 P5 hd hR => ?_))
      · obtain ⟨na, rfl⟩ : ∃ na : Nat, at' = (na : Int) := ⟨at'.toNat, by omega⟩
        rw [cutS_hi_length]; omega
      · obtain ⟨na, rfl⟩ : ∃ na : Nat, at' = (na : Int) := ⟨at'.toNat, by omega⟩
        rw [h1, h2, str_append_length, cutS_hi_length]
        show min na z.length + 1 ≤ 100000
        omega
      · obtain ⟨na, rfl⟩ : ∃ na : Nat, at' = (na : Int) := ⟨at'.toNat, by omega⟩
        rw [show ((na : Int) + 1) = ((na + 1 : Nat) : Int) by omega, cutS_lo_length]; omega
      obtain ⟨a, b, rfl, ⟨c, hc, rfl⟩, rfl⟩ := hR
      obtain rfl := (show v = .str _ from hd)
      exact ⟨_, _, rfl, kind_mid (hks z hz) hc ha0 ha1, (k.go hlp k.sub g5 P5).up (by omega)⟩
    · exact ss_nil ⟨x, _, rfl, hx, (k.gr hlp k.sub g4).up (by omega)⟩
    rintro σ1 H1 ⟨x, y8, rfl, hx, k⟩
    -- turn = 0, the while
    refine ss_cons (ws_setD (F := F') 9 nd (d := .int 0) de_int k.g.fh fun v F4 H4 g4 hv => ?_)
    obtain rfl := (show v = .int 0 from hv)
    replace k := k.gr hlp (Same.refl _) g4
    refine ss_cons (ws_while PassesOwn.never (fun mm σ1 H1 => ∃ (x : Str) (t : Nat), σ1 = [some (.ref p), some (.int n), some (.str letters), some (.ref l), some (.int (0 + (i : Int))), some (.str x), y6, some (.int way), y8, some (.int t)] ∧ isKind x = true ∧ KSt p l F H F' H1 ks (m + 9 * i + 9) ∧ t ≤ ks.length + 1 ∧ (∀ s, s + 1 < t → cand s ∈ ks) ∧ (0 < t → x = cand (t - 1)) ∧ mm = ks.length + 1 - t) (ks.length + 1) ⟨x, 0, rfl, hx, k, Nat.zero_le _, (fun s hs => absurd hs (by omega)), (fun z => absurd z (by omega)), rfl⟩ ?_)
    rintro mm σ2 H5 ⟨x, t, rfl, hx, k, ht, hc, hxt, rfl⟩
    refine DT.at (F := upd F' l (.lst (ks.map V.str))) (dt_c (c_inS (de_v 5 (d := .str x) rfl) (de_v 3 k.da))) k.cell fun F6 H6 g6 => ?_
    replace k := k.gr hlp k.sub g6
    by_cases hin : x ∈ ks
    · rw [decide_eq_true hin]
      refine iteT ?_
      have htk : t ≤ ks.length := cand_few (by omega) fun s hs => by
        by_cases hs' : s + 1 < t
        · exact hc s hs'
        · have : s = t - 1 := by omega
          rw [this, ← hxt (by omega)]; exact hin
      obtain ⟨a, ha⟩ := let_at (i := (t : Int) / 26) (by omega) (by omega)
      obtain ⟨b, hb⟩ := let_at (i := (t : Int) % 26) (by omega) (by omega)
      refine ss_cons (ws_setD (F := F') 5 nd (de_addS (de_addS (de_ixS (de_v 2 (d := .str letters) rfl) (de_fdiv (de_v 9 (d := .int t) rfl) de_int ⟨by decide, by decide⟩) letters_sz ha) (de_ixS (de_v 2 (d := .str letters) rfl) (de_mod (de_v 9 (d := .int t) rfl) de_int (by decide)) letters_sz hb) (by show 1 + 1 ≤ sizeLine; decide)) de_str (by show 2 + 2 ≤ sizeLine; decide)) k.g.fh fun v F7 H7 g7 hv => ?_)
      obtain rfl := (show v = .str _ from hv)
      replace k := k.gr hlp (Same.refl _) g7
      rw [cand_eq ha hb (by omega)]
      refine ss_one (ws_setD (F := F') 9 nd (de_add (de_v 9 (d := .int t) rfl) de_int) k.g.fh fun v F8 H8 g8 hv => ?_)
      obtain rfl := (show v = .int _ from hv)
      replace k := k.gr hlp (Same.refl _) g8
      refine ⟨ks.length + 1 - (t + 1), by omega, cand t, t + 1, rfl, cand_kind (by omega), k, by omega, fun s hs => ?_, fun _ => rfl, rfl⟩
      by_cases hs' : s + 1 < t
      · exact hc s hs'
      · have : s = t - 1 := by omega
        rw [this, ← hxt (by omega)]; exact hin
    · rw [decide_eq_false hin]
      refine iteF (ss_one (ws_append (F := F') (ve_v 3) (de_v 5 (d := .str x) rfl) k.g.fh k.hl ?_ fun v F7 H7 g7 hv => ?_))
      · rw [List.length_map]
        have : sizeLine = 16777216 := by decide
        omega
      obtain rfl := (show v = .str x from hv)
      replace k := k.gr hlp (Same.refl _) g7
      refine ⟨F', rfl, ks ++ [x], _, _, _, _, _, _, rfl, ⟨k.g.mut hHl hlp k.fl, k.fp, k.fl, ?_, ?_⟩, ?_, ?_⟩
      · rw [upd_same, List.map_append]; rfl
      · obtain ⟨c1, c2, c3, e1, e2, e3, e4⟩ := k.P
        exact ⟨c1, c2, c3, by rw [upd_ne (fun z => hlp z.symm)]; exact e1, e2, e3, by omega⟩
      · simp [hk]
      · intro y hy
        rcases List.mem_append.mp hy with z | z
        · exact hks y z
        · rw [List.mem_singleton] at z; subst z; exact hx
  · rintro σ' F' H' ⟨rfl, ks, y4, y5, y6, y7, y8, y9, rfl, k, hk, hks⟩
    rw [intsD_length] at hk k
    refine ss_one (ws_ret (VE.at (F := upd F' l (.lst (ks.map V.str))) (ve_v 3) k.cell fun F3 H3 g3 => ?_))
    have g4 := k.g.tell hHl k.fl k.hl
    exact q _ F3 H3 ks (g4.trans g3.gp) (k.P.mono g3.hh (by omega)) (g3.da ⟨l, _, rfl, upd_same, daAll_strs ks⟩) (by omega) hks
end

/-! part somex -/
open PySem L2
section
variable {P : Program} {w : World} {K : PySem.W.Frag} {mg : Str → Option Value} {base : Heap}
theorem x_law_some {p : Addr} {c k : Nat} {X : Cx} {σ : St} {F : Hp} {a b e : Expr} {pos q : Pos} {ks : List Str} {A : Nat → Prop} (T : Tx X.K X.mg) (hr : Room k X.A) (hp : VE X a σ F F (.ref p)) (hks : DE X b σ F F (ksD ks)) (h0 : 0 < ks.length) (h1 : ks.length ≤ 1000)
    (he : Px p c X e σ F (fun d => ∃ n : Nat, d = .int n ∧ n ≤ 300 ∧ A n)) (hk : 2 ≤ k := by decide) (hg : Gl X "_law_some" := by rfl) (l : Pl X a [b, e] pos := by exact ⟨rfl, rfl⟩) (l2 : starEach [b, e] X.env = (false, eval b X.env) :: starEach [e] X.env := by rfl) (l3 : starEach [e] X.env = [(false, eval e X.env)] := by rfl) :
    PxN p (0 + (c + 0) + 300) X (.Call (.Name "_law_some" q) [a, b, e] [] pos) σ F (fun d => ∃ ys : List Str, d = ksD ys ∧ (∀ y ∈ ys, y ∈ ks) ∧ A ys.length) :=
  pxn_call (ok_law_some T) (hr.mono hk) T.g_law_some T.F_law_some.kp T.b_law_some hp (pxa_cons (px_d hks) (pxa_cons he pxa_nil l3) l2) (by
    rintro ds ⟨d1, r1, rfl, rfl, d2, r2, rfl, ⟨n, rfl, hn, hA⟩, rfl⟩
    refine ⟨rfl, ⟨ks.map .str, n, rfl, by rw [List.length_map]; exact h0, by rw [List.length_map]; exact h1, hn⟩, fun d hd => ?_⟩
    obtain ⟨es, rfl, hl, hm⟩ := hd (ks.map .str) n rfl
    obtain ⟨ys, rfl, hy⟩ := strs_sub hm
    rw [List.length_map] at hl
    exact ⟨ys, rfl, hy, by rw [hl]; exact hA⟩) hg (by decide) l
theorem x_law_kinds {p : Addr} {c k : Nat} {X : Cx} {σ : St} {F : Hp} {a e : Expr} {pos q : Pos} (T : Tx X.K X.mg) (hr : Room k X.A) (hp : VE X a σ F F (.ref p)) (he : Px p c X e σ F (fun d => ∃ n : Nat, d = .int n ∧ 1 ≤ n ∧ n ≤ 60)) (hk : 2 ≤ k := by decide) (hg : Gl X "_law_kinds" := by rfl) (l : Pl X a [e] pos := by exact ⟨rfl, rfl⟩) (l3 : starEach [e] X.env = [(false, eval e X.env)] := by rfl) :
    Px p ((c + 0) + 540) X (.Call (.Name "_law_kinds" q) [a, e] [] pos) σ F (fun d => ∃ ks : List Str, d = ksD ks ∧ 1 ≤ ks.length ∧ ks.length ≤ 60 ∧ ∀ k ∈ ks, isKind k = true) :=
  px_call (ok_law_kinds T) (hr.mono hk) T.g_law_kinds T.F_law_kinds.kp T.b_law_kinds hp (pxa_cons he pxa_nil l3) (by
    rintro ds ⟨d1, r1, rfl, ⟨n, rfl, h1, hn⟩, rfl⟩
    refine ⟨rfl, ⟨n, rfl, hn⟩, fun d hd => ?_⟩
    obtain ⟨ks, rfl, hl, hm⟩ := hd n rfl
    exact ⟨ks, rfl, by omega, by omega, hm⟩) hg (by decide) l
end

/-! part rooms -/
open PySem L2
def keySum (rs : List RC) : Int := (rs.map fun r => (r.keys.length : Int)).sum
theorem keySum_snoc (rs : List RC) (r : RC) : keySum (rs ++ [r]) = keySum rs + r.keys.length := by
  unfold keySum
  rw [List.map_append, List.sum_append]
  simp
theorem keySum_nonneg (rs : List RC) : 0 ≤ keySum rs := by
  unfold keySum
  induction rs with
  | nil => simp
  | cons r rs ih => rw [List.map_cons, List.sum_cons]; omega
theorem keySum_set {r s : RC} : ∀ {rs : List RC} {j : Nat}, rs[j]? = some r → keySum (rs.set j s) + r.keys.length = keySum rs + s.keys.length
  | [], j, h => by simp at h
  | x :: rs, 0, h => by
    obtain rfl : x = r := by simpa using h
    unfold keySum
    simp only [List.set_cons_zero, List.map_cons, List.sum_cons]
    omega
  | x :: rs, j + 1, h => by
    have ih := keySum_set (r := r) (s := s) (rs := rs) (j := j) (by simpa using h)
    unfold keySum at ih ⊢
    simp only [List.set_cons_succ, List.map_cons, List.sum_cons]
    omega
theorem keySum_rooms : ∀ rs : List RC, ((((rs.map RC.room).map fun r => r.2.length).sum : Nat) : Int) = keySum rs
  | [] => rfl
  | x :: rs => by
    have ih := keySum_rooms rs
    unfold keySum at ih ⊢
    simp only [List.map_cons, List.sum_cons]
    rw [Int.natCast_add, ih]
    rfl
theorem key_le {rs : List RC} {r : RC} (h : r ∈ rs) : (r.keys.length : Int) ≤ keySum rs := by
  induction rs with
  | nil => cases h
  | cons s rs ih =>
    have h2 := keySum_nonneg rs
    have e : keySum (s :: rs) = s.keys.length + keySum rs := by unfold keySum; rw [List.map_cons, List.sum_cons]
    rcases List.mem_cons.mp h with rfl | h
    · omega
    · have := ih h; omega
/-- what a made room is like -/
def okRC (ks : List Str) (r : RC) : Prop := (∀ k ∈ r.locks, k ∈ ks) ∧ (∀ k ∈ r.keys, k ∈ ks) ∧ 1 ≤ r.locks.length ∧ r.locks.length ≤ 4 ∧ srt r.locks = r.locks
/-- the rooms so far, in the list at l -/
structure Rooms (H0 H : Hp) (l kq : Addr) (ks : List Str) (rs : List RC) : Prop where
  l0 : H0 l = none
  hl : H l = some (.lst (rs.map fun r => V.ref r.t))
  at' : ∀ r ∈ rs, RoomAt H0 H r
  ok : ∀ r ∈ rs, okRC ks r
  ap : Apart rs
  nl : ∀ r ∈ rs, l ≠ r.t ∧ l ≠ r.d ∧ l ≠ r.k ∧ kq ≠ r.k
theorem Rooms.keep {H0 H H2 : Hp} {l kq : Addr} {ks : List Str} {rs : List RC} {p : Addr} (h : Rooms H0 H l kq ks rs) (p0 : H0 p ≠ none) (k : ∀ b o, b ≠ p → H b = some o → H2 b = some o) : Rooms H0 H2 l kq ks rs := by
  have ne : ∀ b, H0 b = none → b ≠ p := fun b hb z => by subst z; exact p0 hb
  refine ⟨h.l0, k _ _ (ne _ h.l0) h.hl, fun r hr => (h.at' r hr).keep fun b o hb e => k b o ?_ e, h.ok, h.ap, h.nl⟩
  have ha := h.at' r hr
  rcases hb with rfl | rfl | rfl
  · exact ne _ ha.t0
  · exact ne _ ha.d0
  · exact ne _ ha.k0
theorem Rooms.da {F0 H0 H : Hp} {l kq : Addr} {ks : List Str} {rs : List RC} (h : Rooms H0 H l kq ks rs) : Da (Fz F0 H0 H) (.list (rs.map fun r => roomD r.room)) (.ref l) :=
  ⟨l, _, rfl, by rw [Fz.new h.l0]; exact h.hl, rooms_da h.at'⟩
theorem Rooms.nil {H0 H : Hp} {l kq : Addr} {ks : List Str} (h0 : H0 l = none) (h : H l = some (.lst [])) : Rooms H0 H l kq ks [] :=
  ⟨h0, h, (fun r hr => nomatch hr), (fun r hr => nomatch hr), (fun i j r s h => by simp at h), (fun r hr => nomatch hr)⟩
/-- a further room -/
theorem Rooms.snoc {p : Addr} {H0 H H2 : Hp} {l kq : Addr} {ks : List Str} {rs : List RC} {r : RC} (h : Rooms H0 H l kq ks rs) (p0 : H0 p ≠ none) (hr : RoomAt H0 H2 r) (hok : okRC ks r)
    (keep : ∀ b o, b ≠ l → b ≠ p → H b = some o → H2 b = some o) (hl : H2 l = some (.lst ((rs ++ [r]).map fun r => V.ref r.t)))
    (hk : H r.k = none) (ht : H r.t = none) (hd0 : ∀ s ∈ rs, s.k ≠ r.d) (hkt : r.k ≠ r.t) (hkd : r.k ≠ r.d) (hld : l ≠ r.d) (hkq : kq ≠ r.k) : Rooms H0 H2 l kq ks (rs ++ [r]) := by
  have hlt : l ≠ r.t := ne_of_none h.hl ht
  have hlk : l ≠ r.k := ne_of_none h.hl hk
  refine ⟨h.l0, hl, fun s hs => ?_, fun s hs => ?_, fun i j a b hi hj => ?_, fun s hs => ?_⟩
  · rcases List.mem_append.mp hs with hs | hs
    · have nl := h.nl s hs
      have hA := h.at' s hs
      have ne : ∀ b, H0 b = none → b ≠ p := fun b hb z => by subst z; exact p0 hb
      refine hA.keep fun b o hb e => keep b o ?_ ?_ e
      · rcases hb with rfl | rfl | rfl
        · exact fun z => nl.1 z.symm
        · exact fun z => nl.2.1 z.symm
        · exact fun z => nl.2.2.1 z.symm
      · rcases hb with rfl | rfl | rfl
        · exact ne _ hA.t0
        · exact ne _ hA.d0
        · exact ne _ hA.k0
    · rw [List.mem_singleton] at hs; subst hs; exact hr
  · rcases List.mem_append.mp hs with hs | hs
    · exact h.ok s hs
    · rw [List.mem_singleton] at hs; subst hs; exact hok
  · have cases' : ∀ {i : Nat} {a : RC}, (rs ++ [r])[i]? = some a → (i < rs.length ∧ rs[i]? = some a) ∨ (i = rs.length ∧ a = r) := by
      intro i a hi
      by_cases hlt : i < rs.length
      · rw [List.getElem?_append_left hlt] at hi; exact .inl ⟨hlt, hi⟩
      · rw [List.getElem?_append_right (by omega)] at hi
        have : i - rs.length = 0 := by
          cases hx : i - rs.length with
          | zero => rfl
          | succ k => rw [hx] at hi; simp at hi
        rw [this] at hi
        exact .inr ⟨by omega, by simpa using hi.symm⟩
    rcases cases' hi with ⟨h1, h2⟩ | ⟨h1, h2⟩ <;> rcases cases' hj with ⟨h3, h4⟩ | ⟨h3, h4⟩
    · exact h.ap i j a b h2 h4
    · subst h4
      have ha := h.at' a (List.mem_of_getElem? h2)
      refine ⟨fun z => ?_, hd0 a (List.mem_of_getElem? h2), ?_⟩
      · rw [← z, ha.hk] at hk; cases hk
      · intro z; rw [← z, ha.hk] at ht; cases ht
    · subst h2
      have hb := h.at' b (List.mem_of_getElem? h4)
      refine ⟨fun z => ?_, ?_, ?_⟩
      · rw [z, hb.hk] at hk; cases hk
      · intro z; rw [z, hb.hd] at hk; cases hk
      · intro z; rw [z, hb.ht] at hk; cases hk
    · subst h2 h4
      exact ⟨fun _ => by omega, hkd, hkt⟩
  · rcases List.mem_append.mp hs with hs | hs
    · exact h.nl s hs
    · rw [List.mem_singleton] at hs; subst hs; exact ⟨hlt, hld, hlk, hkq⟩
/-- the i-th room with more keys -/
theorem Rooms.more {p : Addr} {H0 H H2 : Hp} {l kq : Addr} {ks : List Str} {rs : List RC} {i : Nat} {r : RC} {ys : List Str} (h : Rooms H0 H l kq ks rs) (p0 : H0 p ≠ none) (hi : rs[i]? = some r) (hy : ∀ y ∈ ys, y ∈ ks) (keep : ∀ b o, b ≠ r.k → b ≠ p → H b = some o → H2 b = some o) (hk : H2 r.k = some (.lst ((r.keys ++ ys).map V.str))) :
    Rooms H0 H2 l kq ks (rs.set i { r with keys := r.keys ++ ys }) := by
  have hil : i < rs.length := (List.getElem?_eq_some_iff.mp hi).1
  have hmem := List.mem_of_getElem? hi
  have hrk := h.nl r hmem
  have ne : ∀ b, H0 b = none → b ≠ p := fun b hb z => by subst z; exact p0 hb
  have shape : ∀ {j : Nat} {a : RC}, (rs.set i { r with keys := r.keys ++ ys })[j]? = some a → ∃ b, rs[j]? = some b ∧ a.t = b.t ∧ a.d = b.d ∧ a.k = b.k ∧ ((j = i ∧ a = { r with keys := r.keys ++ ys }) ∨ (j ≠ i ∧ a = b)) := by
    intro j a hj
    by_cases hji : j = i
    · subst hji
      rw [List.getElem?_set_self hil] at hj
      cases hj
      exact ⟨r, hi, rfl, rfl, rfl, .inl ⟨rfl, rfl⟩⟩
    · rw [List.getElem?_set_ne (fun z => hji z.symm)] at hj
      exact ⟨a, hj, rfl, rfl, rfl, .inr ⟨hji, rfl⟩⟩
  have shapeM : ∀ {a : RC}, a ∈ rs.set i { r with keys := r.keys ++ ys } → ∃ j b, rs[j]? = some b ∧ a.t = b.t ∧ a.d = b.d ∧ a.k = b.k ∧ ((j = i ∧ a = { r with keys := r.keys ++ ys }) ∨ (j ≠ i ∧ a = b)) := by
    intro a ha
    obtain ⟨j, hj⟩ := List.getElem?_of_mem ha
    obtain ⟨b, hb⟩ := shape hj
    exact ⟨j, b, hb⟩
  refine ⟨h.l0, ?_, fun a ha => ?_, fun a ha => ?_, fun j j' a b hj hj' => ?_, fun a ha => ?_⟩
  · rw [keep l _ hrk.2.2.1 (ne _ h.l0) h.hl]
    congr 2
    apply List.ext_getElem?
    intro j
    rw [List.getElem?_map, List.getElem?_map]
    by_cases hji : j = i
    · subst hji; rw [List.getElem?_set_self hil, hi]; rfl
    · rw [List.getElem?_set_ne (fun z => hji z.symm)]
  · obtain ⟨j, b, hb, e1, e2, e3, e4⟩ := shapeM ha
    have hbm := List.mem_of_getElem? hb
    have hbA := h.at' b hbm
    have ap := h.ap i j r b hi hb
    have apr := h.ap i i r r hi hi
    have hrA := h.at' r hmem
    rcases e4 with ⟨rfl, rfl⟩ | ⟨hne, rfl⟩
    · exact ⟨hrA.t0, hrA.d0, hrA.k0, keep _ _ (fun z => apr.2.2 z.symm) (ne _ hrA.t0) hrA.ht, keep _ _ (fun z => apr.2.1 z.symm) (ne _ hrA.d0) hrA.hd, hk⟩
    · refine hbA.keep fun c o hc e => keep c o ?_ ?_ e
      · rcases hc with rfl | rfl | rfl
        · exact fun z => ap.2.2 z.symm
        · exact fun z => ap.2.1 z.symm
        · exact fun z => hne (ap.1 z.symm).symm
      · rcases hc with rfl | rfl | rfl
        · exact ne _ hbA.t0
        · exact ne _ hbA.d0
        · exact ne _ hbA.k0
  · obtain ⟨j, b, hb, e1, e2, e3, e4⟩ := shapeM ha
    rcases e4 with ⟨rfl, rfl⟩ | ⟨hne, rfl⟩
    · obtain ⟨o1, o2, o3, o4, o5⟩ := h.ok r hmem
      refine ⟨o1, fun k hk => ?_, o3, o4, o5⟩
      rcases List.mem_append.mp hk with z | z
      · exact o2 k z
      · exact hy k z
    · exact h.ok a (List.mem_of_getElem? hb)
  · obtain ⟨b1, hb1, e1, e2, e3, _⟩ := shape hj
    obtain ⟨b2, hb2, e4, e5, e6, _⟩ := shape hj'
    rw [e3, e6, e5, e4]
    exact h.ap j j' b1 b2 hb1 hb2
  · obtain ⟨j, b, hb, e1, e2, e3, e4⟩ := shapeM ha
    rw [e1, e2, e3]
    exact h.nl b (List.mem_of_getElem? hb)
theorem Rooms.good {H0 H : Hp} {l kq : Addr} {ks : List Str} {rs : List RC} (h : Rooms H0 H l kq ks rs) (hk : ∀ k ∈ ks, isKind k = true) : ∀ r ∈ rs, goodRoom r.room := fun r hr => by
  obtain ⟨o1, o2, o3, o4, o5⟩ := h.ok r hr
  exact ⟨fun k hk' => hk k (o1 k hk'), fun k hk' => hk k (o2 k hk'), o3, o4, o5⟩
theorem Rooms.shaped {H0 H : Hp} {l kq : Addr} {ks : List Str} {rs : List RC} (h : Rooms H0 H l kq ks rs) (hk : ∀ k ∈ ks, isKind k = true) : SeqAt.shaped (.list (rs.map fun r => roomD r.room)) = true := (lay_list (n := 2) fun d m => by
  obtain ⟨r, hr, rfl⟩ := List.mem_map.mp m
  exact lay_room (h.good hk r hr)).shaped
theorem eqv_nil {α : Type} (f : α → PyData) (rs : List α) : PyData.eqv (.list (rs.map f)) (.list []) = rs.isEmpty := by cases rs <;> simp [PyData.eqv, PyData.eqvAll]
theorem Rooms.house {H0 H : Hp} {l kq : Addr} {ks : List Str} {rs : List RC} {begin' : List Str} {most tot : Nat} (h : Rooms H0 H l kq ks rs) (hk : ∀ k ∈ ks, isKind k = true) (h60 : ks.length ≤ 60) (hb : ∀ k ∈ begin', k ∈ ks) (hm : rs.length ≤ most) (hmost : most ≤ 1000) (hbt : begin'.length ≤ tot) (htot : tot ≤ 1000) (hsum : keySum rs ≤ tot) : HouseOf most tot (begin', rs.map RC.room) := by
  have he : ∀ r ∈ rs, r.keys.length ≤ tot := fun r hr => by have := key_le hr; omega
  have ht := keySum_rooms rs
  have hr : ∀ r ∈ rs.map RC.room, ∃ s ∈ rs, r = s.room := fun r hr => by
    obtain ⟨s, hs, rfl⟩ := List.mem_map.mp hr
    exact ⟨s, hs, rfl⟩
  refine ⟨⟨fun k hk' => hk k (hb k hk'), fun r hr' => ?_, by show begin'.length ≤ 100000; omega, by show (rs.map RC.room).length ≤ 100000; rw [List.length_map]; omega, fun r hr' => ?_⟩, by show (rs.map RC.room).length ≤ most; rw [List.length_map]; exact hm, hbt, fun r hr' => ?_, by show ((rs.map RC.room).map fun r => r.2.length).sum ≤ tot; omega, ks, h60, hb, fun r hr' => ?_⟩
  · obtain ⟨s, hs, rfl⟩ := hr r hr'
    obtain ⟨o1, o2, o3, o4, o5⟩ := h.ok s hs
    exact ⟨fun k hk' => hk k (o1 k hk'), fun k hk' => hk k (o2 k hk'), o3, o4, o5⟩
  · obtain ⟨s, hs, rfl⟩ := hr r hr'
    have := he s hs
    show s.keys.length ≤ 100000
    omega
  · obtain ⟨s, hs, rfl⟩ := hr r hr'
    exact he s hs
  · obtain ⟨s, hs, rfl⟩ := hr r hr'
    obtain ⟨o1, o2, _⟩ := h.ok s hs
    exact ⟨o1, o2⟩

/-! part house -/
open PySem L2
section
variable {P : Program} {w : World} {K : PySem.W.Frag} {mg : Str → Option Value} {base : Heap}
/-- one of a written list of numbers -/
theorem menu_mem {p : Addr} {k : Nat} {X : Cx} {σ : St} {F : Hp} {a b : Expr} {pos : Pos} (ns : List Int) {A : Int → Prop} (ha : DE X a σ F F (.list (ns.map .int))) (hb : Px p 1 X b σ F (fun d => ∃ i, d = .int i ∧ (0 : Int) ≤ i ∧ i < ns.length)) (hA : ∀ n ∈ ns, A n) (hs : PlainIx b := by exact fun _ _ => rfl) : Px p (0 + 1) X (.Subscript a b pos) σ F (fun d => ∃ i, d = .int i ∧ A i) :=
  px_ixL (px_d ha) (Px.imp hb fun d ⟨i, e, h0, h1⟩ => ⟨i, e, h0, fun d' e' => ⟨ns.map .int, e', by rw [List.length_map]; exact h1, fun x hx => by
    obtain ⟨n, hn, rfl⟩ := List.mem_map.mp hx
    exact ⟨n, rfl, hA n hn⟩⟩⟩) hs
set_option maxHeartbeats 8000000 in
theorem ok_law_house (T : Tx K mg) : FnOk P w K mg base CX0 3 T.f_law_house T.d_law_house ["pool", "most"] (spP 40000 1 (fun ds => ∃ n : Nat, ds = [.int n] ∧ n ≤ 24) (fun ds d => ∀ n : Nat, ds = [.int n] → ∃ h, d = houseD h ∧ HouseOf n 130 h)) := by
  refine okP T.F_law_house sc_law_house rfl fun X cdv A outer s H0 E p m us F H ds Q hX hr hP hm hs hp ha hpre q => ?_
  obtain ⟨n, rfl, hn⟩ := hpre
  obtain ⟨v1, rfl, h1⟩ := daAll1 ha
  obtain rfl := (show v1 = .int n from h1)
  have nd := sc_law_house.nd
  have hu := hr.units
  have q : ∀ v F2 H2 (h : House), Gp p F H F2 H2 → Pool H2 p (m + 40000) → Da F2 (houseD h) v → HouseOf n 130 h → Q v H2 := fun v F2 H2 h g P2 hd hh => q (houseD h) v F2 H2 g P2 hd fun n' e => ⟨h, rfl, by
    have : (n : Int) = n' := by injection e with e1 e2; injection e1
    have : n = n' := by omega
    subst this; exact hh⟩
  subst hX
  clear ha h1
  have S : HS p F H H m := HS.start hs hp hP
  have p0 := S.p0
  -- kinds
  refine ss_cons (ws_set 2 nd (Px.go (F := Fz F H H) (x_law_kinds T hr (ve_v 0) (Px.imp (px_add (c1 := 0) (c2 := 2) (A := fun i => i = 1) (B := fun i => 0 ≤ i ∧ i < 60) (Px.imp (px_d de_int) fun d e => ⟨1, e, rfl⟩) (x_law_take (c := 0 + 1) T hr (ve_v 0) (menu_mem (k := 0) [6, 6, 24, 60] (A := fun i => 0 < i ∧ i ≤ 60) (de_lst (dl_cons de_int (dl_cons de_int (dl_cons de_int (dl_cons de_int dl_nil))))) (x_take T hr (ve_v 0) de_int (by decide) (by decide)) (by decide)) (by decide)))
    fun d ⟨a, b, e, h1, h2⟩ => ⟨(a + b).toNat, by rw [e]; congr 1; omega, by omega, by omega⟩)) Fz.le S.fp S.P (by omega) fun d v F2 H2 g2 P2 hd hR => ?_))
  obtain ⟨ks, rfl, hk1, hk60, hkk⟩ := hR
  obtain ⟨kq, vs, rfl, hF2, hvs⟩ := hd
  obtain rfl := hvs.strs
  have Z : Fz F H H2 kq = some (.lst (ks.map V.str)) := S.keep g2 _ _ hF2
  replace S := S.step g2 P2
  clear g2 P2 hF2 hvs
  have dk : ∀ {H' : Hp}, Fz F H H' kq = some (.lst (ks.map V.str)) → Da (Fz F H H') (ksD ks) (.ref kq) := fun z => ⟨kq, _, rfl, z, daAll_strs ks⟩
  -- many
  refine ss_cons (ws_set 3 nd (Px.go (F := Fz F H H2) (px_ixL (c1 := 1 + (1 + 0)) (c2 := 1) (A := fun d' => ∃ a b : Int, d' = .list [.int a, .int b] ∧ 0 ≤ a ∧ a ≤ n ∧ 0 ≤ b ∧ b ≤ n) (R := fun d => ∃ i : Nat, d = .int i ∧ i ≤ n)
    (px_lst2 (x_take T hr (ve_v 0) (de_add (de_min2 T.m_min rfl (de_v 1 (d := .int n) rfl) de_int) de_int) (by omega) (by omega)) (x_take T hr (ve_v 0) (de_add (de_v 1 (d := .int n) rfl) de_int) (by omega) (by omega)) fun a b h1 h2 => by
      obtain ⟨i, rfl, i0, i1⟩ := h1
      obtain ⟨j, rfl, j0, j1⟩ := h2
      exact ⟨i, j, rfl, i0, by omega, j0, by omega⟩)
    (Px.imp (x_take T hr (ve_v 0) de_int (by decide) (by decide)) fun d ⟨i, e, h0, h2⟩ => ⟨i, e, h0, fun d' ⟨a, b, e', a0, a1, b0, b1⟩ => ⟨_, e', by show i < 2; exact h2, fun x hx => by
      rcases List.mem_cons.mp hx with rfl | hx
      · exact ⟨a.toNat, by congr 1; omega, by omega⟩
      rcases List.mem_cons.mp hx with rfl | hx
      · exact ⟨b.toNat, by congr 1; omega, by omega⟩
      · cases hx⟩⟩)) Fz.le S.fp S.P (by omega) fun d v F3 H3 g3 P3 hd hR => ?_))
  obtain ⟨many, rfl, hmany⟩ := hR
  obtain rfl := (show v = .int many from hd)
  replace Z := S.keepZ g3 _ _ Z
  replace S := S.step g3 P3
  clear g3 P3 hd
  -- locks
  refine ss_cons (ws_set 4 nd (Px.go (F := Fz F H H3) (menu_mem (k := 0) [1, 1, 2, 4] (A := fun i => 1 ≤ i ∧ i ≤ 4) (de_lst (dl_cons de_int (dl_cons de_int (dl_cons de_int (dl_cons de_int dl_nil))))) (x_take T hr (ve_v 0) de_int (by decide) (by decide)) (by decide)) Fz.le S.fp S.P (by omega) fun d v F4 H4 g4 P4 hd hR => ?_))
  obtain ⟨locks, rfl, hlk⟩ := hR
  obtain rfl := (show v = .int locks from hd)
  replace Z := S.keepZ g4 _ _ Z
  replace S := S.step g4 P4
  clear g4 P4 hd
  -- keys
  refine ss_cons (ws_set 5 nd (Px.go (F := Fz F H H4) (menu_mem (k := 0) [2, 3, 4] (A := fun i => 2 ≤ i ∧ i ≤ 4) (de_lst (dl_cons de_int (dl_cons de_int (dl_cons de_int dl_nil)))) (x_take T hr (ve_v 0) de_int (by decide) (by decide)) (by decide)) Fz.le S.fp S.P (by omega) fun d v F5 H5 g5 P5 hd hR => ?_))
  obtain ⟨keys, rfl, hky⟩ := hR
  obtain rfl := (show v = .int keys from hd)
  replace Z := S.keepZ g5 _ _ Z
  replace S := S.step g5 P5
  clear g5 P5 hd
  -- rooms = []
  refine ss_cons (ws_set 6 nd (we_lst (F := Fz F H H5) (ds := []) dl_nil Fz.le (Nat.zero_le _) fun l vs F6 H6 g6 hvs hl => ?_))
  obtain rfl : vs = [] := hvs
  replace Z := gr_z g6 _ _ Z
  replace S := S.gr g6
  have hHl : H l = none := S.free hl
  have hkl : kq ≠ l := ne_of_none (Fz.le _ _ Z) hl
  replace Z : Fz F H (upd H6 l (.lst [])) kq = some (.lst (ks.map V.str)) := by rw [Fz.upd hkl]; exact Z
  replace S := S.mut (o := .lst []) hHl
  have R0 : Rooms H (upd H6 l (.lst [])) l kq ks [] := Rooms.nil hHl upd_same
  generalize upd H6 l (.lst []) = H7 at Z S R0
  clear g6 hl
  -- spare
  refine ss_cons (ws_setD (F := Fz F H H7) 7 nd (d := .int 20) de_int Fz.le fun v F8 H8 g8 hv => ?_)
  obtain rfl := (show v = .int 20 from hv)
  replace Z := gr_z g8 _ _ Z
  replace R0 := R0.keep p0 (fun b o _ e => g8.hh b o e)
  replace S := S.gr g8
  clear g8 hv
  -- the rooms
  refine ss_cut (fun σ' H' => ∃ (rs : List RC) (y7 y8 y9 y10 : Option V), σ' = [some (.ref p), some (.int n), some (.ref kq), some (.int many), some (.int locks), some (.int keys), some (.ref l), y7, y8, y9, y10, none, none, none] ∧ HS p F H H' (m + 600 + 610 * many) ∧ Fz F H H' kq = some (.lst (ks.map V.str)) ∧ Rooms H H' l kq ks rs ∧ rs.length = many ∧ 3 * keySum rs ≤ 12 * many + 2 * 20) (ws_forR (F := Fz F H H8) PassesOwn.never rfl T.m_range (de_v 3 (d := .int many) rfl) (by omega) Fz.le fun F9 H9 g9 => ⟨fun i σ' H' => ∃ (rs : List RC) (spare : Int) (y8 y9 y10 : Option V), σ' = [some (.ref p), some (.int n), some (.ref kq), some (.int many), some (.int locks), some (.int keys), some (.ref l), some (.int spare), y8, y9, y10, none, none, none] ∧ HS p F H H' (m + 600 + 610 * i) ∧ Fz F H H' kq = some (.lst (ks.map V.str)) ∧ Rooms H H' l kq ks rs ∧ rs.length = i ∧ 0 ≤ spare ∧ 3 * keySum rs + 2 * spare ≤ 12 * i + 2 * 20, ?_, ?_, ?_⟩) ?_
  · exact ⟨[], 20, none, none, none, rfl, (S.gr g9).up (by omega), gr_z g9 _ _ Z, R0.keep p0 (fun b o _ e => g9.hh b o e), rfl, by decide, by decide⟩
  · rintro i σ' H' hi ⟨rs, spare, y8, y9, y10, rfl, S, Z, R, hrl, hsp, hsum⟩
    refine wg_name 8 nd ?_
    -- doors
    refine ss_cons (ws_set 9 nd (PxN.go (F := Fz F H H') (pxn_sortedS (A := fun xs => (∀ x ∈ xs, x ∈ ks) ∧ 1 ≤ xs.length ∧ xs.length ≤ 4) T.m_sorted (PxN.px (x_law_some (A := fun n => 1 ≤ n ∧ n ≤ 4) T hr (ve_v 0) (de_v 2 (dk Z)) (by omega) (by omega) (Px.imp (px_add (c1 := 0) (c2 := 1) (A := fun i => i = 1) (B := fun i => 0 ≤ i ∧ i < locks) (Px.imp (px_d de_int) fun d e => ⟨1, e, rfl⟩) (x_take T hr (ve_v 0) (de_v 4 (d := .int locks) rfl) (by omega) (by omega)))
      fun d ⟨a, b, e, h1, h2⟩ => ⟨(a + b).toNat, by rw [e]; congr 1; omega, by omega, by omega, by omega⟩)))) Fz.le S.fp S.P (by omega) fun d v Fa Ha ga Pa hd hR hf => ?_))
    obtain ⟨xs, rfl, hxk, hx1, hx4⟩ := hR
    obtain ⟨dq, vs, rfl, hFa, hvs⟩ := hd
    obtain rfl := hvs.strs
    have hdq0 : H' dq = none := hf dq rfl
    have hdqH : H dq = none := S.free hdq0
    have hdl : l ≠ dq := ne_of_none R.hl hdq0
    have hdk : ∀ s ∈ rs, s.k ≠ dq := fun s hs => ne_of_none (R.at' s hs).hk hdq0
    have hda : Ha dq = some (.lst ((srt xs).map V.str)) := ga.fh _ _ hFa
    replace Z := S.keepZ ga _ _ Z
    replace R := R.keep p0 ga.hh
    replace S := S.step ga Pa
    clear ga Pa hFa hvs hf hdq0
    -- few
    refine ss_cons (ws_set 10 nd (Px.go (F := Fz F H Ha) (x_take T hr (ve_v 0) (de_add (de_v 5 (d := .int keys) rfl) de_int) (by omega) (by omega)) Fz.le S.fp S.P (by omega) fun d v Fb Hb gb Pb hd hR => ?_))
    obtain ⟨few, rfl, hf0, hf1⟩ := hR
    obtain rfl := (show v = .int few from hd)
    have hdp : dq ≠ p := S.ne hdqH
    replace hda := gb.hh _ _ hdp hda
    replace Z := S.keepZ gb _ _ Z
    replace R := R.keep p0 gb.hh
    replace S := S.step gb Pb
    clear gb Pb hd
    -- a room of more
    refine ss_cut (fun σ1 H1 => ∃ (few : Nat) (spare : Int), σ1 = [some (.ref p), some (.int n), some (.ref kq), some (.int many), some (.int locks), some (.int keys), some (.ref l), some (.int spare), some (.int i), some (.ref dq), some (.int few), none, none, none] ∧ HS p F H H1 (m + 600 + 610 * i + 305) ∧ Fz F H H1 kq = some (.lst (ks.map V.str)) ∧ Rooms H H1 l kq ks rs ∧ H1 dq = some (.lst ((srt xs).map V.str)) ∧ 0 ≤ spare ∧ few ≤ 12 ∧ 3 * (keySum rs + few) + 2 * spare ≤ 12 * (i + 1) + 2 * 20) (ws_if (PxT.go (F := Fz F H Hb) (pxt_eqI (x_take T hr (ve_v 0) de_int (by decide) (by decide)) de_int) Fz.le S.fp S.P (by omega) fun b Fc Hc gc Pc _ => ?_)) ?_
    · replace hda := gc.hh _ _ hdp hda
      replace Z := S.keepZ gc _ _ Z
      replace R := R.keep p0 gc.hh
      replace S := S.step gc Pc
      clear gc Pc
      cases b with
      | false => exact iteF (ss_nil ⟨few.toNat, spare, by rw [Int.toNat_of_nonneg hf0]; rfl, S.up (by omega), Z, R, hda, hsp, by omega, by omega⟩)
      | true =>
        refine iteT (ss_cons (ws_set 10 nd (Px.go (F := Fz F H Hc) (px_min (c1 := 0) (c2 := 1) (A := fun i => i = spare) (B := fun i => 4 ≤ i ∧ i ≤ 12) T.m_min rfl (Px.imp (px_d (de_v 7 (d := .int spare) rfl)) fun d e => ⟨spare, e, rfl⟩) (Px.imp (px_add (c1 := 0) (c2 := 1) (A := fun i => i = 4) (B := fun i => 0 ≤ i ∧ i < 9) (Px.imp (px_d de_int) fun d e => ⟨4, e, rfl⟩) (x_take T hr (ve_v 0) de_int (by decide) (by decide))) fun d ⟨a, b, e, h1, h2⟩ => ⟨a + b, e, by omega, by omega⟩)) Fz.le S.fp S.P (by omega) fun d v Fd Hd gd Pd hd hR => ?_)))
        obtain ⟨sp, r, rfl, rfl, hr4, hr12⟩ := hR
        obtain rfl := (show v = .int _ from hd)
        replace hda := gd.hh _ _ hdp hda
        replace Z := S.keepZ gd _ _ Z
        replace R := R.keep p0 gd.hh
        replace S := S.step gd Pd
        clear gd Pd hd
        refine ss_one (ws_setD (F := Fz F H Hd) 7 nd (de_sub (de_v 7 (d := .int sp) rfl) (de_v 10 (d := .int (min sp r)) rfl)) Fz.le fun v Fe He ge hv => ?_)
        obtain rfl := (show v = .int _ from hv)
        refine ⟨(min sp r).toNat, sp - min sp r, by rw [Int.toNat_of_nonneg (by omega)]; rfl, (S.gr ge).up (by omega), gr_z ge _ _ Z, R.keep p0 (fun b o _ e => ge.hh b o e), ge.hh _ _ hda, by omega, by omega, by omega⟩
    rintro σ1 H1 ⟨few, spare, rfl, S, Z, R, hda, hsp, hfew, hsum⟩
    -- rooms.append((doors, ..))
    refine ss_one (ws_appendPair (F := Fz F H H1) (ve_v 6) (ve_v 9) (x_law_some (A := fun n => n = few) T hr (ve_v 0) (de_v 2 (dk Z)) (by omega) (by omega) (Px.imp (px_d (de_v 10 (d := .int few) rfl)) fun d e => ⟨few, e, by omega, rfl⟩)) Fz.le R.hl (S.ne hHl) ?_ S.fp S.P (by omega) fun d v t Fa Ha ga Pa hd hR hf ht => ?_)
    · rw [List.length_map, hrl]
      have : sizeLine = 16777216 := by decide
      omega
    obtain ⟨ys, rfl, hyk, hyl⟩ := hR
    obtain ⟨k', vs, rfl, hFa, hvs⟩ := hd
    obtain rfl := hvs.strs
    have hk0 : H1 k' = none := hf k' rfl
    have hkH : H k' = none := S.free hk0
    have hak : Ha k' = some (.lst (ys.map V.str)) := ga.fh _ _ hFa
    have htH1 : H1 t = none := by
      cases hq : H1 t with
      | none => rfl
      | some o =>
        have htp : t ≠ p := (S.step ga Pa).ne' ht
        rw [ga.hh t o htp hq] at ht; cases ht
    have htH : H t = none := S.free htH1
    have hkt : k' ≠ t := ne_of_none hak ht
    have hkd : k' ≠ dq := fun z => by rw [z, hda] at hk0; cases hk0
    have hdt : dq ≠ t := ne_of_none hda htH1
    have hlt : l ≠ t := ne_of_none R.hl htH1
    have hlk' : l ≠ k' := ne_of_none R.hl hk0
    have hkqk : kq ≠ k' := ne_of_none (Fz.le _ _ Z) hk0
    have hkqt : kq ≠ t := ne_of_none (Fz.le _ _ Z) htH1
    have Za := S.keepZ ga _ _ Z
    have Sa := (S.step ga Pa)
    have hda' := ga.hh _ _ hdp hda
    refine ⟨rs ++ [⟨t, dq, k', srt xs, ys⟩], spare, _, _, _, rfl, ((Sa.mut htH).mut hHl).up (by omega), ?_, Rooms.snoc (r := ⟨t, dq, k', srt xs, ys⟩) R p0 ⟨htH, hdqH, hkH, ?_, ?_, ?_⟩ ⟨fun x hx => hxk x (mem_srt.mp hx), hyk, by rw [srt_length]; exact hx1, by rw [srt_length]; exact hx4, srt_of_sorted (srt_sorted xs)⟩ ?_ ?_ hk0 htH1 hdk hkt hkd hdl hkqk, by simp [hrl], hsp, ?_⟩
    · rw [Fz.upd hkl, Fz.upd hkqt]; exact Za
    · show upd (upd Ha t _) l _ t = _
      rw [upd_ne (fun z => hlt z.symm), upd_same]
    · show upd (upd Ha t _) l _ dq = _
      rw [upd_ne (fun z => hdl z.symm), upd_ne hdt]; exact hda'
    · show upd (upd Ha t _) l _ k' = _
      rw [upd_ne (fun z => hlk' z.symm), upd_ne hkt]; exact hak
    · intro b o hb hbp e
      have hbt : b ≠ t := ne_of_none e htH1
      rw [upd_ne hb, upd_ne hbt]
      exact ga.hh b o hbp e
    · rw [upd_same, List.map_append]; rfl
    · rw [keySum_snoc]
      show 3 * (keySum rs + (ys.length : Int)) + 2 * spare ≤ 12 * ((i + 1 : Nat) : Int) + 2 * 20
      omega
  · rintro σ' H' ⟨rs, spare, y8, y9, y10, rfl, S, Z, R, hrl, hsp, hsum⟩
    exact ⟨rs, _, _, _, _, rfl, S, Z, R, hrl, by omega⟩
  rintro σ' H' ⟨rs, y7, y8, y9, y10, rfl, S, Z, R, hrl, hsum⟩
  have hs0 := keySum_nonneg rs
  -- left
  refine ss_cons (ws_setD (F := Fz F H H') 11 nd (de_sub de_int (de_sum (ns := rs.map fun r => (r.keys.length : Int)) T.m_sum rfl (de_is (de_lc (Dx := fun r : RC => roomD r.room) (xs := rs) [("doors", 9), ("within", 12)] (lcok sc_law_house (by decide +kernel)) (fun r => .int (r.keys.length : Int)) (di_list (de_v 6 R.da)).i (sz100 (by omega)) fun r hr v F' H'' g' hv =>
    gb_tup2 rfl hv g'.fh fun v1 v2 e1 e2 => gb_name 9 nd (gb_name 12 nd ⟨rfl, rfl, fun _ _ _ _ _ => de_is (de_lenL T.m_len (de_v 12 e2)) (by rw [List.length_map]; rfl)⟩)) (by rw [List.map_map]; rfl)))) Fz.le fun v F2 H2 g2 hv => ?_)
  obtain rfl := (show v = .int _ from hv)
  replace Z := gr_z g2 _ _ Z
  replace R := R.keep p0 (fun b o _ e => g2.hh b o e)
  replace S := S.gr g2
  clear g2 hv
  have hL : (rs.map fun r => (r.keys.length : Int)).sum = keySum rs := rfl
  rw [hL]
  have hL0 : 0 ≤ 130 - keySum rs := by omega
  -- more keys in one room
  refine ss_cut (fun σ1 H1 => ∃ (rs : List RC) (L : Int) (y13 : Option V), σ1 = [some (.ref p), some (.int n), some (.ref kq), some (.int many), some (.int locks), some (.int keys), some (.ref l), y7, y8, y9, y10, some (.int L), none, y13] ∧ HS p F H H1 (m + 37202 + 304) ∧ Fz F H H1 kq = some (.lst (ks.map V.str)) ∧ Rooms H H1 l kq ks rs ∧ rs.length = many ∧ 0 ≤ L ∧ L ≤ 130 ∧ keySum rs ≤ 130)
    (ws_if (PxT.go (F := Fz F H H2) (pxt_and (R := fun b => b = true → rs ≠ []) (dt_c (c_is (c_ne hu (de_v 6 R.da) (de_lst dl_nil) (R.shaped hkk) (by rfl)) (congrArg not (eqv_nil _ rs)))) (fun hb => PxT.imp (pxt_eqI (x_take T hr (ve_v 0) de_int (by decide) (by decide)) de_int) fun _ _ _ z => by rw [z] at hb; exact nomatch hb) (fun _ z => nomatch z)) Fz.le S.fp S.P (by omega) fun b Fc Hc gc Pc hb => ?_)) ?_
  · replace Z := S.keepZ gc _ _ Z
    replace R := R.keep p0 gc.hh
    replace S := S.step gc Pc
    clear gc Pc
    cases b with
    | false => exact iteF (ss_nil ⟨rs, _, _, rfl, S.up (by omega), Z, R, hrl, hL0, by omega, by omega⟩)
    | true =>
      have hne := hb rfl
      have hpos : 0 < rs.length := List.length_pos_iff.mpr hne
      refine iteT (ss_cons (ws_set 13 nd (Px.go (F := Fz F H Hc) (x_take T hr (ve_v 0) (de_add (de_v 11 (d := .int (130 - keySum rs)) rfl) de_int) (by omega) (by omega)) Fz.le S.fp S.P (by omega) fun d v Fd Hd gd Pd hd hR => ?_)))
      obtain ⟨more, rfl, hm0, hm1⟩ := hR
      obtain rfl := (show v = .int more from hd)
      replace Z := S.keepZ gd _ _ Z
      replace R := R.keep p0 gd.hh
      replace S := S.step gd Pd
      clear gd Pd hd
      refine ss_cons (ws_expr (we_of (pe_bm PySem.F.plainAttrs_list PySem.F.slot_list_extend PySem.F.type_list_extend mt_extend (pe_ix ix_tup (pe_ix ix_list pe_we pe_we (fun _ _ => rfl)) pe_we (fun _ _ => rfl)) (pa_cons pe_we pa_nil)) (VE.at (F := Fz F H Hd) (ve_v 6) Fz.le fun Fe He ge => ?_)))
      replace Z := gr_z ge _ _ Z
      replace R := R.keep p0 (fun b o _ e => ge.hh b o e)
      replace S := S.gr ge
      clear ge
      refine Px.go (F := Fz F H He) (x_take T hr (ve_v 0) (de_lenL T.m_len (de_v 6 R.da)) (by rw [List.length_map]; omega) (by rw [List.length_map]; omega)) Fz.le S.fp S.P (by omega) fun d v Ff Hf gf Pf hd hR => ?_
      obtain ⟨j, rfl, hj0, hj1⟩ := hR
      obtain rfl := (show v = .int j from hd)
      rw [List.length_map] at hj1
      replace Z := S.keepZ gf _ _ Z
      replace R := R.keep p0 gf.hh
      replace S := S.step gf Pf
      clear gf Pf hd
      have hjl : j.toNat < rs.length := by omega
      obtain ⟨r, hrj⟩ : ∃ r, rs[j.toNat]? = some r := ⟨_, List.getElem?_eq_getElem hjl⟩
      have hrm := List.mem_of_getElem? hrj
      have hrA := R.at' r hrm
      refine ⟨l, _, j, .ref r.t, rfl, rfl, SqL.of R.hl, at_of (j := j.toNat) (by omega) (by rw [List.getElem?_map, hrj]; rfl), ?_⟩
      refine DE.at (F := Fz F H Hf) (d := .int 1) de_int Fz.le fun v Fg Hg gg hv => ?_
      obtain rfl := (show v = .int 1 from hv)
      replace Z := gr_z gg _ _ Z
      replace R := R.keep p0 (fun b o _ e => gg.hh b o e)
      replace S := S.gr gg
      replace hrA := R.at' r hrm
      clear gg hv
      refine ⟨r.t, _, 1, .ref r.k, rfl, rfl, SqT.of hrA.ht, rfl, .inl ⟨rfl, _, SqL.of hrA.hk⟩, ?_⟩
      refine PxN.go (F := Fz F H Hg) (x_law_some (A := fun n => (n : Int) = more) T hr (ve_v 0) (de_v 2 (dk Z)) (by omega) (by omega) (Px.imp (px_d (de_v 13 (d := .int more) rfl)) fun d e => ⟨more.toNat, by rw [e]; congr 1; omega, by omega, by omega⟩)) Fz.le S.fp S.P (by omega) fun d v Fh Hh gh Ph hd hR hf => ?_
      obtain ⟨ys, rfl, hyk, hyl⟩ := hR
      obtain ⟨b', vs, rfl, hFh, hvs⟩ := hd
      obtain rfl := hvs.strs
      have hbH : Hg b' = none := hf b' rfl
      have hbh : Hh b' = some (.lst (ys.map V.str)) := gh.fh _ _ hFh
      have hkqr : kq ≠ r.k := (R.nl r hrm).2.2.2
      replace Z := S.keepZ gh _ _ Z
      replace R := R.keep p0 gh.hh
      replace S := S.step gh Ph
      replace hrA := R.at' r hrm
      clear gh Ph hFh hvs
      refine ⟨r.k, b', _, _, rfl, rfl, hrA.hk, hbh, ?_, ?_⟩
      · rw [List.length_map, List.length_map]
        have h1 := key_le hrm
        have : sizeLine = 16777216 := by decide
        omega
      have S' := S.mut (o := .lst (r.keys.map V.str ++ ys.map V.str)) hrA.k0
      have Z' : Fz F H (upd Hh r.k (.lst (r.keys.map V.str ++ ys.map V.str))) kq = some (.lst (ks.map V.str)) := by rw [Fz.upd hkqr]; exact Z
      have R' := R.more (H2 := upd Hh r.k (.lst (r.keys.map V.str ++ ys.map V.str))) p0 hrj hyk (fun b o hb _ e => by rw [upd_ne hb]; exact e) (by rw [upd_same, List.map_append])
      have hrs : keySum (rs.set j.toNat { r with keys := r.keys ++ ys }) ≤ 130 := by
        have := keySum_set (s := { r with keys := r.keys ++ ys }) hrj
        have e : (RC.keys { r with keys := r.keys ++ ys }).length = r.keys.length + ys.length := List.length_append
        rw [e] at this
        omega
      generalize upd Hh r.k (.lst (r.keys.map V.str ++ ys.map V.str)) = Hi at S' Z' R'
      refine ss_one (ws_setD (F := Fz F H Hi) 11 nd (de_sub (de_v 11 (d := .int (130 - keySum rs)) rfl) (de_v 13 (d := .int more) rfl)) Fz.le fun v Fk Hk gk hv => ?_)
      obtain rfl := (show v = .int _ from hv)
      exact ⟨_, _, _, rfl, (S'.gr gk).up (by omega), gr_z gk _ _ Z', R'.keep p0 (fun b o _ e => gk.hh b o e), by rw [List.length_set]; exact hrl, by omega, by omega, hrs⟩
  rintro σ1 H1 ⟨rs, L, y13, rfl, S, Z, R, hrl, hL0, hLt, heach⟩
  -- the end
  refine ss_one (ws_ret (we_of (pe_tup (pa_cons pe_we (pa_cons pe_we pa_nil))) (PxN.go (F := Fz F H H1) (x_law_some (A := fun n => n ≤ 130) T hr (ve_v 0) (de_v 2 (dk Z)) (by omega) (by omega) (Px.imp (px_min (c1 := 0) (c2 := 2) (A := fun i => i = L) (B := fun i => 0 ≤ i ∧ i < 131) T.m_min rfl (Px.imp (px_d (de_v 11 (d := .int L) rfl)) fun d e => ⟨L, e, rfl⟩) (x_law_take (c := 0 + 1) T hr (ve_v 0) (menu_mem (k := 0) [3, 7, 25, 131] (A := fun i => 0 < i ∧ i ≤ 131) (de_lst (dl_cons de_int (dl_cons de_int (dl_cons de_int (dl_cons de_int dl_nil))))) (x_take T hr (ve_v 0) de_int (by decide) (by decide)) (by decide)) (by decide)))
    fun d ⟨a, b, e, h1, h2⟩ => ⟨(min a b).toNat, by rw [e]; congr 1; omega, by omega, by omega⟩)) Fz.le S.fp S.P (by omega) fun d v Fa Ha ga Pa hd hR hf => ?_)))
  obtain ⟨ys, rfl, hyk, hyl⟩ := hR
  obtain ⟨b', vs, rfl, hFa, hvs⟩ := hd
  obtain rfl := hvs.strs
  have hbH : H b' = none := S.free (hf b' rfl)
  have hbh : Ha b' = some (.lst (ys.map V.str)) := ga.fh _ _ hFa
  replace R := R.keep p0 ga.hh
  replace S := S.step ga Pa
  clear ga Pa hFa hvs
  refine VE.at (F := Fz F H Ha) (ve_v 6) Fz.le fun Fb Hb gb => ?_
  replace R := R.keep p0 (fun b o _ e => gb.hh b o e)
  replace S := S.gr gb
  replace hbh := gb.hh _ _ hbh
  clear gb
  refine ⟨by show 2 ≤ sizeLine; decide, fun t ht => ?_⟩
  have htH : H t = none := S.free ht
  have htp : t ≠ p := S.ne htH
  have St := S.mut (o := .tup [.ref b', .ref l]) htH
  have Rt := R.keep p0 (H2 := upd Hb t (.tup [.ref b', .ref l])) (fun b o _ e => by rw [upd_ne (ne_of_none e ht)]; exact e)
  have hbt : upd Hb t (.tup [.ref b', .ref l]) b' = some (.lst (ys.map V.str)) := by rw [upd_ne (ne_of_none hbh ht)]; exact hbh
  refine q (.ref t) _ _ (ys, rs.map RC.room) St.gp (St.P.mono (Same.refl _) (by omega)) ?_ (Rt.house hkk hk60 hyk (by omega) (by omega) hyl (by decide) heach)
  refine ⟨t, _, rfl, by rw [Fz.new htH]; exact upd_same, daAll_cons (HS.ks hbH hbt) (daAll_cons ?_ daAll_nil)⟩
  have := Rt.da (F0 := F)
  rw [List.map_map]
  exact this
end

/-! part ktc -/
section
variable {P : Program} {w : World} {K : PySem.W.Frag} {mg : Str → Option Value} {base : Heap}
def pre1H (A : House → Prop) : List PyData → Prop := fun ds => ∃ h, ds = [houseD h] ∧ A h
def post1H (R : House → PyData → Prop) : List PyData → PyData → Prop := fun ds d => ∀ h, ds = [houseD h] → R h d
theorem houseD_inj {g h : House} (e : houseD g = houseD h) : g = h := by
  have h1 := eqv_house g h
  have h2 : PyData.eqv (houseD g) (houseD g) = true := by rw [eqv_house]; simp
  rw [← e, h2] at h1
  exact of_decide_eq_true h1.symm
theorem ok_kinds_that_come (T : Tx K mg) : FnOk P w K mg base CX0 6 T.f_kinds_that_come T.d_kinds_that_come ["house"] (spR 1 (pre1H Small) (post1H fun h d => ∃ c, d = ksD c ∧ IsCome h c)) := by
  refine okR T.F_kinds_that_come sc_kinds_that_come fun X cdv A outer s H0 E vs F H ds Q hX hr hs ha hp q => ?_
  obtain ⟨h, rfl, sm⟩ := hp
  obtain ⟨v, rfl, hd⟩ := daAll1 ha
  have q : ∀ v F2 H2 c, Gr F H F2 H2 → Da F2 (ksD c) v → IsCome h c → (∀ a, v = .ref a → H a = none) → Q v H2 := fun v F2 H2 c g hd hc hf => q (ksD c) v F2 H2 g hd (fun h' e => by
    have : h = h' := houseD_inj (by injection e)
    subst this; exact ⟨c, rfl, hc⟩) hf
  subst hX
  clear ha
  have nd := sc_kinds_that_come.nd
  have hu := hr.units
  have gd := sm.good
  refine ss_cons (ws_expr (DE.at (F := F) (x_need_house T hr gd (de_v 0 hd)) hs fun v1 F1 H1 g1 _ => ?_))
  refine ss_cons (ws_set 1 nd (NE.go (F := F1) (ne_sortedSet T.m_sorted T.m_set rfl (by have := sm.b; omega) (de_ixT (d := ksD h.1) (de_v 0 (g1.da hd)) de_int rfl)) g1.fh fun d2 v2 F2 H2 g2 hv2 e2 fr => ?_))
  subst e2
  have g12 := g1.trans g2
  refine ss_cons (ws_setD (F := F2) 2 nd (de_neg de_int) g12.fh fun v3 F3 H3 g3 hv3 => ?_)
  obtain rfl := (show v3 = .int (-1) from hv3)
  have g13 := g12.trans g3
  have fresh2 : ∀ a, v2 = .ref a → H a = none := fun a e => g1.hh.free (fr a e)
  refine ss_cons (ws_while PassesOwn.never (fun mm σ' H' => ∃ (F' : Hp) (c : List Str) (many : Int) (v1 : V) (y3 y4 y5 y6 : Option V), σ' = [some v, some v1, some (.int many), y3, y4, y5, y6] ∧ Gr F H F' H' ∧ Da F' (ksD c) v1 ∧ (∀ a, v1 = .ref a → H a = none) ∧ (∀ x ∈ c, Comes h x) ∧ (∀ x ∈ h.1, x ∈ c) ∧ c.Nodup ∧ c.Pairwise (fun a b => leS a b = true) ∧ -1 ≤ many ∧ many ≤ 2000 ∧ (many = -1 ∨ ∃ c0 : List Str, c0.Nodup ∧ (c0.length : Int) = many ∧ (∀ x ∈ c0, x ∈ c) ∧ ∀ x ∈ newKeys c0 h.2, x ∈ c) ∧ mm = (2001 - many).toNat) 2002 ?_ ?_)
  · exact ⟨F3, kset h.1, -1, v2, none, none, none, none, rfl, g13, g3.da hv2, fresh2, fun x hx => .begin' (mem_kset.mp hx), fun x hx => mem_kset.mpr hx, kset_nodup _, kset_sorted _, by decide, by decide, .inl rfl, rfl⟩
  · rintro mm σ' H' ⟨F', c, many, v1, y3, y4, y5, y6, rfl, g', hv1, fr1, hc, hb, hn, hp, m1, m2, hw, rfl⟩
    have cl := come_len sm hc hn
    refine DT.go (F := F') (dt_c (c_lt (de_v (d := .int many) 2 rfl) (de_lenL T.m_len (de_v 1 hv1)))) g'.fh fun F4 H4 g4 => ?_
    rw [List.length_map]
    by_cases hm : many < (c.length : Int)
    · rw [decide_eq_true hm]
      refine iteT ?_
      have g4' := g'.trans g4
      refine ss_cons (ws_setD (F := F4) 2 nd (de_lenL T.m_len (de_v 1 (g4.da hv1))) g4'.fh fun v5 F5 H5 g5 hv5 => ?_)
      rw [List.length_map] at hv5
      obtain rfl := (show v5 = .int (c.length : Int) from hv5)
      have g5' := g4'.trans g5
      refine ss_cons (ws_set 3 nd (we_listOf (F := F5) T.m_list (de_v 1 (g5.da (g4.da hv1))) g5'.fh fun l vs F6 H6 g6 hvs hl => ?_))
      obtain rfl := hvs.strs
      have g6' := g5'.trans g6
      have hHl : H l = none := g6'.hh.free hl
      have hFl : F6 l = none := g6'.fh.free hl
      have g7 : Gr F H F6 (upd H6 l (.lst (c.map V.str))) := g6'.open' hl
      refine ss_cons (ws_for0 (F := F6) PassesOwn.never rfl (di_list (de_ixT (d := .list (h.2.map roomD)) (de_v 0 (g6'.da hd)) de_int rfl)) g7.fh fun F7 H7 g8 => ⟨fun i σ' F' H' => ∃ y4 y5 y6 : Option V, σ' = [some v, some v1, some (.int (c.length : Int)), some (.ref l), y4, y5, y6] ∧ Same F7 F' ∧ Gr F H F' H' ∧ F' l = none ∧ H' l = some (.lst ((c ++ newKeys c (h.2.take i)).map V.str)), ?_, ?_, ?_, ?_⟩)
      · exact ⟨y4, y5, y6, rfl, Same.refl _, g7.trans g8, g8.f0 hFl upd_same, by rw [List.take_zero]; show _ = some (HO.lst ((c ++ []).map V.str)); rw [List.append_nil]; exact g8.hh _ _ upd_same⟩
      · rintro i σ' F' H' ⟨_, _, _, _, s7, gg, _, _⟩
        exact ⟨s7, gg.fh⟩
      · rintro i d v8 σ' F' H' hd8 ⟨z4, z5, z6, rfl, s7, gg, fl, hll⟩ hv8
        obtain ⟨r, hr, rfl⟩ := getMap hd8
        refine wg_tup2 (F := F') (d1 := ksD r.1) (d2 := ksD r.2) rfl hv8 gg.fh fun w1 w2 hw1 hw2 => wg_name 4 nd (wg_name 5 nd (ss_one (ws_ifD (F := F') (dt_c (c_eqNil hu (de_lcIf (xs := r.1) (Dx := .str) [("kind", 6)] (lcok sc_kinds_that_come (by decide +kernel)) (fun k => !decide (k ∈ c)) (fun k => .str k) (di_list (de_v 4 hw1)).i (roomSz sm hr) fun k hk v F' H' g' hv => ?_))) gg.fh (fun hb F2 H2 g => ?_) (fun hb F2 H2 g => ?_))))
        · exact gb_name 6 nd ⟨rfl, rfl, fun _ _ _ _ _ => dt_c (c_notInS (de_v 6 hv) (de_v 1 ((s7.trans g'.ff) |> fun s => hv1.mono (g4.ff.trans (g5.ff.trans (g6.ff.trans (g8.ff.trans s)))) ))), fun _ _ _ _ _ _ => de_v 6 hv⟩
        · rw [filter_none] at hb
          refine ss_one (ws_extend (F := F2) (ve_v 3) (de_v 5 (g.da hw2)) g.fh (g.hh _ _ hll) (extSz sm cl hr) fun vs F9 H9 g9 hvs => ?_)
          obtain rfl := hvs.strs
          have f9 := (g.trans g9).f0 fl hll
          refine ⟨F9, _, _, _, rfl, s7.trans (g.trans g9).ff, Gr.mut (gg.trans (g.trans g9)) hHl f9, f9, ?_⟩
          rw [upd_same, newKeys_snoc hr, if_pos hb, List.map_append, List.map_append, List.map_append, List.append_assoc]
        · rw [filter_none] at hb
          refine ss_nil ⟨F2, _, _, _, rfl, s7.trans g.ff, gg.trans g, g.f0 fl hll, ?_⟩
          rw [newKeys_snoc hr, if_neg (by rw [hb]; decide), List.append_nil]
          exact g.hh _ _ hll
      · rintro σ' F' H' ⟨z4, z5, z6, rfl, s7, gg, fl, hll⟩
        rw [List.length_map, List.take_length] at hll
        have gt := gg.tell hHl fl hll
        refine ss_one (ws_set 1 nd (NE.go (F := upd F' l _) (ne_sortedSet T.m_sorted T.m_set rfl (comeSz sm cl) (de_v 3 ⟨l, _, rfl, upd_same, daAll_strs _⟩)) gt.fh fun d9 v9 F9 H9 g9 hv9 e9 fr9 => ?_))
        subst e9
        exact ⟨_, by omega, F9, kset (c ++ newKeys c h.2), (c.length : Int), v9, some (.ref l), z4, z5, z6, rfl, gt.trans g9, hv9, fun a e => gg.hh.free (fr9 a e), step_come hc, fun x hx => mem_kset.mpr (List.mem_append_left _ (hb x hx)), kset_nodup _, kset_sorted _, by omega, by omega, .inr ⟨c, hn, rfl, fun x hx => mem_kset.mpr (List.mem_append_left _ hx), fun x hx => mem_kset.mpr (List.mem_append_right _ hx)⟩, rfl⟩
    · rw [decide_eq_false hm]
      refine iteF (ss_one (ws_ret (VE.go (F := F4) (ve_v (w := v1) 1) g4.fh fun F5 H5 g5 => ?_)))
      exact q v1 F5 H5 c (g'.trans (g4.trans g5)) (g5.da (g4.da hv1)) (done_come hc hb hn hp hm hw) fr1
end

/-! part chain -/
section
variable {P : Program} {w : World} {K : PySem.W.Frag} {mg : Str → Option Value} {base : Heap}
theorem ok_law_chain (T : Tx K mg) : FnOk P w K mg base CX0 2 T.f_law_chain T.d_law_chain ["pool", "most"] (spP 400 1 (fun ds => ∃ n : Nat, ds = [.int n] ∧ 1 ≤ n ∧ n ≤ 60) (fun ds d => ∀ n : Nat, ds = [.int n] → ∃ h, d = houseD h ∧ ChainOf n h)) := by
  refine okP T.F_law_chain sc_law_chain rfl fun X cdv A outer s H0 E p m us F H ds Q hX hr hP hm hs hp ha hpre q => ?_
  obtain ⟨n, rfl, hn1, hn60⟩ := hpre
  obtain ⟨v, rfl, hd⟩ := daAll1 ha
  obtain rfl := (show v = .int n from hd)
  have q : ∀ v F2 H2 (h : House), Gp p F H F2 H2 → Pool H2 p (m + 400) → Da F2 (houseD h) v → ChainOf n h → Q v H2 := fun v F2 H2 h g P2 hd hh => q (houseD h) v F2 H2 g P2 hd fun n' e => ⟨h, rfl, by
    have : n = n' := by injection e with e; injection e with e; omega
    subst this; exact hh⟩
  subst hX
  clear ha hd
  have nd := sc_law_chain.nd
  have hu := hr.units
  have hp0 : H p ≠ none := by obtain ⟨o, ho⟩ := hP.some; rw [ho]; exact fun z => nomatch z
  -- many
  refine ss_cons (ws_set 2 nd (Px.go (F := F) (px_add (c1 := 0) (c2 := 1) (A := fun i => i = 1) (B := fun i => 0 ≤ i ∧ i < n) (Px.imp (px_d de_int) fun d e => ⟨1, e, rfl⟩) (x_take T hr (ve_v 0) (de_v 1 (d := .int n) rfl) (by omega) (by omega))) hs hp hP (by omega) fun d v F1 H1 g1 P1 hd hR => ?_))
  obtain ⟨a, b, rfl, ha, hb0, hb1⟩ := hR
  obtain ⟨many, hmany⟩ : ∃ many : Nat, a + b = (many : Int) := ⟨(a + b).toNat, by omega⟩
  rw [hmany] at hd
  obtain rfl := (show v = .int many from hd)
  have hm1 : 1 ≤ many := by omega
  have hmn : many ≤ n := by omega
  clear ha hb0 hb1 hmany hd
  have f1 : F1 p = none := by obtain ⟨o, ho⟩ := hP.some; exact g1.f0 hp ho
  -- names
  refine ss_cons (ws_set 3 nd (we_lst (F := F1) dl_nil g1.fh (by decide) fun ln vs F2 H2 g2 hvs hln => ?_))
  obtain rfl : vs = [] := hvs
  have hH1n : H1 ln = none := g2.hh.free hln
  have hnp : ln ≠ p := fun z => by subst z; exact g1.at' hp0 hH1n
  have hHn : H ln = none := by
    cases e : H ln with
    | none => rfl
    | some o => rw [g1.hh ln o hnp e] at hH1n; cases hH1n
  have G2 : Gp p F H F2 (upd H2 ln (.lst [])) := (g1.trans g2.gp).open' hln hp0
  have P2 : Pool (upd H2 ln (.lst [])) p (m + 1) := P1.mono (g2.hh.trans (same_upd hln))
  have fn2 : F2 ln = none := g2.fh.free hln
  have f2 : F2 p = none := by obtain ⟨o, ho⟩ := P1.some; exact g2.f0 f1 ho
  refine ss_cut (fun σ' H' => ∃ y4 : Option V, σ' = [some (.ref p), some (.int n), some (.int many), some (.ref ln), y4, none, none, none, none, none, none] ∧ Gp p F H F2 H' ∧ Pool H' p (m + 1) ∧ H' ln = some (.lst ((nms (many + 1)).map V.str))) (ws_forR (n := many + 1) (F := F2) PassesOwn.never rfl T.m_range (de_add (de_v 2 (d := .int many) rfl) de_int) (by omega) G2.fh fun F3 H3 g3 => ⟨fun i σ' H' => ∃ y4 : Option V, σ' = [some (.ref p), some (.int n), some (.int many), some (.ref ln), y4, none, none, none, none, none, none] ∧ Gp p F H F2 H' ∧ Pool H' p (m + 1) ∧ H' ln = some (.lst ((nms i).map V.str)), ?_, ?_, ?_⟩) ?_
  · exact ⟨none, rfl, G2.thenGr g3, P2.mono g3.hh, g3.hh _ _ upd_same⟩
  · rintro i σ' H' hi ⟨y4, rfl, G, Pl, hl⟩
    refine wg_name 4 nd (ss_one (ws_append (F := F2) (ve_v 3) (de_repS (de_ixS de_str (de_mod (de_v 4 (d := .int i) rfl) de_int (by decide)) letters_sz (nmK_at i)) (de_add de_int (de_fdiv (de_v 4 (d := .int i) rfl) de_int ⟨by omega, by decide⟩)) (by omega) (by omega) rfl) G.fh hl (nmsSz hi hmn hn60) fun v Fa Ha ga hv => ?_))
    obtain rfl := (show v = .str (nmK i) from hv)
    exact ⟨_, rfl, (G.thenGr ga).mut hHn hnp fn2, Pool.mut' Pl ga.hh hnp (Nat.le_refl _), by rw [upd_same, nms_succ, List.map_append]; rfl⟩
  · rintro σ' H' ⟨y4, rfl, G, Pl, hl⟩
    exact ⟨y4, rfl, G, Pl, hl⟩
  rintro σ' H3 ⟨y4, rfl, G3, P3, hl3⟩
  -- the names are told for good
  have G3 := G3.tell hHn fn2 hl3
  have hF3 : upd F2 ln (.lst ((nms (many + 1)).map V.str)) ln = some (.lst ((nms (many + 1)).map V.str)) := upd_same
  have f3 : upd F2 ln (.lst ((nms (many + 1)).map V.str)) p = none := by rw [upd_ne (fun z => hnp z.symm)]; exact f2
  generalize upd F2 ln (.lst ((nms (many + 1)).map V.str)) = F3 at G3 hF3 f3
  have dn : ∀ {F' : Hp}, Same F3 F' → Da F' (ksD (nms (many + 1))) (.ref ln) := fun s => ⟨ln, _, rfl, s _ _ hF3, daAll_strs _⟩
  clear fn2 f2 G2 P2 g1 g2 f1 hln hH1n P1
  -- rooms
  refine ss_cons (ws_set 5 nd (we_lst (F := F3) dl_nil G3.fh (by decide) fun lr vs F4 H4 g4 hvs hlr => ?_))
  obtain rfl : vs = [] := hvs
  have G4' := G3.trans g4.gp
  have hrp : lr ≠ p := fun z => by subst z; exact G4'.at' hp0 hlr
  have hHr : H lr = none := G4'.free' hrp hlr
  have fr4 : F4 lr = none := g4.fh.free hlr
  have G4 : Gp p F H F4 (upd H4 lr (.lst [])) := G4'.open' hlr hp0
  have P4 : Pool (upd H4 lr (.lst [])) p (m + 1) := P3.mono (g4.hh.trans (same_upd hlr))
  have f4 : F4 p = none := by obtain ⟨o, ho⟩ := P3.some; exact g4.f0 f3 ho
  have hl4 : upd H4 lr (.lst []) lr = some (.lst []) := upd_same
  have s34 : Same F3 F4 := g4.ff
  generalize upd H4 lr (.lst []) = H5 at G4 P4 hl4
  -- broken
  refine ss_cons (ws_set 6 nd (Px.go (F := F4) (x_take T hr (ve_v 0) (de_mul de_int (de_v 2 (d := .int many) rfl) (cmul_small hmn hn60)) (by omega) (by omega)) G4.fh f4 P4 (by omega) fun d v F6 H6 g6 P6 hd hR => ?_))
  obtain ⟨broken, rfl, _, _⟩ := hR
  obtain rfl := (show v = .int broken from hd)
  have G6 := G4.trans g6
  have f6 : F6 p = none := by obtain ⟨o, ho⟩ := P4.some; exact g6.f0 f4 ho
  have fr6 : F6 lr = none := g6.f0 fr4 hl4
  have hl6 := g6.hh _ _ hrp hl4
  have s36 := s34.trans g6.ff
  clear G4' G4 P4 g6 g4 hlr f4 fr4 hl4 s34 hd
  -- the rooms
  refine ss_cut (fun σ' H' => ∃ (F' : Hp) (rs : List Room') (vs : List V) (y4 y7 y8 : Option V), σ' = [some (.ref p), some (.int n), some (.int many), some (.ref ln), y4, some (.ref lr), some (.int broken), y7, y8, none, none] ∧ Same F6 F' ∧ Gp p F H F' H' ∧ F' p = none ∧ F' lr = none ∧ Pool H' p (m + 2 + 3 * many) ∧ H' lr = some (.lst vs) ∧ DaAll F' (rs.map roomD) vs ∧ rs.length = many ∧ ∀ r ∈ rs, chainRoom (nms (many + 1)) r) (ws_forR (n := many) (F := F6) PassesOwn.never rfl T.m_range (de_v 2 (d := .int many) rfl) (by omega) G6.fh fun F7 H7 g7 => ⟨fun i σ' H' => ∃ (F' : Hp) (rs : List Room') (vs : List V) (y4 y7 y8 : Option V), σ' = [some (.ref p), some (.int n), some (.int many), some (.ref ln), y4, some (.ref lr), some (.int broken), y7, y8, none, none] ∧ Same F6 F' ∧ Gp p F H F' H' ∧ F' p = none ∧ F' lr = none ∧ Pool H' p (m + 2 + 3 * i) ∧ H' lr = some (.lst vs) ∧ DaAll F' (rs.map roomD) vs ∧ rs.length = i ∧ ∀ r ∈ rs, chainRoom (nms (many + 1)) r, ?_, ?_, ?_⟩) ?_
  · exact ⟨F7, [], [], y4, none, none, rfl, g7.ff, G6.trans g7.gp, by obtain ⟨o, ho⟩ := P6.some; exact g7.f0 f6 ho, g7.f0 fr6 hl6, P6.mono g7.hh, g7.hh _ _ hl6, daAll_nil, rfl, fun r h => nomatch h⟩
  · rintro i σ' H' hi ⟨F', rs, vs, y4, y7, y8, rfl, s6, G, fp, fr, Pl, hl, hda, hlen, hrs⟩
    refine wg_name 4 nd ?_
    have dn' := dn (s36.trans s6)
    obtain ⟨xb, hxb, hat⟩ := nms_before (n := many + 1) (k := i) (by omega)
    have hnm : ∀ j : Nat, j < many + 1 → nmK j ∈ nms (many + 1) := fun j hj => List.mem_map.mpr ⟨j, List.mem_range.mpr hj, rfl⟩
    -- locks
    refine ss_cons (ws_set 7 nd (PxN.go (F := F') (pxn_sortedS (c := 1) (A := fun xs => (∀ x ∈ xs, x ∈ nms (many + 1)) ∧ 1 ≤ xs.length ∧ xs.length ≤ 2) T.m_sorted (Px.imp (px_catL (c1 := 0) (c2 := 0 + 1) (A := fun xs => xs = [.str (nmK i)]) (B := fun ys => ∃ n : Nat, ys = List.replicate n (.str xb) ∧ n ≤ 1) (Px.imp (px_d (de_lst (dl_cons (de_ixL (de_v 3 dn') (de_v 4 (d := .int i) rfl) (nms_at (by omega))) dl_nil) (by show 1 ≤ sizeLine; decide))) fun d e => ⟨_, e, rfl⟩)
      (Px.imp (px_repL (c1 := 0) (c2 := 1) (A := fun x => x = .str xb) (B := fun n => n ≤ 1) (Px.imp (px_d (de_lst (dl_cons (de_ixL (de_v 3 dn') (de_sub (de_v 4 (d := .int i) rfl) de_int) hat) dl_nil) (by show 1 ≤ sizeLine; decide))) fun d e => ⟨_, e, rfl⟩) (px_intB T.m_int (px_and (de_c (c_gt (de_v 4 (d := .int i) rfl) de_int)) fun _ => px_one (px_eqI (x_take T hr (ve_v 0) de_int (by decide) (by decide)) de_int)))) fun d ⟨n, x, e, hx, hn⟩ => ⟨_, e, n, by rw [hx], hn⟩) (fun xs ys h1 h2 => chainSz1 h1 h2)) fun d ⟨xs, ys, e, h1, h2⟩ => chainLocks e h1 h2 (hnm i (by omega)) hxb)) G.fh fp Pl (by omega) fun d v Fa Ha ga Pa hd hR _ => ?_))
    obtain ⟨xs, rfl, hx1, hx2, hx3⟩ := hR
    have fa : Fa p = none := by obtain ⟨o, ho⟩ := Pl.some; exact ga.f0 fp ho
    have fra : Fa lr = none := ga.f0 fr hl
    have dna := dn ((s36.trans s6).trans ga.ff)
    -- keys
    refine ss_cons (ws_set 8 nd (Px.go (F := Fa) (px_catL (c1 := 0 + 0) (c2 := 1 + 1) (A := fun xs => ∃ n : Nat, xs = List.replicate n (.str (nmK (i + 1))) ∧ n ≤ 1) (B := fun ys => ∃ (n : Nat) (x : Str), ys = List.replicate n (.str x) ∧ x ∈ nms (many + 1) ∧ n ≤ 1) (Px.imp (px_repL (A := fun x => x = .str (nmK (i + 1))) (B := fun n => n ≤ 1) (Px.imp (px_d (de_lst (dl_cons (de_ixL (de_v 3 dna) (de_add (de_v 4 (d := .int i) rfl) de_int) (nms_at (k := i + 1) (by omega))) dl_nil) (by show 1 ≤ sizeLine; decide))) fun d e => ⟨_, e, rfl⟩) (px_intB T.m_int (Px.imp (px_d (de_c (c_neI (de_v 4 (d := .int i) rfl) (de_v 6 (d := .int broken) rfl)))) fun d e => ⟨_, e⟩))) fun d ⟨n, x, e, hx, hn⟩ => ⟨_, e, n, by rw [hx], hn⟩)
      (Px.imp (px_repL (c1 := 1) (c2 := 1) (A := fun x => ∃ z ∈ nms (many + 1), x = .str z) (B := fun n => n ≤ 1) (px_lst1 (Px.imp (px_ixL (c1 := 0) (c2 := 1) (A := fun d => d = ksD (nms (many + 1))) (R := fun x => ∃ z ∈ nms (many + 1), x = .str z) (px_d (de_v 3 dna)) (Px.imp (x_take T hr (ve_v 0) (de_add (de_v 4 (d := .int i) rfl) de_int) (by omega) (by omega)) fun d ⟨j, e, h0, h1⟩ => ⟨j, e, h0, fun d' e' => ⟨_, e', by rw [List.length_map, nms_len]; omega, fun d h => by obtain ⟨z, hz, e⟩ := List.mem_map.mp h; exact ⟨z, hz, e.symm⟩⟩⟩)) fun d h => h)) (Px.imp (x_take T hr (ve_v 0) de_int (by decide) (by decide)) fun d ⟨j, e, h0, h1⟩ => ⟨j.toNat, by rw [e]; congr 1; omega, by omega, by omega⟩)) fun d ⟨n, x, e, ⟨z, hz, ez⟩, hn⟩ => ⟨_, e, n, z, by rw [ez], hz, hn⟩) (fun xs ys h1 h2 => chainSz2 h1 h2)) ga.fh fa Pa (by omega) fun d v2 Fb Hb gb Pb hd2 hR => ?_))
    obtain ⟨ks, rfl, hk1, hk2⟩ := chainKeys hR (hnm (i + 1) (by omega))
    have fb : Fb p = none := by obtain ⟨o, ho⟩ := Pa.some; exact gb.f0 fa ho
    have hla := ga.hh _ _ hrp hl
    have frb : Fb lr = none := gb.f0 fra hla
    have hlb := gb.hh _ _ hrp hla
    have Gb := (G.trans ga).trans gb
    have hv7 := gb.da hd
    have hvl : vs.length = i := by rw [hda.length, List.length_map, hlen]
    refine ss_one (ws_append (F := Fb) (ve_v 5) (de_tup (dl_cons (de_v 7 hv7) (dl_cons (de_v 8 hd2) dl_nil)) (by show 2 ≤ sizeLine; decide)) Gb.fh hlb (chainSz3 hvl hi hmn hn60) fun v3 Fc Hc gc hd3 => ?_)
    have frc := gc.f0 frb hlb
    refine ⟨Fc, rs ++ [(srt xs, ks)], vs ++ [v3], _, _, _, rfl, s6.trans (ga.ff.trans (gb.ff.trans gc.ff)), (Gb.trans gc.gp).mut hHr hrp frc, by obtain ⟨o, ho⟩ := Pb.some; exact gc.f0 fb ho, frc, Pool.mut' Pb gc.hh hrp (by omega), upd_same, ?_, by rw [List.length_append, hlen]; rfl, fun r hr' => ?_⟩
    · rw [List.map_append]
      exact (hda.mono (ga.ff.trans (gb.ff.trans gc.ff))).snoc hd3
    · rcases List.mem_append.mp hr' with h | h
      · exact hrs r h
      · rw [List.mem_singleton] at h
        subst h
        exact chainR hx1 hx2 hx3 hk1 hk2
  · rintro σ' H' ⟨F', rs, vs, y4, y7, y8, rfl, z⟩
    exact ⟨F', rs, vs, y4, y7, y8, rfl, z⟩
  rintro σ' H8 ⟨F8, rs, vs, y4, y7, y8, rfl, s6, G8, fp8, fr8, P8, hl8, hda, hlen, hrs⟩
  clear G6 P6 f6 fr6 hl6
  have dn8 := dn (s36.trans s6)
  -- begin
  refine ss_cons (ws_set 9 nd (Px.go (F := F8) (px_repL (c1 := 0) (c2 := 1) (A := fun x => x = .str (nmK 0)) (B := fun n => n ≤ 2) (Px.imp (px_d (de_lst (dl_cons (de_ixL (de_v 3 dn8) de_int (nms_at (k := 0) (by omega))) dl_nil) (by show 1 ≤ sizeLine; decide))) fun d e => ⟨_, e, rfl⟩) (Px.imp (x_take T hr (ve_v 0) de_int (by decide) (by decide)) fun d ⟨j, e, h0, h1⟩ => ⟨j.toNat, by rw [e]; congr 1; omega, by omega, by omega⟩)) G8.fh fp8 P8 (by omega) fun d v9 F9 H9 g9 P9 hd9 hR => ?_))
  obtain ⟨nb, xb, rfl, rfl, hnb⟩ := hR
  have G9 := G8.trans g9
  have fp9 : F9 p = none := by obtain ⟨o, ho⟩ := P8.some; exact g9.f0 fp8 ho
  have fr9 : F9 lr = none := g9.f0 fr8 hl8
  have hl9 := g9.hh _ _ hrp hl8
  have hda9 := hda.mono g9.ff
  -- left; the rooms are told for good
  have G9' := G9.tell hHr fr9 hl9
  have fp9' : upd F9 lr (.lst vs) p = none := by rw [upd_ne (fun z => hrp z.symm)]; exact fp9
  have s9 : Same F9 (upd F9 lr (.lst vs)) := same_upd fr9
  have hr9 : upd F9 lr (.lst vs) lr = some (.lst vs) := upd_same
  have hda9' := hda9.mono s9
  have hd9' := hd9.mono s9
  generalize upd F9 lr (.lst vs) = Fd at G9' fp9' s9 hr9 hda9' hd9'
  refine ss_cons (ws_set 10 nd (we_listOf (F := Fd) T.m_list (de_v 5 ⟨lr, vs, rfl, hr9, hda9'⟩) G9'.fh fun ll us F10 H10 g10 hus hll => ?_))
  have hlp : ll ≠ p := fun z => by subst z; exact (G9'.trans g10.gp).at' hp0 hll
  have hHll : H ll = none := (G9'.trans g10.gp).free' hlp hll
  have fll : F10 ll = none := g10.fh.free hll
  have G10 : Gp p F H F10 (upd H10 ll (.lst us)) := (G9'.trans g10.gp).open' hll hp0
  have P10 : Pool (upd H10 ll (.lst us)) p (m + 3 + 3 * many) := Pool.mono P9 (g10.hh.trans (same_upd hll)) (by omega)
  have f10 : F10 p = none := by obtain ⟨o, ho⟩ := P9.some; exact g10.f0 fp9' ho
  have h10 : upd H10 ll (.lst us) ll = some (.lst us) := upd_same
  have hd10 := hd9'.mono g10.ff
  have hul : us.length = many := by rw [hus.length, List.length_map, hlen]
  generalize upd H10 ll (.lst us) = H11 at G10 P10 h10
  clear G9 G9' G8 P8 P9 g9 g10 hda9 hda9' hda hd9 hd9' fp9 fp9' fr9 hl9 hll s9 hr9 fr8 fp8 hl8
  refine ss_cons (ws_setLcP (n := many) (F := F10) 5 [("k", 4)] (lcok sc_law_chain (by decide +kernel)) T.m_range (de_v 2 (d := .int many) rfl) (by omega) G10.fh fun F12 H12 g12 L hL => ?_)
  have fL : F12 L = none := g12.fh.free hL
  have G12 := G10.trans g12.gp
  have hLp : L ≠ p := fun z => by subst z; exact G12.at' hp0 hL
  have hHL : H L = none := G12.free' hLp hL
  have h12 := g12.hh _ _ h10
  have hLl : L ≠ ll := fun z => by subst z; rw [h12] at hL; cases hL
  have f12 : F12 p = none := by obtain ⟨o, ho⟩ := P10.some; exact g12.f0 f10 ho
  have fl12 : F12 ll = none := g12.f0 fll h10
  have P12 := P10.mono g12.hh (Nat.le_refl _)
  have hus12 := daAll_of (hus.mono g12.ff)
  have hd12 := hd10.mono g12.ff
  have G12' : Gp p F H F12 (upd H12 L (.lst [])) := G12.open' hL hp0
  refine ⟨fun i H' => ∃ xs ys : List V, Gp p F H F12 H' ∧ Pool H' p (m + 3 + 3 * many + i) ∧ H' ll = some (.lst xs) ∧ H' L = some (.lst ys) ∧ xs.length + i = many ∧ ys.length = i ∧ (∀ v ∈ xs, v ∈ us) ∧ ∀ v ∈ ys, v ∈ us, ?_, ?_, ?_⟩
  · exact ⟨us, [], G12', P12.mono (same_upd hL), by rw [upd_ne (fun z => hLl z.symm)]; exact h12, upd_same, by omega, rfl, fun v h => h, fun v h => nomatch h⟩
  · rintro i H' hi ⟨xs, ys, G, Pl, hlx, hly, hxl, hyl, hxu, hyu⟩
    obtain ⟨ss, hss, hsl, _⟩ := ofRooms (F := F12) (rs := rs) (vs := xs) fun v hv => hus12 v (hxu v hv)
    have su : Same F12 (upd F12 ll (.lst xs)) := same_upd fl12
    refine gb_name 4 nd ⟨rfl, fun b1 b2 b3 b4 b5 => ?_⟩
    refine we_popX (X := Blk _ _ b1 b2 b3 b4 b5) (F := upd F12 ll (.lst xs)) (p := p) (c := 1) (xs := xs) (l := ll) (ve_v 10) (Px.imp (x_take T hr (ve_v 0) (de_lenL T.m_len (de_v 10 ⟨ll, xs, rfl, upd_same, hss.mono su⟩)) (popPos hsl hxl hi) (popLt hsl hxl hmn hn60)) (popIx hsl)) (Same.cell G.fh hlx) hlx hlp (popSz hxl hmn hn60) (by rw [upd_ne (fun z => hlp z.symm)]; exact f12) Pl (by omega) fun j v F2 H2 hj g2 P2 => ?_
    have gb := G.trans (g2.back su)
    refine ⟨ys, by rw [upd_ne hLl]; exact g2.hh _ _ hLp hly, accSz hyl hi hmn hn60, xs.eraseIdx j, ys ++ [v], (gb.mut hHll hlp fl12).mut hHL hLp fL, Pool.mut' (Pool.mut' P2 (Same.refl _) hlp (Nat.le_refl _)) (Same.refl _) hLp (by omega), by rw [upd_ne (fun z => hLl z.symm)]; exact upd_same, upd_same, ?_, ?_, fun u hu => hxu u (List.mem_of_mem_eraseIdx hu), fun u hu => ?_⟩
    · have := erase_len hj
      omega
    · rw [List.length_append, hyl]; rfl
    · rcases List.mem_append.mp hu with hu | hu
      · exact hyu u hu
      · rw [List.mem_singleton] at hu; subst hu; exact hxu u (List.mem_of_getElem? hj)
  · rintro H' ⟨xs, ys, G, Pl, hlx, hly, hxl, hyl, hxu, hyu⟩
    obtain ⟨ss, hss, hsl, hsr⟩ := ofRooms (F := F12) (rs := rs) (vs := ys) fun v hv => hus12 v (hyu v hv)
    have Gt := G.tell hHL fL hly
    have sL : Same F12 (upd F12 L (.lst ys)) := same_upd fL
    refine ss_one (ws_retD (F := upd F12 L (.lst ys)) (d := houseD (List.replicate nb (nmK 0), ss)) (de_tup (dl_cons (de_v 9 (by rw [← List.map_replicate] at hd12; exact hd12.mono sL)) (dl_cons (de_v 5 ⟨L, ys, rfl, upd_same, hss.mono sL⟩) dl_nil)) (by show 2 ≤ sizeLine; decide)) Gt.fh fun v Fe He ge hv => ?_)
    exact q v Fe He _ (Gt.trans ge.gp) (Pl.mono ge.hh (by omega)) hv (chainOf (ns := nms (many + 1)) (fun k hk => nms_mem hk (by omega)) (fun r hr' => hrs r (hsr r hr')) (fun k hk => by rw [List.eq_of_mem_replicate hk]; exact List.mem_map.mpr ⟨0, List.mem_range.mpr (by omega), rfl⟩) (by rw [List.length_replicate]; exact hnb) (by omega) (by omega) (by omega))
end

/-! part lawx -/
section
variable {X : Cx} {σ : St} {F H : Hp} {a b e : Expr} {pos q : Pos} {k : Nat}
theorem x_law_pool {l : Addr} {ns : List Int} {n : Nat} (T : Tx X.K X.mg) (hr : Room k X.A) (ha : VE X a σ F F (.ref l)) (hb : DE X b σ F F (.int n)) (hq : SqL X.K F l (ns.map V.int)) (hn : n ≤ 1000) (s : Same F H) {Q : VK} (k' : ∀ p H2, H p = none → Same H H2 → Pool H2 p (53 * n) → Q (.ref p) H2)
    (hk : 1 ≤ k := by decide) (hg : Gl X "_law_pool" := by rfl) (l1 : Pl X a [b] pos := by exact ⟨rfl, rfl⟩) (l2 : starEach [b] X.env = [(false, eval b X.env)] := by rfl) : WE X (.Call (.Name "_law_pool" q) [a, b] [] pos) σ H Q :=
  we_of (pe_call (ok_law_pool T) (hr.mono hk) hg T.g_law_pool T.F_law_pool.kp T.b_law_pool .nil pass0 (pa_cons pe_we (pa_cons pe_we pa_nil l2) l1.he) (by decide) l1.he l1.hpl) (ha.at s fun F2 H2 g2 => (hb.f g2.ff).at g2.fh fun v F3 H3 g3 hv => by
    obtain rfl : v = .int n := hv
    exact ⟨l, ns, n, rfl, (g2.trans g3).same.seq hq, hn, fun p H' hp hs hP => k' p H' ((g2.trans g3).hh.free hp) ((g2.trans g3).hh.trans hs) hP⟩)
theorem x_law_house {p : Addr} {n : Nat} (T : Tx X.K X.mg) (hr : Room k X.A) (hp : VE X a σ F F (.ref p)) (he : DE X b σ F F (.int n)) (hn : n ≤ 24) (hk : 3 ≤ k := by decide) (hg : Gl X "_law_house" := by rfl) (l : Pl X a [b] pos := by exact ⟨rfl, rfl⟩) (l3 : starEach [b] X.env = [(false, eval b X.env)] := by rfl) :
    Px p (0 + 0 + 40000) X (.Call (.Name "_law_house" q) [a, b] [] pos) σ F (fun d => ∃ h, d = houseD h ∧ HouseOf n 130 h) :=
  px_call (ok_law_house T) (hr.mono hk) T.g_law_house T.F_law_house.kp T.b_law_house hp (pxa_cons (px_d he) pxa_nil l3) (by
    rintro ds ⟨d1, r1, rfl, rfl, rfl⟩
    exact ⟨rfl, ⟨n, rfl, hn⟩, fun d hd => hd n rfl⟩) hg (by decide) l
end

/-! part chainx -/
section
variable {X : Cx} {σ : St} {F H : Hp} {a b e : Expr} {pos q : Pos} {k : Nat}
theorem x_law_chain {p : Addr} {n : Nat} (T : Tx X.K X.mg) (hr : Room k X.A) (hp : VE X a σ F F (.ref p)) (he : DE X b σ F F (.int n)) (h1 : 1 ≤ n) (hn : n ≤ 60) (hk : 2 ≤ k := by decide) (hg : Gl X "_law_chain" := by rfl) (l : Pl X a [b] pos := by exact ⟨rfl, rfl⟩) (l3 : starEach [b] X.env = [(false, eval b X.env)] := by rfl) :
    Px p (0 + 0 + 400) X (.Call (.Name "_law_chain" q) [a, b] [] pos) σ F (fun d => ∃ h, d = houseD h ∧ ChainOf n h) :=
  px_call (ok_law_chain T) (hr.mono hk) T.g_law_chain T.F_law_chain.kp T.b_law_chain hp (pxa_cons (px_d he) pxa_nil l3) (by
    rintro ds ⟨d1, r1, rfl, rfl, rfl⟩
    exact ⟨rfl, ⟨n, rfl, h1, hn⟩, fun d hd => hd n rfl⟩) hg (by decide) l
end

/-! part ktcx -/
section
variable {X : Cx} {σ : St} {F H : Hp} {a b e : Expr} {pos q : Pos} {k : Nat}
theorem x_kinds_that_come {h : House} (T : Tx X.K X.mg) (hr : Room k X.A) (he : DE X e σ F H (houseD h)) (sm : Small h) (hk : 6 ≤ k := by decide) (hg : Gl X "kinds_that_come" := by rfl) (l : Pl X e [] pos := by exact ⟨rfl, rfl⟩) :
    NE X (.Call (.Name "kinds_that_come" q) [e] [] pos) σ F H (fun d => ∃ c, d = ksD c ∧ IsCome h c) := fun F1 H1 g Q k =>
  ne_call (ok_kinds_that_come T) (hr.mono hk) T.g_kinds_that_come T.F_kinds_that_come.kp T.b_kinds_that_come (dl_cons he dl_nil l.he) rfl ⟨h, rfl, sm⟩ hg (by decide) l F1 H1 g Q fun d v F2 H2 g2 hd hpo hf => k d v F2 H2 g2 hd (hpo h rfl) hf
end

/-! part rtc -/
section
variable {P : Program} {w : World} {K : PySem.W.Frag} {mg : Str → Option Value} {base : Heap}
theorem ok_rooms_that_come (T : Tx K mg) : FnOk P w K mg base CX0 7 T.f_rooms_that_come T.d_rooms_that_come ["house"] (spR 1 (pre1H Small) (post1H fun h d => ∃ R : List Int, d = .list (R.map .int) ∧ IsOpen h R)) := by
  refine okR T.F_rooms_that_come sc_rooms_that_come fun X cdv A outer s H0 E vs F H ds Q hX hr hs ha hp q => ?_
  obtain ⟨h, rfl, sm⟩ := hp
  obtain ⟨v, rfl, hd⟩ := daAll1 ha
  have q : ∀ v F2 H2 (R : List Int), Gr F H F2 H2 → Da F2 (.list (R.map .int)) v → IsOpen h R → (∀ a, v = .ref a → H a = none) → Q v H2 := fun v F2 H2 R g hd hc hf => q (.list (R.map .int)) v F2 H2 g hd (fun h' e => by
    have : h = h' := houseD_inj (by injection e)
    subst this; exact ⟨R, rfl, hc⟩) hf
  subst hX
  clear ha
  have nd := sc_rooms_that_come.nd
  have hu := hr.units
  have gd := sm.good
  refine ss_cons (ws_set 1 nd (NE.go (F := F) (x_kinds_that_come T hr (de_v 0 hd) sm) hs fun d v1 F1 H1 g1 hv1 hR _ => ?_))
  obtain ⟨c, rfl, hc⟩ := hR
  refine ss_cons (ws_set 2 nd (we_lst (F := F1) dl_nil g1.fh (by decide) fun l vs F2 H2 g2 hvs hl => ?_))
  obtain rfl : vs = [] := hvs
  have hHl : H l = none := (g1.trans g2).hh.free hl
  have hFl : F2 l = none := g2.fh.free hl
  have g2' : Gr F H F2 (upd H2 l (.lst [])) := (g1.trans g2).open' hl
  refine ss_cons (ws_for (F := F2) PassesOwn.never rfl (di_enum T.m_enumerate (de_ixT (d := .list (h.2.map roomD)) (de_v 0 ((g1.trans g2).da hd)) de_int rfl)) g2'.fh fun F7 H7 g8 => ⟨fun i σ' F' H' => ∃ y3 y4 y5 y6 : Option V, σ' = [some v, some v1, some (.ref l), y3, y4, y5, y6] ∧ Same F7 F' ∧ Gr F H F' H' ∧ F' l = none ∧ H' l = some (.lst ((opens c h.2 i).map V.int)), ?_, ?_, ?_, ?_⟩)
  · exact ⟨none, none, none, none, rfl, Same.refl _, g2'.trans g8, g8.f0 hFl upd_same, g8.hh _ _ upd_same⟩
  · rintro i σ' F' H' ⟨_, _, _, _, _, s7, gg, _⟩
    exact ⟨s7, gg.fh⟩
  · rintro i d v8 σ' F' H' F8 H8 hd8 ⟨z3, z4, z5, z6, rfl, s7, gg, fl', hll'⟩ g8' hv8
    obtain ⟨d0, hd0, rfl⟩ := getEnum hd8
    obtain ⟨r, hr, rfl⟩ := getMap hd0
    have gg8 := gg.trans g8'
    have fl8 := g8'.f0 fl' hll'
    have hl8 := g8'.hh _ _ hll'
    have hv18 : Da F8 (ksD c) v1 := hv1.mono (g2.ff.trans (g8.ff.trans (s7.trans g8'.ff)))
    refine wg_tup2 (F := F8) (d1 := .int (i : Nat)) (d2 := roomD r) rfl hv8 gg8.fh fun w0 w12 hw0 hw12 => wg_name 3 nd (wg_tup2 (F := F8) (d1 := ksD r.1) (d2 := ksD r.2) rfl hw12 gg8.fh fun w1 w2 hw1 hw2 => wg_name 4 nd (wg_name 5 nd (ss_one ?_)))
    obtain rfl := (show w0 = .int (i : Nat) from hw0)
    refine ws_ifD (F := F8) (b := r.1.all fun k => decide (k ∈ c)) (dt_c (c_is (c_eqNil hu (de_lcIf (xs := r.1) (Dx := .str) [("kind", 6)] (lcok sc_rooms_that_come (by decide +kernel)) (fun k => !decide (k ∈ c)) (fun k => .str k) (di_list (de_v 4 hw1)).i (roomSz sm hr) fun k hk v F' H' g' hv => ?_)) (filter_none _ _ _))) gg8.fh (fun hb F2 H2 g => ?_) (fun hb F2 H2 g => ?_)
    · exact gb_name 6 nd ⟨rfl, rfl, fun _ _ _ _ _ => dt_c (c_notInS (de_v 6 hv) (de_v 1 (g'.da hv18))), fun _ _ _ _ _ _ => de_v 6 hv⟩
    · refine ss_one (ws_append (F := F2) (ve_v 2) (de_v (d := .int (i : Nat)) 3 rfl) g.fh (g.hh _ _ hl8) (opensSz sm hr) fun v9 F9 H9 g9 hv9 => ?_)
      obtain rfl := (show v9 = .int (i : Nat) from hv9)
      have f9 := (g.trans g9).f0 fl8 hl8
      refine ⟨F9, _, _, _, _, rfl, s7.trans (g8'.ff.trans (g.ff.trans g9.ff)), Gr.mut (gg8.trans (g.trans g9)) hHl f9, f9, ?_⟩
      rw [upd_same, opens_snoc hr, if_pos hb, List.map_append]
      rfl
    · refine ss_nil ⟨F2, _, _, _, _, rfl, s7.trans (g8'.ff.trans g.ff), gg8.trans g, g.f0 fl8 hl8, ?_⟩
      rw [opens_snoc hr, if_neg (by rw [hb]; decide), List.append_nil]
      exact g.hh _ _ hl8
  · rintro σ' F' H' ⟨z3, z4, z5, z6, rfl, s7, gg, fl', hll'⟩
    rw [enumsD_length, List.length_map] at hll'
    refine ss_one (ws_ret (VE.go (F := F') (ve_v (w := .ref l) 2) gg.fh fun F5 H5 g5 => ?_))
    have gt := (gg.trans g5).tell hHl (g5.f0 fl' hll') (g5.hh _ _ hll')
    exact q (.ref l) _ H5 _ gt ⟨l, _, rfl, upd_same, daAll_ints _⟩ (isOpen_of hc) fun a e => by injection e with e; subst e; exact hHl
end
section
variable {X : Cx} {σ : St} {F H : Hp} {a b e : Expr} {pos q : Pos} {k : Nat}
theorem x_rooms_that_come {h : House} (T : Tx X.K X.mg) (hr : Room k X.A) (he : DE X e σ F H (houseD h)) (sm : Small h) (hk : 7 ≤ k := by decide) (hg : Gl X "rooms_that_come" := by rfl) (l : Pl X e [] pos := by exact ⟨rfl, rfl⟩) :
    NE X (.Call (.Name "rooms_that_come" q) [e] [] pos) σ F H (fun d => ∃ R : List Int, d = .list (R.map .int) ∧ IsOpen h R) := fun F1 H1 g Q k =>
  ne_call (ok_rooms_that_come T) (hr.mono hk) T.g_rooms_that_come T.F_rooms_that_come.kp T.b_rooms_that_come (dl_cons he dl_nil l.he) rfl ⟨h, rfl, sm⟩ hg (by decide) l F1 H1 g Q fun d v F2 H2 g2 hd hpo hf => k d v F2 H2 g2 hd (hpo h rfl) hf
end

/-! part right12 -/
section
variable {X : Cx} {σ : St} {F H : Hp} {a b e : Expr} {pos q : Pos} {k : Nat}
theorem e_kinds_that_come {h : House} {c : List Str} (T : Tx X.K X.mg) (hr : Room k X.A) (he : DE X e σ F H (houseD h)) (sm : Small h) (hc : IsCome h c) (hk : 6 ≤ k := by decide) (hg : Gl X "kinds_that_come" := by rfl) (l : Pl X e [] pos := by exact ⟨rfl, rfl⟩) :
    DE X (.Call (.Name "kinds_that_come" q) [e] [] pos) σ F H (ksD c) := NE.de (x_kinds_that_come T hr he sm hk hg l) fun d ⟨c', e, hc'⟩ => by rw [e, hc'.unique hc]
theorem e_rooms_that_come {h : House} {R : List Int} (T : Tx X.K X.mg) (hr : Room k X.A) (he : DE X e σ F H (houseD h)) (sm : Small h) (hR : IsOpen h R) (hk : 7 ≤ k := by decide) (hg : Gl X "rooms_that_come" := by rfl) (l : Pl X e [] pos := by exact ⟨rfl, rfl⟩) :
    DE X (.Call (.Name "rooms_that_come" q) [e] [] pos) σ F H (.list (R.map .int)) := NE.de (x_rooms_that_come T hr he sm hk hg l) fun d ⟨R', e, hR'⟩ => by rw [e, hR'.unique hR]
end
section
variable {P : Program} {w : World} {K : PySem.W.Frag} {mg : Str → Option Value} {base : Heap}
theorem ok_law_right (T : Tx K mg) : FnOk P w K mg base CX0 8 T.f_law_right T.d_law_right ["pool", "house"] (spP 10 1 (pre1H Mid) (fun _ d => d = .bool true)) := by
  refine okP T.F_law_right sc_law_right rfl fun X cdv A outer s H0 E p m us F H ds Q hX hr hP hm hs hp ha hpre q => ?_
  obtain ⟨h, rfl, md⟩ := hpre
  obtain ⟨v, rfl, hd⟩ := daAll1 ha
  have q : ∀ v F2 H2, Gp p F H F2 H2 → Pool H2 p (m + 10) → Da F2 (.bool true) v → Q v H2 := fun v F2 H2 g P2 hd => q (.bool true) v F2 H2 g P2 hd rfl
  subst hX
  clear ha
  have nd := sc_law_right.nd
  have hu := hr.units
  have gd := md.good
  have sm := md.small
  -- come, rooms
  refine ss_cons (ws_set 2 nd (NE.go (F := F) (x_kinds_that_come T hr (de_v 1 hd) sm) hs fun d v2 F1 H1 g1 hv2 hR _ => ?_))
  obtain ⟨c, rfl, hc⟩ := hR
  refine ss_cons (ws_set 3 nd (NE.go (F := F1) (x_rooms_that_come T hr (de_v 1 (g1.da hd)) sm) g1.fh fun d v3 F2 H2 g2 hv3 hR _ => ?_))
  obtain ⟨R, rfl, hR⟩ := hR
  have g12 := g1.trans g2
  have hd2 := g12.da hd
  have hv2 := g2.da hv2
  have ck : ∀ k ∈ c, isKind k = true := fun k hk => come_kind gd ((hc.1 k).mp hk)
  have lc := (lay_ks ck).shaped
  have lR := (lay_ints R).shaped
  -- twice
  refine ss_cons (ws_setD (F := F2) (d := houseD (twice h)) 4 nd (de_tup (dl_cons (de_is (de_rep (de_ixT (d := ksD h.1) (de_v 1 hd2) de_int rfl) de_int (by decide) (by decide) md.bsz) (congrArg PyData.list (rep2 h.1))) (dl_cons (de_is (de_lc (Dx := roomD) (xs := h.2) [("locks", 5), ("keys", 6)] (lcok sc_law_right (by decide +kernel)) (fun r => roomD (kset r.1, r.2 ++ r.2)) (di_list (de_ixT (d := .list (h.2.map roomD)) (de_v 1 hd2) de_int rfl)).i (sz100 gd.many) fun r hr' v F' H' g' hv => ?_) (twice_rooms h)) dl_nil)) (by show 2 ≤ sizeLine; decide)) g12.fh fun v4 F4 H4 g4 hv4 => ?_)
  · refine gb_tup2 (d1 := ksD r.1) (d2 := ksD r.2) rfl hv g'.fh fun v1 v2 h1 h2 => gb_name 5 nd (gb_name 6 nd ⟨rfl, rfl, fun _ _ _ _ _ => de_tup (dl_cons (de_sortedSet T.m_sorted T.m_set rfl (md.locks hr') (de_v 5 h1)) (dl_cons (de_is (de_cat (de_v 6 h2) (de_v 6 h2) (md.keys2 hr')) (by rw [← List.map_append]; rfl)) dl_nil)) (by show 2 ≤ sizeLine; decide)⟩)
  have g14 := g12.trans g4
  have hd4 := g4.da hd2
  have hv24 := g4.da hv2
  have hv34 := g4.da hv3
  refine ss_cons (ws_ifD (F := F4) (b := false) (DT.of_w (dw_or (bb := false) (cc := false) (dt_c (c_is (c_ne hu (e_kinds_that_come T hr (de_v 4 hv4) md.twice hc.twice) (de_v 2 hv24) lc lc) (by rw [eqv_ks]; simp))) fun _ => dw_or1 (dt_c (c_is (c_ne hu (e_rooms_that_come T hr (de_v 4 hv4) md.twice hR.twice) (de_v 3 hv34) lR lR) (by rw [eqv_ints]; rfl))))) g14.fh (fun z => nomatch z) (fun _ F5 H5 g5 => ?_))
  refine ss_nil ?_
  have g15 := g14.trans g5
  have hd5 := g5.da hd4
  have hv25 := g5.da hv24
  have lb : SeqAt.shaped (ksD (kset h.1)) = true := (lay_ks fun k hk => gd.keys k (mem_kset.mp hk)).shaped
  refine ss_cons (ws_ifD (F := F5) (b := false) (DT.of_w (dw_or (bb := false) (cc := false) (dt_c (c_is (c_ne hu (e_kinds_that_come (h := (c, h.2)) T hr (de_tup (dl_cons (de_v 2 hv25) (dl_cons (de_ixT (d := .list (h.2.map roomD)) (de_v 1 hd5) de_int rfl) dl_nil)) (by show 2 ≤ sizeLine; decide)) (md.self hc) hc.self) (de_v 2 hv25) lc lc) (by rw [eqv_ks]; simp))) fun _ => dw_or1 (dt_c (c_is (c_ne hu (e_kinds_that_come (h := (h.1, [])) T hr (de_tup (dl_cons (de_ixT (d := ksD h.1) (de_v 1 hd5) de_int rfl) (dl_cons (de_lst (ds := []) dl_nil (by decide)) dl_nil)) (by show 2 ≤ sizeLine; decide)) md.begin' (isCome_begin h.1)) (de_sortedSet T.m_sorted T.m_set rfl md.b' (de_ixT (d := ksD h.1) (de_v 1 hd5) de_int rfl)) lb lb) (by rw [eqv_ks]; simp))))) g15.fh (fun z => nomatch z) (fun _ F6 H6 g6 => ?_))
  refine ss_nil ?_
  have g16 := g15.trans g6
  have hd6 := g6.da hd5
  have hv26 := g6.da hv25
  have hv36 := g6.da (g5.da hv34)
  -- lies
  refine ss_cons (ws_setD (F := F6) 7 nd (de_listL T.m_list (de_ixT (d := ksD h.1) (de_v 1 hd6) de_int rfl)) g16.fh fun v7 F7 H7 g7 hv7 => ?_)
  have g17 := g16.trans g7
  refine ss_cons (ws_for0 (F := F7) PassesOwn.never rfl (di_list (de_v 3 (g7.da hv36))) g17.fh fun F8 H8 g8 => ⟨fun i σ' F' H' => ∃ (y8 : Option V) (v7 : V), σ' = [some (.ref p), some v, some v2, some v3, some v4, none, none, some v7, y8, none, none, none, none] ∧ Same F8 F' ∧ Gr F H F' H' ∧ Da F' (ksD (h.1 ++ (R.take i).flatMap (keysAt h.2))) v7, ?_, ?_, ?_, ?_⟩)
  · refine ⟨none, v7, rfl, Same.refl _, g17.trans g8, ?_⟩
    show Da F8 (ksD (h.1 ++ [])) v7
    rw [List.append_nil]
    exact g8.da hv7
  · rintro i σ' F' H' ⟨_, _, _, s8, gg, _⟩
    exact ⟨s8, gg.fh⟩
  · rintro i d v8 σ' F' H' hd8 ⟨y8, v7, rfl, s8, gg, hv7'⟩ hv8
    obtain ⟨x, hx, rfl⟩ := getMap hd8
    obtain rfl := (show v8 = .int x from hv8)
    obtain ⟨r, hr', hat, hk⟩ := open_at hR (List.mem_of_getElem? hx)
    refine wg_name 8 nd (ss_one (ws_setD (F := F') 7 nd (de_cat (de_v 7 hv7') (de_ixT (d := ksD r.2) (de_ixL (de_ixT (d := .list (h.2.map roomD)) (de_v 1 (hd6.mono (g7.ff.trans (g8.ff.trans s8)))) de_int rfl) (de_v 8 (d := .int x) rfl) hat) de_int rfl) (liesSz md hc hR i hr')) gg.fh fun v9 F9 H9 g9 hv9 => ?_))
    refine ⟨F9, _, v9, rfl, s8.trans g9.ff, gg.trans g9, ?_⟩
    rw [take_flat hx, hk, ← List.append_assoc]
    rw [← List.map_append] at hv9
    exact hv9
  rintro σ' F9 H9 ⟨y8, v7', rfl, s8, gg, hv7'⟩
  rw [List.length_map, List.take_length, lies_eq hc hR] at hv7'
  have s69 : Same F6 F9 := g7.ff.trans (g8.ff.trans s8)
  have hd9 := hd6.mono s69
  have hv29 := hv26.mono s69
  have hv39 := hv36.mono s69
  clear g17 g16 g15 g14 g12 g8 g7 g6 g5 g4 g2 g1 hv7
  have ll := lies_take md hc hR R.length
  rw [List.take_length, lies_eq hc hR] at ll
  refine ss_cons (ws_ifD (F := F9) (b := false) (dt_c (c_is (c_ne hu (de_is (de_sortedSet T.m_sorted T.m_set rfl (Nat.le_trans ll (by decide)) (de_v 7 hv7')) (by rw [lies_come hc])) (de_v 2 hv29) lc lc) (by rw [eqv_ks]; simp))) gg.fh (fun z => nomatch z) (fun _ F10 H10 g10 => ?_))
  refine ss_nil ?_
  have gg10 := gg.trans g10
  have hd10 := g10.da hd9
  have hv210 := g10.da hv29
  have hv310 := g10.da hv39
  -- lost
  refine ss_cons (ws_setLcIf (F := F10) (xs := List.range h.2.length) (Dx := fun k : Nat => .int (k : Int)) 9 [("room", 8)] (lcok sc_law_right (by decide +kernel)) gg10.fh (fun k => !decide ((k : Int) ∈ R)) (fun k => .int (k : Int)) (by rw [← intsD_nat, show ((h.2.length : Nat) : Int) = ((h.2.map roomD).length : Nat) by rw [List.length_map]]; exact (di_range1 T.m_range (de_lenL T.m_len (de_ixT (d := .list (h.2.map roomD)) (de_v 1 hd10) de_int rfl)) (rangeSz md)).i) (by rw [List.length_range]; exact sz100 gd.many) (fun k hk v F' H' g' hv => gb_name 8 nd ⟨rfl, rfl, fun _ _ _ _ _ => dt_c (c_notInI (de_v 8 hv) (de_v 3 (g'.da hv310))), fun _ _ _ _ _ _ => de_v 8 hv⟩) fun v9 F11 H11 g11 hv9 => ?_)
  have gg11 := gg10.trans g11
  have hd11 := g11.da hd10
  have hv211 := g11.da hv210
  have hv311 := g11.da hv310
  have hv9 : Da F11 (.list ((lostOf h R).map fun k : Nat => PyData.int (k : Int))) v9 := hv9
  clear gg10 g10 g11 gg
  have P11 : Pool H11 p m := hP.mono gg11.hh
  have f11 : F11 p = none := by obtain ⟨o, ho⟩ := hP.some; exact gg11.f0 hp ho
  refine ss_cut (fun σ' H' => ∃ F', Gp p F H F' H' ∧ Pool H' p (m + 10)) (ws_ifD (F := F11) (dt_c (c_is (c_ne hu (de_v 9 hv9) (de_lst dl_nil) (lay_nats _).shaped (by rfl)) (congrArg not (eqv_nil' _)))) gg11.fh (fun hb F12 H12 g12 => ?_) (fun hb F12 H12 g12 => ?_)) ?_
  · have gg12 := gg11.trans g12
    have P12 : Pool H12 p m := P11.mono g12.hh
    have f12 : F12 p = none := by obtain ⟨o, ho⟩ := P11.some; exact g12.f0 f11 ho
    refine ss_cons (ws_set 10 nd (Px.go (F := F12) (px_ixL (c1 := 0) (c2 := 1) (A := fun d => d = .list ((lostOf h R).map fun k : Nat => PyData.int (k : Int))) (R := fun d => ∃ j : Nat, d = .int j ∧ (j : Int) ∉ R ∧ ∃ r, h.2[j]? = some r) (px_d (de_v 9 (g12.da hv9))) (Px.imp (x_take T hr (ve_v 0) (de_lenL T.m_len (de_v 9 (g12.da hv9))) (lostPos hb) (lostLt md)) fun d ⟨i, e, h0, h1⟩ => ⟨i, e, h0, fun d' e' => ⟨_, e', h1, fun d hd => lost_mem hd⟩⟩)) gg12.fh f12 P12 (by omega) fun d v10 F13 H13 g13 P13 hv10 hRj => ?_))
    obtain ⟨j, rfl, hj, r, hrj⟩ := hRj
    obtain rfl := (show v10 = .int j from hv10)
    have hrm := List.mem_of_getElem? hrj
    have G13 := gg12.gp (p := p) |>.trans g13
    have s13 : Same F11 F13 := g12.ff.trans g13.ff
    have hd13 := hd11.mono s13
    have hv213 := hv211.mono s13
    have hv313 := hv311.mono s13
    refine ss_cons (ws_ifD (F := F13) (b := false) (dt_c (c_is (c_ne hu (e_kinds_that_come (h := (h.1, h.2.take j ++ h.2.drop (j + 1))) T hr (de_tup (dl_cons (de_ixT (d := ksD h.1) (de_v 1 hd13) de_int rfl) (dl_cons (de_is (de_cat (de_slLHi (n := j) (de_ixT (d := .list (h.2.map roomD)) (de_v 1 hd13) de_int rfl) (de_v 10 (d := .int j) rfl)) (de_slLLo (n := j + 1) (de_ixT (d := .list (h.2.map roomD)) (de_v 1 hd13) de_int rfl) (de_add (de_v 10 (d := .int j) rfl) de_int)) (without_sz md j)) (by rw [List.map_append, List.map_take, List.map_drop])) dl_nil)) (by show 2 ≤ sizeLine; decide)) (md.without j) (hc.without hR hj)) (de_v 2 hv213) lc lc) (by rw [eqv_ks]; simp))) G13.fh (fun z => nomatch z) (fun _ F14 H14 g14 => ?_))
    refine ss_nil ?_
    have hd14 := g14.da hd13
    -- more
    refine ss_cons (ws_setD (F := F14) (d := houseD (h.1 ++ r.1.take 1, h.2)) 11 nd (de_tup (dl_cons (de_is (de_cat (de_ixT (d := ksD h.1) (de_v 1 hd14) de_int rfl) (de_slLHi (n := 1) (de_ixT (d := ksD r.1) (de_ixL (d := roomD r) (de_ixT (d := .list (h.2.map roomD)) (de_v 1 hd14) de_int rfl) (de_v 10 (d := .int j) rfl) (L2.atI_nat (by rw [List.getElem?_map, hrj]; rfl))) de_int rfl) de_int) (more_sz md r)) (by rw [← List.map_take, ← List.map_append]; rfl)) (dl_cons (de_ixT (d := .list (h.2.map roomD)) (de_v 1 hd14) de_int rfl) dl_nil)) (by show 2 ≤ sizeLine; decide)) g14.fh fun v11 F15 H15 g15 hv11 => ?_)
    have g135 := g14.trans g15
    have hv215 := g135.da hv213
    have hv315 := g135.da hv313
    obtain ⟨c2, hc2⟩ := come_ex (h.1 ++ r.1.take 1, h.2)
    have hR2 := isOpen_of hc2
    refine ss_cons (ws_ifD (F := F15) (b := false) (dt_c (c_is (c_ne (d1 := .list []) hu (de_is (de_lcIf (xs := c) (Dx := .str) [("kind", 12)] (lcok sc_law_right (by decide +kernel)) (fun k => !decide (k ∈ c2)) (fun k => .str k) (di_list (de_v 2 hv215)).i (sz100 (by have := md.come hc; omega)) fun k hk v F' H' g' hv => gb_name 12 nd ⟨rfl, rfl, fun _ _ _ _ _ => dt_c (c_notInS (de_v 12 hv) (e_kinds_that_come T hr (de_v 11 (g'.da hv11)) (md.more hrm) hc2)), fun _ _ _ _ _ _ => de_v 12 hv⟩) (none_out _ fun x hx => by rw [decide_eq_true (come_more hc hc2 x hx)]; rfl)) (de_lst dl_nil) (by rfl) (by rfl)) (by rfl))) g135.fh (fun z => nomatch z) (fun _ F16 H16 g16 => ?_))
    refine ss_nil ?_
    have g136 := g135.trans g16
    refine ss_one (ws_ifD (F := F16) (b := false) (dt_c (c_is (c_ne (d1 := .list []) hu (de_is (de_lcIf (xs := R) (Dx := .int) [("room", 8)] (lcok sc_law_right (by decide +kernel)) (fun k => !decide (k ∈ opens c2 h.2 h.2.length)) (fun k => .int k) (di_list (de_v 3 (g16.da hv315))).i (sz100 (by have := openLen sm hR; omega)) fun k hk v F' H' g' hv => gb_name 8 nd ⟨rfl, rfl, fun _ _ _ _ _ => dt_c (c_notInI (de_v 8 hv) (e_rooms_that_come T hr (de_v 11 (g'.da (g16.da hv11))) (md.more hrm) hR2)), fun _ _ _ _ _ _ => de_v 8 hv⟩) (none_out _ fun x hx => by rw [decide_eq_true (open_more hR hR2 x hx)]; rfl)) (de_lst dl_nil) (by rfl) (by rfl)) (by rfl))) g136.fh (fun z => nomatch z) (fun _ F17 H17 g17 => ?_))
    exact ss_nil ⟨F17, G13.trans (g136.trans g17).gp, P13.mono (g136.trans g17).hh (by omega)⟩
  · exact ss_nil ⟨F12, (gg11.trans g12).gp, P11.mono g12.hh (by omega)⟩
  rintro σ' H12 ⟨F12, G12, P12⟩
  refine ss_one (ws_retD (F := F12) de_bool G12.fh fun v F2 H2 g2 hv => ?_)
  exact q v F2 H2 (G12.trans g2.gp) (P12.mono g2.hh) hv
end

/-! part law12 -/
section
variable {X : Cx} {σ : St} {F H : Hp} {a b e : Expr} {pos q : Pos} {k : Nat}
theorem x_law_right {p : Addr} {h : House} (T : Tx X.K X.mg) (hr : Room k X.A) (hp : VE X a σ F F (.ref p)) (he : DE X b σ F F (houseD h)) (md : Mid h) (hk : 8 ≤ k := by decide) (hg : Gl X "_law_right" := by rfl) (l : Pl X a [b] pos := by exact ⟨rfl, rfl⟩) (l3 : starEach [b] X.env = [(false, eval b X.env)] := by rfl) :
    Px p (0 + 0 + 10) X (.Call (.Name "_law_right" q) [a, b] [] pos) σ F (fun d => d = .bool true) :=
  px_call (ok_law_right T) (hr.mono hk) T.g_law_right T.F_law_right.kp T.b_law_right hp (pxa_cons (px_d he) pxa_nil l3) (by
    rintro ds ⟨d1, r1, rfl, rfl, rfl⟩
    exact ⟨rfl, ⟨h, rfl, md⟩, fun d hd => hd⟩) hg (by decide) l
end
section
variable {P : Program} {w : World} {K : PySem.W.Frag} {mg : Str → Option Value} {base : Heap}
theorem ok_law (T : Tx K mg) : FnOk P w K mg base CX0 9 T.f_law T.d_law ["script"] (spLaw K) := by
  refine okW T.F_law sc_law (fun vs H Q E ⟨a, ns, h, _⟩ => by rw [h]; rfl) fun cdv A outer s H vs Q E hr h => ?_
  obtain ⟨a, ns, rfl, hS, hlen, q⟩ := h
  have nd := sc_law.nd
  have hu := hr.units
  obtain ⟨m, hm, hm12⟩ := upto10 ns.length
  refine ss_cut (fun σ' H' => ∃ y1 y2 y3 : Option V, σ' = [some (.ref a), y1, y2, y3] ∧ Same H H') (ws_forR (n := m) (F := H) PassesOwn.never rfl T.m_range (by rw [← hm]; exact de_max2 T.m_max rfl de_int (de_min2 T.m_min rfl de_int (de_lenQ T.m_len (ve_v 0) hS))) (by omega) (Same.refl _) fun F1 H1 g1 => ⟨fun i σ' H' => ∃ y1 y2 y3 : Option V, σ' = [some (.ref a), y1, y2, y3] ∧ Same H H', ?_, ?_, ?_⟩) ?_
  · exact ⟨none, none, none, rfl, g1.hh⟩
  · rintro k σ' H' hk ⟨y1, y2, y3, rfl, sH⟩
    refine wg_name 1 nd (ss_cons (ws_set 2 nd (x_law_pool (F := H') (n := k) T hr (ve_v 0) (de_v 1 (d := .int k) rfl) (sH.seq hS) (by omega) (Same.refl _) fun p H2 hp s2 P2 => ?_)))
    refine ss_one (ws_forX PassesOwn.never rfl (Px.go (F := H') (px_lst2 (c1 := 40000) (c2 := 400) (A := fun d => ∃ h, d = houseD h ∧ Mid h) (B := fun d => ∃ h, d = houseD h ∧ Mid h) (R := fun d => ∃ h1 h2, d = .list [houseD h1, houseD h2] ∧ Mid h1 ∧ Mid h2) (Px.imp (x_law_house (n := 24) T hr (ve_v 2) de_int (by decide)) fun d ⟨h, e, hh⟩ => ⟨h, e, hh.mid (by decide) (by decide)⟩) (Px.imp (x_law_chain (n := 40) T hr (ve_v 2) de_int (by decide) (by decide)) fun d ⟨h, e, hh⟩ => ⟨h, e, hh.mid (by decide)⟩) (fun d e ⟨h1, e1, s1⟩ ⟨h2, e2, s2⟩ => ⟨h1, h2, by rw [e1, e2], s1, s2⟩)) s2 hp P2 (by omega) fun d v F3 H3 g3 P3 hd hR => ?_))
    obtain ⟨h1, h2, rfl, sm1, sm2⟩ := hR
    have sH3 : Same H F3 := sH.trans g3.ff
    have f3 : F3 p = none := by obtain ⟨o, ho⟩ := P2.some; exact g3.f0 hp ho
    clear hp s2 P2
    refine ⟨F3, _, g3.fh, hd, fun i σ' F' H' => ∃ y3 : Option V, σ' = [some (.ref a), some (.int k), some (.ref p), y3] ∧ Gp p F3 H3 F' H' ∧ F' p = none ∧ Pool H' p (53 * k + 40400 + 10 * i), ?_, ?_, ?_, ?_⟩
    · exact ⟨y3, rfl, .refl g3.fh, f3, P3.mono (Same.refl _)⟩
    · rintro i σ' F' H' ⟨_, _, g, _⟩
      exact ⟨g.ff, g.fh⟩
    · rintro i d v3 σ' F' H' hdi ⟨z3, rfl, g, f', P'⟩ hv3
      have hi : i < 2 := (List.getElem?_eq_some_iff.mp hdi).1
      obtain ⟨h, rfl, md⟩ : ∃ h, d = houseD h ∧ Mid h := by
        have := List.mem_of_getElem? hdi
        rcases List.mem_cons.mp this with rfl | this
        · exact ⟨h1, rfl, sm1⟩
        · rw [List.mem_singleton] at this; subst this; exact ⟨h2, rfl, sm2⟩
      refine wg_name 3 nd (ss_one (ws_if (PxT.go (F := F') (pxt_notTrue (x_law_right T hr (ve_v 2) (de_v 3 hv3) md)) g.fh f' P' (by omega) fun b F4 H4 g4 P4 hb => ?_)))
      subst hb
      refine iteF (ss_nil ⟨F4, _, rfl, g.trans g4, ?_, P4.mono (Same.refl _)⟩)
      obtain ⟨o, ho⟩ := P'.some
      exact g4.f0 f' ho
    · rintro σ' F' H' ⟨z3, rfl, g, _⟩
      exact ⟨_, _, _, rfl, sH3.trans (g.ff.trans g.fh)⟩
  · rintro σ' H' ⟨y1, y2, y3, rfl, sH⟩
    exact ⟨y1, y2, y3, rfl, sH⟩
  rintro σ' H' ⟨y1, y2, y3, rfl, sH⟩
  refine ss_one (ws_retD (F := H') de_bool (Same.refl _) fun v F2 H2 g2 hv => ?_)
  obtain rfl := (show v = .bl true from hv)
  exact q H2
end

end Kr
namespace Kr
open PySem L2
theorem all_mk {l : PySem.W.OpenLaw} {w : World} {K : PySem.W.Frag} {h : Heap} {mg : Str → Option Value} {fa : Addr} (X : K.In h) (G : h.Ns mainGlobals mg) (hfa : mg "law" = some (.ref fa))
    {f_is_kind : Addr} {od0 an0 : Option Addr} {sl0 : Array (Option Value)} {oc0 kV0 dc0 pm0 cd0 ct0 : Value}
    {f_are_keys : Addr} {od1 an1 : Option Addr} {sl1 : Array (Option Value)} {oc1 kV1 dc1 pm1 cd1 ct1 : Value}
    {f_is_room : Addr} {od2 an2 : Option Addr} {sl2 : Array (Option Value)} {oc2 kV2 dc2 pm2 cd2 ct2 : Value}
    {f_is_house : Addr} {od3 an3 : Option Addr} {sl3 : Array (Option Value)} {oc3 kV3 dc3 pm3 cd3 ct3 : Value}
    {f_need_house : Addr} {od4 an4 : Option Addr} {sl4 : Array (Option Value)} {oc4 kV4 dc4 pm4 cd4 ct4 : Value}
    {f_kinds_that_come : Addr} {od5 an5 : Option Addr} {sl5 : Array (Option Value)} {oc5 kV5 dc5 pm5 cd5 ct5 : Value}
    {f_rooms_that_come : Addr} {od6 an6 : Option Addr} {sl6 : Array (Option Value)} {oc6 kV6 dc6 pm6 cd6 ct6 : Value}
    {f_law_pool : Addr} {od7 an7 : Option Addr} {sl7 : Array (Option Value)} {oc7 kV7 dc7 pm7 cd7 ct7 : Value}
    {f_law_take : Addr} {od8 an8 : Option Addr} {sl8 : Array (Option Value)} {oc8 kV8 dc8 pm8 cd8 ct8 : Value}
    {f_law_kinds : Addr} {od9 an9 : Option Addr} {sl9 : Array (Option Value)} {oc9 kV9 dc9 pm9 cd9 ct9 : Value}
    {f_law_some : Addr} {od10 an10 : Option Addr} {sl10 : Array (Option Value)} {oc10 kV10 dc10 pm10 cd10 ct10 : Value}
    {f_law_house : Addr} {od11 an11 : Option Addr} {sl11 : Array (Option Value)} {oc11 kV11 dc11 pm11 cd11 ct11 : Value}
    {f_law_chain : Addr} {od12 an12 : Option Addr} {sl12 : Array (Option Value)} {oc12 kV12 dc12 pm12 cd12 ct12 : Value}
    {f_law_right : Addr} {od13 an13 : Option Addr} {sl13 : Array (Option Value)} {oc13 kV13 dc13 pm13 cd13 ct13 : Value}
    {f_law : Addr} {od14 an14 : Option Addr} {sl14 : Array (Option Value)} {oc14 kV14 dc14 pm14 cd14 ct14 : Value}
    {t_LETTERS : Tok}
    {t_LONGEST_KIND : Tok}
    {t_MOST_LOCKS : Tok}
    (a_is_kind : PySem.W.nsIn K mainGlobals "is_kind" = some (some (.ref f_is_kind)))
    (l_is_kind : K.lookup f_is_kind = some ⟨oc0, od0, .func (PySem.W.fnOf "is_kind" "is_kind" (defArgs s_is_kind) (defBody s_is_kind) (defScope s_is_kind) .none kV0 dc0 pm0 an0 cd0 ct0), sl0⟩)
    (e_is_kind : PySem.W.codeIn K cd0 "is_kind" = true) (k_is_kind : PySem.W.keepIn K (.ref f_is_kind) = true)
    (a_are_keys : PySem.W.nsIn K mainGlobals "are_keys" = some (some (.ref f_are_keys)))
    (l_are_keys : K.lookup f_are_keys = some ⟨oc1, od1, .func (PySem.W.fnOf "are_keys" "are_keys" (defArgs s_are_keys) (defBody s_are_keys) (defScope s_are_keys) .none kV1 dc1 pm1 an1 cd1 ct1), sl1⟩)
    (e_are_keys : PySem.W.codeIn K cd1 "are_keys" = true) (k_are_keys : PySem.W.keepIn K (.ref f_are_keys) = true)
    (a_is_room : PySem.W.nsIn K mainGlobals "is_room" = some (some (.ref f_is_room)))
    (l_is_room : K.lookup f_is_room = some ⟨oc2, od2, .func (PySem.W.fnOf "is_room" "is_room" (defArgs s_is_room) (defBody s_is_room) (defScope s_is_room) .none kV2 dc2 pm2 an2 cd2 ct2), sl2⟩)
    (e_is_room : PySem.W.codeIn K cd2 "is_room" = true) (k_is_room : PySem.W.keepIn K (.ref f_is_room) = true)
    (a_is_house : PySem.W.nsIn K mainGlobals "is_house" = some (some (.ref f_is_house)))
    (l_is_house : K.lookup f_is_house = some ⟨oc3, od3, .func (PySem.W.fnOf "is_house" "is_house" (defArgs s_is_house) (defBody s_is_house) (defScope s_is_house) .none kV3 dc3 pm3 an3 cd3 ct3), sl3⟩)
    (e_is_house : PySem.W.codeIn K cd3 "is_house" = true) (k_is_house : PySem.W.keepIn K (.ref f_is_house) = true)
    (a_need_house : PySem.W.nsIn K mainGlobals "need_house" = some (some (.ref f_need_house)))
    (l_need_house : K.lookup f_need_house = some ⟨oc4, od4, .func (PySem.W.fnOf "need_house" "need_house" (defArgs s_need_house) (defBody s_need_house) (defScope s_need_house) .none kV4 dc4 pm4 an4 cd4 ct4), sl4⟩)
    (e_need_house : PySem.W.codeIn K cd4 "need_house" = true) (k_need_house : PySem.W.keepIn K (.ref f_need_house) = true)
    (a_kinds_that_come : PySem.W.nsIn K mainGlobals "kinds_that_come" = some (some (.ref f_kinds_that_come)))
    (l_kinds_that_come : K.lookup f_kinds_that_come = some ⟨oc5, od5, .func (PySem.W.fnOf "kinds_that_come" "kinds_that_come" (defArgs s_kinds_that_come) (defBody s_kinds_that_come) (defScope s_kinds_that_come) .none kV5 dc5 pm5 an5 cd5 ct5), sl5⟩)
    (e_kinds_that_come : PySem.W.codeIn K cd5 "kinds_that_come" = true) (k_kinds_that_come : PySem.W.keepIn K (.ref f_kinds_that_come) = true)
    (a_rooms_that_come : PySem.W.nsIn K mainGlobals "rooms_that_come" = some (some (.ref f_rooms_that_come)))
    (l_rooms_that_come : K.lookup f_rooms_that_come = some ⟨oc6, od6, .func (PySem.W.fnOf "rooms_that_come" "rooms_that_come" (defArgs s_rooms_that_come) (defBody s_rooms_that_come) (defScope s_rooms_that_come) .none kV6 dc6 pm6 an6 cd6 ct6), sl6⟩)
    (e_rooms_that_come : PySem.W.codeIn K cd6 "rooms_that_come" = true) (k_rooms_that_come : PySem.W.keepIn K (.ref f_rooms_that_come) = true)
    (a_law_pool : PySem.W.nsIn K mainGlobals "_law_pool" = some (some (.ref f_law_pool)))
    (l_law_pool : K.lookup f_law_pool = some ⟨oc7, od7, .func (PySem.W.fnOf "_law_pool" "_law_pool" (defArgs s_law_pool) (defBody s_law_pool) (defScope s_law_pool) .none kV7 dc7 pm7 an7 cd7 ct7), sl7⟩)
    (e_law_pool : PySem.W.codeIn K cd7 "_law_pool" = true) (k_law_pool : PySem.W.keepIn K (.ref f_law_pool) = true)
    (a_law_take : PySem.W.nsIn K mainGlobals "_law_take" = some (some (.ref f_law_take)))
    (l_law_take : K.lookup f_law_take = some ⟨oc8, od8, .func (PySem.W.fnOf "_law_take" "_law_take" (defArgs s_law_take) (defBody s_law_take) (defScope s_law_take) .none kV8 dc8 pm8 an8 cd8 ct8), sl8⟩)
    (e_law_take : PySem.W.codeIn K cd8 "_law_take" = true) (k_law_take : PySem.W.keepIn K (.ref f_law_take) = true)
    (a_law_kinds : PySem.W.nsIn K mainGlobals "_law_kinds" = some (some (.ref f_law_kinds)))
    (l_law_kinds : K.lookup f_law_kinds = some ⟨oc9, od9, .func (PySem.W.fnOf "_law_kinds" "_law_kinds" (defArgs s_law_kinds) (defBody s_law_kinds) (defScope s_law_kinds) .none kV9 dc9 pm9 an9 cd9 ct9), sl9⟩)
    (e_law_kinds : PySem.W.codeIn K cd9 "_law_kinds" = true) (k_law_kinds : PySem.W.keepIn K (.ref f_law_kinds) = true)
    (a_law_some : PySem.W.nsIn K mainGlobals "_law_some" = some (some (.ref f_law_some)))
    (l_law_some : K.lookup f_law_some = some ⟨oc10, od10, .func (PySem.W.fnOf "_law_some" "_law_some" (defArgs s_law_some) (defBody s_law_some) (defScope s_law_some) .none kV10 dc10 pm10 an10 cd10 ct10), sl10⟩)
    (e_law_some : PySem.W.codeIn K cd10 "_law_some" = true) (k_law_some : PySem.W.keepIn K (.ref f_law_some) = true)
    (a_law_house : PySem.W.nsIn K mainGlobals "_law_house" = some (some (.ref f_law_house)))
    (l_law_house : K.lookup f_law_house = some ⟨oc11, od11, .func (PySem.W.fnOf "_law_house" "_law_house" (defArgs s_law_house) (defBody s_law_house) (defScope s_law_house) .none kV11 dc11 pm11 an11 cd11 ct11), sl11⟩)
    (e_law_house : PySem.W.codeIn K cd11 "_law_house" = true) (k_law_house : PySem.W.keepIn K (.ref f_law_house) = true)
    (a_law_chain : PySem.W.nsIn K mainGlobals "_law_chain" = some (some (.ref f_law_chain)))
    (l_law_chain : K.lookup f_law_chain = some ⟨oc12, od12, .func (PySem.W.fnOf "_law_chain" "_law_chain" (defArgs s_law_chain) (defBody s_law_chain) (defScope s_law_chain) .none kV12 dc12 pm12 an12 cd12 ct12), sl12⟩)
    (e_law_chain : PySem.W.codeIn K cd12 "_law_chain" = true) (k_law_chain : PySem.W.keepIn K (.ref f_law_chain) = true)
    (a_law_right : PySem.W.nsIn K mainGlobals "_law_right" = some (some (.ref f_law_right)))
    (l_law_right : K.lookup f_law_right = some ⟨oc13, od13, .func (PySem.W.fnOf "_law_right" "_law_right" (defArgs s_law_right) (defBody s_law_right) (defScope s_law_right) .none kV13 dc13 pm13 an13 cd13 ct13), sl13⟩)
    (e_law_right : PySem.W.codeIn K cd13 "_law_right" = true) (k_law_right : PySem.W.keepIn K (.ref f_law_right) = true)
    (a_law : PySem.W.nsIn K mainGlobals "law" = some (some (.ref f_law)))
    (l_law : K.lookup f_law = some ⟨oc14, od14, .func (PySem.W.fnOf "law" "law" (defArgs s_law) (defBody s_law) (defScope s_law) .none kV14 dc14 pm14 an14 cd14 ct14), sl14⟩)
    (e_law : PySem.W.codeIn K cd14 "law" = true) (k_law : PySem.W.keepIn K (.ref f_law) = true)
    (z_isinstance : PySem.W.nsIn K mainGlobals "isinstance" = some none)
    (z_str : PySem.W.nsIn K mainGlobals "str" = some none)
    (z_len : PySem.W.nsIn K mainGlobals "len" = some none)
    (z_list : PySem.W.nsIn K mainGlobals "list" = some none)
    (z_tuple : PySem.W.nsIn K mainGlobals "tuple" = some none)
    (z_sorted : PySem.W.nsIn K mainGlobals "sorted" = some none)
    (z_set : PySem.W.nsIn K mainGlobals "set" = some none)
    (z_enumerate : PySem.W.nsIn K mainGlobals "enumerate" = some none)
    (z_range : PySem.W.nsIn K mainGlobals "range" = some none)
    (z_sum : PySem.W.nsIn K mainGlobals "sum" = some none)
    (z_min : PySem.W.nsIn K mainGlobals "min" = some none)
    (z_int : PySem.W.nsIn K mainGlobals "int" = some none)
    (z_max : PySem.W.nsIn K mainGlobals "max" = some none)
    (n_LETTERS : PySem.W.nsIn K mainGlobals "LETTERS" = some (some (.str "abcdefghijklmnopqrstuvwxyz" t_LETTERS)))
    (n_LONGEST_KIND : PySem.W.nsIn K mainGlobals "LONGEST_KIND" = some (some (.int 4 t_LONGEST_KIND)))
    (n_MOST_LOCKS : PySem.W.nsIn K mainGlobals "MOST_LOCKS" = some (some (.int 4 t_MOST_LOCKS)))
    : ∃ fd : FuncData, (∀ (s : Shared) (v : Value), BindsTo s fd ⟨[v], []⟩ [("script", v)]) ∧ ∀ base : Heap, K.In base → base.Ns mainGlobals mg → FnOk l.prog w K mg base CX0 9 fa fd ["script"] (spLaw K) := by
  have e := hfa.symm.trans (PySem.W.mg_of X G a_law)
  cases e
  have F_is_kind := fun_mk (st := s_is_kind) l_is_kind e_is_kind k_is_kind
  have b_is_kind := F_is_kind.binds (ps := ["thing"]) fun _ _ _ _ _ _ us hl => match us, hl with | [_], _ => rfl
  have F_are_keys := fun_mk (st := s_are_keys) l_are_keys e_are_keys k_are_keys
  have b_are_keys := F_are_keys.binds (ps := ["thing"]) fun _ _ _ _ _ _ us hl => match us, hl with | [_], _ => rfl
  have F_is_room := fun_mk (st := s_is_room) l_is_room e_is_room k_is_room
  have b_is_room := F_is_room.binds (ps := ["thing"]) fun _ _ _ _ _ _ us hl => match us, hl with | [_], _ => rfl
  have F_is_house := fun_mk (st := s_is_house) l_is_house e_is_house k_is_house
  have b_is_house := F_is_house.binds (ps := ["thing"]) fun _ _ _ _ _ _ us hl => match us, hl with | [_], _ => rfl
  have F_need_house := fun_mk (st := s_need_house) l_need_house e_need_house k_need_house
  have b_need_house := F_need_house.binds (ps := ["thing"]) fun _ _ _ _ _ _ us hl => match us, hl with | [_], _ => rfl
  have F_kinds_that_come := fun_mk (st := s_kinds_that_come) l_kinds_that_come e_kinds_that_come k_kinds_that_come
  have b_kinds_that_come := F_kinds_that_come.binds (ps := ["house"]) fun _ _ _ _ _ _ us hl => match us, hl with | [_], _ => rfl
  have F_rooms_that_come := fun_mk (st := s_rooms_that_come) l_rooms_that_come e_rooms_that_come k_rooms_that_come
  have b_rooms_that_come := F_rooms_that_come.binds (ps := ["house"]) fun _ _ _ _ _ _ us hl => match us, hl with | [_], _ => rfl
  have F_law_pool := fun_mk (st := s_law_pool) l_law_pool e_law_pool k_law_pool
  have b_law_pool := F_law_pool.binds (ps := ["script", "k"]) fun _ _ _ _ _ _ us hl => match us, hl with | [_, _], _ => rfl
  have F_law_take := fun_mk (st := s_law_take) l_law_take e_law_take k_law_take
  have b_law_take := F_law_take.binds (ps := ["pool", "many"]) fun _ _ _ _ _ _ us hl => match us, hl with | [_, _], _ => rfl
  have F_law_kinds := fun_mk (st := s_law_kinds) l_law_kinds e_law_kinds k_law_kinds
  have b_law_kinds := F_law_kinds.binds (ps := ["pool", "many"]) fun _ _ _ _ _ _ us hl => match us, hl with | [_, _], _ => rfl
  have F_law_some := fun_mk (st := s_law_some) l_law_some e_law_some k_law_some
  have b_law_some := F_law_some.binds (ps := ["pool", "kinds", "many"]) fun _ _ _ _ _ _ us hl => match us, hl with | [_, _, _], _ => rfl
  have F_law_house := fun_mk (st := s_law_house) l_law_house e_law_house k_law_house
  have b_law_house := F_law_house.binds (ps := ["pool", "most"]) fun _ _ _ _ _ _ us hl => match us, hl with | [_, _], _ => rfl
  have F_law_chain := fun_mk (st := s_law_chain) l_law_chain e_law_chain k_law_chain
  have b_law_chain := F_law_chain.binds (ps := ["pool", "most"]) fun _ _ _ _ _ _ us hl => match us, hl with | [_, _], _ => rfl
  have F_law_right := fun_mk (st := s_law_right) l_law_right e_law_right k_law_right
  have b_law_right := F_law_right.binds (ps := ["pool", "house"]) fun _ _ _ _ _ _ us hl => match us, hl with | [_, _], _ => rfl
  have F_law := fun_mk (st := s_law) l_law e_law k_law
  have b_law := F_law.binds (ps := ["script"]) fun _ _ _ _ _ _ us hl => match us, hl with | [_], _ => rfl
  let T : Tx K mg := {
    f_is_kind := _, d_is_kind := _, F_is_kind := F_is_kind, b_is_kind := b_is_kind, g_is_kind := PySem.W.mg_of X G a_is_kind,
    f_are_keys := _, d_are_keys := _, F_are_keys := F_are_keys, b_are_keys := b_are_keys, g_are_keys := PySem.W.mg_of X G a_are_keys,
    f_is_room := _, d_is_room := _, F_is_room := F_is_room, b_is_room := b_is_room, g_is_room := PySem.W.mg_of X G a_is_room,
    f_is_house := _, d_is_house := _, F_is_house := F_is_house, b_is_house := b_is_house, g_is_house := PySem.W.mg_of X G a_is_house,
    f_need_house := _, d_need_house := _, F_need_house := F_need_house, b_need_house := b_need_house, g_need_house := PySem.W.mg_of X G a_need_house,
    f_kinds_that_come := _, d_kinds_that_come := _, F_kinds_that_come := F_kinds_that_come, b_kinds_that_come := b_kinds_that_come, g_kinds_that_come := PySem.W.mg_of X G a_kinds_that_come,
    f_rooms_that_come := _, d_rooms_that_come := _, F_rooms_that_come := F_rooms_that_come, b_rooms_that_come := b_rooms_that_come, g_rooms_that_come := PySem.W.mg_of X G a_rooms_that_come,
    f_law_pool := _, d_law_pool := _, F_law_pool := F_law_pool, b_law_pool := b_law_pool, g_law_pool := PySem.W.mg_of X G a_law_pool,
    f_law_take := _, d_law_take := _, F_law_take := F_law_take, b_law_take := b_law_take, g_law_take := PySem.W.mg_of X G a_law_take,
    f_law_kinds := _, d_law_kinds := _, F_law_kinds := F_law_kinds, b_law_kinds := b_law_kinds, g_law_kinds := PySem.W.mg_of X G a_law_kinds,
    f_law_some := _, d_law_some := _, F_law_some := F_law_some, b_law_some := b_law_some, g_law_some := PySem.W.mg_of X G a_law_some,
    f_law_house := _, d_law_house := _, F_law_house := F_law_house, b_law_house := b_law_house, g_law_house := PySem.W.mg_of X G a_law_house,
    f_law_chain := _, d_law_chain := _, F_law_chain := F_law_chain, b_law_chain := b_law_chain, g_law_chain := PySem.W.mg_of X G a_law_chain,
    f_law_right := _, d_law_right := _, F_law_right := F_law_right, b_law_right := b_law_right, g_law_right := PySem.W.mg_of X G a_law_right,
    f_law := _, d_law := _, F_law := F_law, b_law := b_law, g_law := PySem.W.mg_of X G a_law,
    m_isinstance := PySem.W.mg_none_of X G z_isinstance,
    m_str := PySem.W.mg_none_of X G z_str,
    m_len := PySem.W.mg_none_of X G z_len,
    m_list := PySem.W.mg_none_of X G z_list,
    m_tuple := PySem.W.mg_none_of X G z_tuple,
    m_sorted := PySem.W.mg_none_of X G z_sorted,
    m_set := PySem.W.mg_none_of X G z_set,
    m_enumerate := PySem.W.mg_none_of X G z_enumerate,
    m_range := PySem.W.mg_none_of X G z_range,
    m_sum := PySem.W.mg_none_of X G z_sum,
    m_min := PySem.W.mg_none_of X G z_min,
    m_int := PySem.W.mg_none_of X G z_int,
    m_max := PySem.W.mg_none_of X G z_max,
    c_LETTERS := ⟨_, PySem.W.mg_of X G n_LETTERS, ⟨_, rfl⟩⟩,
    c_LONGEST_KIND := ⟨_, PySem.W.mg_of X G n_LONGEST_KIND, ⟨_, rfl⟩⟩,
    c_MOST_LOCKS := ⟨_, PySem.W.mg_of X G n_MOST_LOCKS, ⟨_, rfl⟩⟩ }
  exact ⟨_, fun s v => .of_eq rfl, fun base _ _ => ok_law T⟩
end Kr
open PySem PySem.W PyProof.Rows
set_option maxHeartbeats 0 in
theorem PySem.Challenge.cw_keyrooms_k12_whole_what_comes_holds : PySem.Challenge.rw_keyrooms_k12_whole_what_comes.Holds := by
  w_on; o_law; k_head; (case hw => w_witness2)
  k_fill
  refine L2.walk_of (l := PySem.Challenge.rw_keyrooms_k12_whole_what_comes) (n := 63) (k := 9) (x := "script") (CX := fun _ => L2.CX0) (sp := fun w => Kr.spLaw _) rfl (by decide) rfl ⟨rfl, by decide, by decide⟩ (fun w h Y => PySem.W.kIn_of Y) ?F (fun _ _ a ns hl _ hS => ⟨a, ns, rfl, hS, hl, fun _ => rfl⟩) (fun _ _ _ _ _ h => h)
  case F =>
    intro w mg fa h KX G hmg
    refine' Kr.all_mk KX G hmg ?a_is_kind ?l_is_kind ?e_is_kind ?k_is_kind ?a_are_keys ?l_are_keys ?e_are_keys ?k_are_keys ?a_is_room ?l_is_room ?e_is_room ?k_is_room ?a_is_house ?l_is_house ?e_is_house ?k_is_house ?a_need_house ?l_need_house ?e_need_house ?k_need_house ?a_kinds_that_come ?l_kinds_that_come ?e_kinds_that_come ?k_kinds_that_come ?a_rooms_that_come ?l_rooms_that_come ?e_rooms_that_come ?k_rooms_that_come ?a_law_pool ?l_law_pool ?e_law_pool ?k_law_pool ?a_law_take ?l_law_take ?e_law_take ?k_law_take ?a_law_kinds ?l_law_kinds ?e_law_kinds ?k_law_kinds ?a_law_some ?l_law_some ?e_law_some ?k_law_some ?a_law_house ?l_law_house ?e_law_house ?k_law_house ?a_law_chain ?l_law_chain ?e_law_chain ?k_law_chain ?a_law_right ?l_law_right ?e_law_right ?k_law_right ?a_law ?l_law ?e_law ?k_law ?z_isinstance ?z_str ?z_len ?z_list ?z_tuple ?z_sorted ?z_set ?z_enumerate ?z_range ?z_sum ?z_min ?z_int ?z_max ?n_LETTERS ?n_LONGEST_KIND ?n_MOST_LOCKS
    case a_is_kind => k_is
    case l_is_kind => k_is
    case e_is_kind => k_is
    case k_is_kind => k_is
    case a_are_keys => k_is
    case l_are_keys => k_is
    case e_are_keys => k_is
    case k_are_keys => k_is
    case a_is_room => k_is
    case l_is_room => k_is
    case e_is_room => k_is
    case k_is_room => k_is
    case a_is_house => k_is
    case l_is_house => k_is
    case e_is_house => k_is
    case k_is_house => k_is
    case a_need_house => k_is
    case l_need_house => k_is
    case e_need_house => k_is
    case k_need_house => k_is
    case a_kinds_that_come => k_is
    case l_kinds_that_come => k_is
    case e_kinds_that_come => k_is
    case k_kinds_that_come => k_is
    case a_rooms_that_come => k_is
    case l_rooms_that_come => k_is
    case e_rooms_that_come => k_is
    case k_rooms_that_come => k_is
    case a_law_pool => k_is
    case l_law_pool => k_is
    case e_law_pool => k_is
    case k_law_pool => k_is
    case a_law_take => k_is
    case l_law_take => k_is
    case e_law_take => k_is
    case k_law_take => k_is
    case a_law_kinds => k_is
    case l_law_kinds => k_is
    case e_law_kinds => k_is
    case k_law_kinds => k_is
    case a_law_some => k_is
    case l_law_some => k_is
    case e_law_some => k_is
    case k_law_some => k_is
    case a_law_house => k_is
    case l_law_house => k_is
    case e_law_house => k_is
    case k_law_house => k_is
    case a_law_chain => k_is
    case l_law_chain => k_is
    case e_law_chain => k_is
    case k_law_chain => k_is
    case a_law_right => k_is
    case l_law_right => k_is
    case e_law_right => k_is
    case k_law_right => k_is
    case a_law => k_is
    case l_law => k_is
    case e_law => k_is
    case k_law => k_is
    case z_isinstance => k_is
    case z_str => k_is
    case z_len => k_is
    case z_list => k_is
    case z_tuple => k_is
    case z_sorted => k_is
    case z_set => k_is
    case z_enumerate => k_is
    case z_range => k_is
    case z_sum => k_is
    case z_min => k_is
    case z_int => k_is
    case z_max => k_is
    case n_LETTERS => k_is
    case n_LONGEST_KIND => k_is
    case n_MOST_LOCKS => k_is
