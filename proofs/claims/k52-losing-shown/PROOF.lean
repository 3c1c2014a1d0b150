import PyProof.Rows.All
import Wide.All
import OpenK.AllK
import Wide.FinOn
import HandS.ForMost
import HandS.Flow
import HandS.Star
import HandS.IsInst
import HandS.Defaults
import HandS.MakeKwOnly
import HandS.NoneIn
import HandS.Zip
import HandS.Strs
import HandS.OwnEq
import HandS.StrMore
import HandS.Conv
import HandS.HeadEnd
import HandS.HeadHook1
import HandS.HeadHook2
import HandS.HeadHook3
import HandS.Head2
import KE.KDictKeyed
import KE.KDictDisplayH
import PySem.Challenge.RW_copymarks_k52_whole_losing_shown
import KE.GoesMore
import KE.GoesEnum
import HandS.Walk
import HandS.HeadHook4
import HandS.Style
import HandS.SlotsOwn
set_option Elab.async false
set_option linter.all false
set_option maxRecDepth 100000
set_option maxHeartbeats 4000000
/-! CM1: data, what stands for it in the heap, expressions that give data. -/
namespace CM
open PySem L2
open PyProof.Rows (envOfC)

def top (i : Nat) : Stmt := PySem.Challenge.pw_copymarks_k52_whole_losing_shown.main.body.getD i (.Pass ⟨0, 0, 0, 0⟩)

/-- data that never changes while it is told of; rul: an object Rules with its six words; adr: an object by its place; ob: any thing by what is true of it while all objects stay -/
inductive D where
  | non | bl (b : Bool) | int (i : Int) | str (x : Str) | tup (ds : List D) | lst (ds : List D) | rul (ws : List Str) | adr (a : Addr) | ob (φ : Hp → V → Prop)

mutual
def At (K : PySem.W.Frag) (H : Hp) : D → V → Prop
  | .non, v => v = .non
  | .bl b, v => v = .bl b
  | .int i, v => v = .int i
  | .str x, v => v = .str x
  | .tup ds, v => ∃ a xs, v = .ref a ∧ SqT K H a xs ∧ AtL K H ds xs
  | .lst ds, v => ∃ a xs, v = .ref a ∧ SqL K H a xs ∧ AtL K H ds xs
  | .rul ws, v => ∃ a dx t, v = .ref a ∧ H a = some (.ins (He.ga K "Rules") dx [("row", .ref t)]) ∧ SqT K H t (ws.map V.str)
  | .adr a, v => v = .ref a
  | .ob φ, v => (∃ a, v = .ref a) ∧ ∀ H', Same H H' → φ H' v
def AtL (K : PySem.W.Frag) (H : Hp) : List D → List V → Prop
  | [], xs => xs = []
  | d :: ds, xs => ∃ x r, xs = x :: r ∧ At K H d x ∧ AtL K H ds r
end

theorem sqT_same {K : PySem.W.Frag} {H H' : Hp} {a : Addr} {xs : List V} (e : Same H H') (h : SqT K H a xs) : SqT K H' a xs :=
  h.imp_left (Or.imp (e _ _) (Exists.imp fun _ => e _ _))
section
variable {K : PySem.W.Frag} {H H' : Hp}
mutual
theorem At.same (e : Same H H') : ∀ {d : D} {v : V}, At K H d v → At K H' d v
  | .non, _, h => by simpa only [At] using h
  | .bl _, _, h => by simpa only [At] using h
  | .int _, _, h => by simpa only [At] using h
  | .str _, _, h => by simpa only [At] using h
  | .tup ds, _, h => by
    simp only [At] at h ⊢
    obtain ⟨a, xs, h1, h2, h3⟩ := h
    exact ⟨a, xs, h1, sqT_same e h2, AtL.same e h3⟩
  | .lst ds, _, h => by
    simp only [At] at h ⊢
    obtain ⟨a, xs, h1, h2, h3⟩ := h
    exact ⟨a, xs, h1, e.seq h2, AtL.same e h3⟩
  | .rul ws, _, h => by
    simp only [At] at h ⊢
    obtain ⟨a, dx, t, h1, h2, h3⟩ := h
    exact ⟨a, dx, t, h1, e _ _ h2, sqT_same e h3⟩
  | .adr _, _, h => by simpa only [At] using h
  | .ob φ, _, h => by
    simp only [At] at h ⊢
    exact ⟨h.1, fun H2 e2 => h.2 H2 (e.trans e2)⟩
theorem AtL.same (e : Same H H') : ∀ {ds : List D} {vs : List V}, AtL K H ds vs → AtL K H' ds vs
  | [], _, h => by simpa only [AtL] using h
  | d :: ds, _, h => by
    simp only [AtL] at h ⊢
    obtain ⟨x, r, h1, h2, h3⟩ := h
    exact ⟨x, r, h1, At.same e h2, AtL.same e h3⟩
end
theorem AtL.nil : AtL K H [] [] := by simp only [AtL]
theorem AtL.cons {d : D} {v : V} {ds : List D} {vs : List V} (h : At K H d v) (t : AtL K H ds vs) : AtL K H (d :: ds) (v :: vs) := by
  simp only [AtL]
  exact ⟨v, vs, rfl, h, t⟩
theorem AtL.length : ∀ {ds : List D} {vs : List V}, AtL K H ds vs → vs.length = ds.length
  | [], _, h => by simp only [AtL] at h; subst h; rfl
  | d :: ds, _, h => by
    simp only [AtL] at h
    obtain ⟨x, r, rfl, _, h3⟩ := h
    simp [AtL.length h3]
theorem AtL.get : ∀ {ds : List D} {vs : List V} {i : Nat} {d : D}, AtL K H ds vs → ds[i]? = some d → ∃ v, vs[i]? = some v ∧ At K H d v
  | [], _, i, d, h, e => by simp at e
  | d :: ds, _, 0, d', h, e => by
    simp only [AtL] at h
    obtain ⟨x, r, rfl, h2, h3⟩ := h
    simp at e; subst e
    exact ⟨x, rfl, h2⟩
  | d :: ds, _, i + 1, d', h, e => by
    simp only [AtL] at h
    obtain ⟨x, r, rfl, h2, h3⟩ := h
    obtain ⟨v, h4, h5⟩ := AtL.get h3 (i := i) (d := d') (by simpa using e)
    exact ⟨v, by simpa using h4, h5⟩
theorem AtL.get' {ds : List D} {vs : List V} {i : Nat} {v : V} (h : AtL K H ds vs) (e : vs[i]? = some v) : ∃ d, ds[i]? = some d ∧ At K H d v := by
  have hi : i < ds.length := by rw [← h.length]; exact (List.getElem?_eq_some_iff.mp e).1
  obtain ⟨v', h1, h2⟩ := h.get (List.getElem?_eq_getElem hi)
  rw [e] at h1; cases h1
  exact ⟨_, List.getElem?_eq_getElem hi, h2⟩
theorem AtL.append : ∀ {ds es : List D} {vs us : List V}, AtL K H ds vs → AtL K H es us → AtL K H (ds ++ es) (vs ++ us)
  | [], _, _, _, h, t => by simp only [AtL] at h; subst h; exact t
  | d :: ds, _, _, _, h, t => by
    simp only [AtL] at h
    obtain ⟨x, r, rfl, h2, h3⟩ := h
    exact AtL.cons h2 (AtL.append h3 t)
theorem AtL.take : ∀ {ds : List D} {vs : List V} (n : Nat), AtL K H ds vs → AtL K H (ds.take n) (vs.take n)
  | _, _, 0, _ => AtL.nil
  | [], _, n + 1, h => by simp only [AtL] at h; subst h; exact AtL.nil
  | d :: ds, _, n + 1, h => by
    simp only [AtL] at h
    obtain ⟨x, r, rfl, h2, h3⟩ := h
    exact AtL.cons h2 (AtL.take n h3)
theorem AtL.drop : ∀ {ds : List D} {vs : List V} (n : Nat), AtL K H ds vs → AtL K H (ds.drop n) (vs.drop n)
  | _, _, 0, h => h
  | [], _, n + 1, h => by simp only [AtL] at h; subst h; exact AtL.nil
  | d :: ds, _, n + 1, h => by
    simp only [AtL] at h
    obtain ⟨x, r, rfl, h2, h3⟩ := h
    exact AtL.drop n h3
theorem AtL.reverse : ∀ {ds : List D} {vs : List V}, AtL K H ds vs → AtL K H ds.reverse vs.reverse
  | [], _, h => by simp only [AtL] at h; subst h; exact AtL.nil
  | d :: ds, _, h => by
    simp only [AtL] at h
    obtain ⟨x, r, rfl, h2, h3⟩ := h
    rw [List.reverse_cons, List.reverse_cons]
    exact AtL.append (AtL.reverse h3) (AtL.cons h2 AtL.nil)
theorem AtL.strs : ∀ {ws : List Str}, AtL K H (ws.map D.str) (ws.map V.str)
  | [] => AtL.nil
  | w :: ws => AtL.cons (by simp only [At]) AtL.strs

theorem at_tup {ds : List D} {a : Addr} {xs : List V} (h : SqT K H a xs) (t : AtL K H ds xs) : At K H (.tup ds) (.ref a) := by
  simp only [At]; exact ⟨a, xs, rfl, h, t⟩
theorem at_lst {ds : List D} {a : Addr} {xs : List V} (h : SqL K H a xs) (t : AtL K H ds xs) : At K H (.lst ds) (.ref a) := by
  simp only [At]; exact ⟨a, xs, rfl, h, t⟩
theorem at_new {ds : List D} {p : Addr} {xs : List V} (n : H p = none) (t : AtL K H ds xs) : Same H (upd H p (.tup xs)) ∧ At K (upd H p (.tup xs)) (.tup ds) (.ref p) := by
  have e : Same H (upd H p (.tup xs)) := fun b o h => by rw [upd_ne (ne_of_none h n)]; exact h
  exact ⟨e, at_tup (SqT.of upd_same) (t.same e)⟩
theorem at_newL {ds : List D} {p : Addr} {xs : List V} (n : H p = none) (t : AtL K H ds xs) : Same H (upd H p (.lst xs)) ∧ At K (upd H p (.lst xs)) (.lst ds) (.ref p) := by
  have e : Same H (upd H p (.lst xs)) := fun b o h => by rw [upd_ne (ne_of_none h n)]; exact h
  exact ⟨e, at_lst (SqL.of upd_same) (t.same e)⟩
end
theorem same_new {H : Hp} {p : Addr} {o : HO} (n : H p = none) : Same H (upd H p o) := fun b u h => by rw [upd_ne (ne_of_none h n)]; exact h

/-! ### flat data -/
def fl : D → Bool
  | .non => true | .bl _ => true | .int _ => true | .str _ => true | _ => false
def vD : D → V
  | .non => .non | .bl b => .bl b | .int i => .int i | .str x => .str x | _ => .non
section
variable {K : PySem.W.Frag} {H H' : Hp}
theorem at_fl {d : D} {v : V} (h : At K H d v) (f : fl d = true) : v = vD d := by
  cases d <;> first | (simp only [At] at h; exact h) | cases f
theorem at_vD {d : D} (f : fl d = true) : At K H d (vD d) := by
  cases d <;> first | (cases f; done) | (simp only [At, vD])
theorem flV {d : D} (f : fl d = true) : flatV (vD d) = true := by
  cases d <;> first | rfl | cases f
theorem atL_fl : ∀ {ds : List D} {vs : List V}, AtL K H ds vs → ds.all fl = true → vs = ds.map vD
  | [], _, h, _ => by simp only [AtL] at h; exact h
  | d :: ds, _, h, f => by
    simp only [AtL] at h
    obtain ⟨x, r, rfl, h2, h3⟩ := h
    simp only [List.all_cons, Bool.and_eq_true] at f
    rw [at_fl h2 f.1, atL_fl h3 f.2]; rfl
theorem flLV {ds : List D} (f : ds.all fl = true) : (ds.map vD).all flatV = true := by
  rw [List.all_map]
  exact List.all_eq_true.mpr fun d hd => flV (List.all_eq_true.mp f d hd)
end

/-! ### what is known of the slots -/
abbrev Kn := List (Option D)
def EA (K : PySem.W.Frag) (H : Hp) (σ : St) (ρ : Kn) : Prop := σ.length = ρ.length ∧ ∀ (i : Nat) d, ρ[i]? = some (some d) → ∃ v, σ[i]? = some (some v) ∧ At K H d v
section
variable {K : PySem.W.Frag} {H H' : Hp} {σ : St} {ρ : Kn}
theorem EA.same (e : Same H H') (h : EA K H σ ρ) : EA K H' σ ρ := ⟨h.1, fun i d q => let ⟨v, a, b⟩ := h.2 i d q; ⟨v, a, b.same e⟩⟩
theorem EA.set {i : Nat} {d : D} {v : V} (h : EA K H σ ρ) (a : At K H d v) : EA K H (σ.set i (some v)) (ρ.set i (some d)) := by
  refine ⟨by rw [List.length_set, List.length_set]; exact h.1, fun j e q => ?_⟩
  by_cases hj : j = i
  · subst hj
    have hlt : j < ρ.length := by
      have := (List.getElem?_eq_some_iff.mp q).1
      rwa [List.length_set] at this
    rw [List.getElem?_set_self hlt] at q
    cases q
    exact ⟨v, List.getElem?_set_self (by rw [h.1]; exact hlt), a⟩
  · rw [List.getElem?_set_ne (Ne.symm hj)] at q
    obtain ⟨u, h1, h2⟩ := h.2 j e q
    exact ⟨u, by rw [List.getElem?_set_ne (Ne.symm hj)]; exact h1, h2⟩
/-- a slot is stored that is not told of -/
theorem EA.setN {i : Nat} {v : Option V} (h : EA K H σ ρ) : EA K H (σ.set i v) (ρ.set i none) := by
  refine ⟨by rw [List.length_set, List.length_set]; exact h.1, fun j e q => ?_⟩
  by_cases hj : j = i
  · subst hj
    have hlt : j < ρ.length := by
      have := (List.getElem?_eq_some_iff.mp q).1
      rwa [List.length_set] at this
    rw [List.getElem?_set_self hlt] at q
    cases q
  · rw [List.getElem?_set_ne (Ne.symm hj)] at q
    obtain ⟨u, h1, h2⟩ := h.2 j e q
    exact ⟨u, by rw [List.getElem?_set_ne (Ne.symm hj)]; exact h1, h2⟩
def wipeK (ρ : Kn) : List Nat → Kn
  | [] => ρ
  | v :: vs => (wipeK ρ vs).set v none
theorem EA.wipe (h : EA K H σ ρ) : ∀ vs : List Nat, EA K H (wipe σ vs) (wipeK ρ vs)
  | [] => h
  | v :: vs => EA.setN (EA.wipe h vs)
theorem EA.start {ds : List D} {vs : List V} {N : List Str} (h : AtL K H ds vs) : EA K H (L2.start N vs) (ds.map some ++ List.replicate (N.length - ds.length) none) := by
  unfold L2.start
  refine ⟨by simp [h.length], fun i d q => ?_⟩
  by_cases hi : i < ds.length
  · rw [List.getElem?_append_left (by simpa using hi), List.getElem?_map] at q
    cases e : ds[i]? with
    | none => rw [e] at q; cases q
    | some d' =>
      rw [e] at q
      have e' : d' = d := by simpa using q
      subst e'
      obtain ⟨v, h1, h2⟩ := h.get e
      exact ⟨v, by rw [List.getElem?_append_left (by simpa [h.length] using hi), List.getElem?_map, h1]; rfl, h2⟩
  · rw [List.getElem?_append_right (by simpa using hi), List.getElem?_replicate] at q
    split at q <;> cases q
end

/-! ### judgements -/
def tD (K : PySem.W.Frag) (ρ : Kn) (d : D) : TE := fun σ H Q => EA K H σ ρ ∧ ∀ v H', Same H H' → At K H' d v → Q v H'
def tDL (K : PySem.W.Frag) (ρ : Kn) (ds : List D) : TA := fun σ H Q => EA K H σ ρ ∧ ∀ vs H', Same H H' → AtL K H' ds vs → Q vs H'
def tDT (K : PySem.W.Frag) (ρ : Kn) (b : Bool) : TT := fun σ H Q => EA K H σ ρ ∧ ∀ H', Same H H' → Q b H'
abbrev PD (X : Cx) (ρ : Kn) (e : Expr) (d : D) : Prop := PE X e (tD X.K ρ d)
abbrev PDs (X : Cx) (ρ : Kn) (es : List Expr) (ds : List D) : Prop := PA X es (tDL X.K ρ ds)
abbrev PDT (X : Cx) (ρ : Kn) (e : Expr) (b : Bool) : Prop := PT X e (tDT X.K ρ b)
abbrev PDW (X : Cx) (ρ : Kn) (e : Expr) (b : Bool) : Prop := PW X e (tDT X.K ρ b)

section
variable {X : Cx} {ρ : Kn} {e a b : Expr} {es : List Expr} {d d1 d2 : D} {ds : List D} {pos p : Pos}
theorem pe_w {t t' : TE} (h : PE X e t) (k : ∀ σ H Q, t' σ H Q → t σ H Q) : PE X e t' := ⟨fun pins s σ H Q I q => h.run pins s σ H Q I (k σ H Q q)⟩
theorem pa_w {t t' : TA} (h : PA X es t) (k : ∀ σ H Q, t' σ H Q → t σ H Q) : PA X es t' := ⟨fun po pins s σ H Q I q => h.run po pins s σ H Q I (k σ H Q q)⟩
theorem pt_w {t t' : TT} (h : PT X e t) (k : ∀ σ H Q, t' σ H Q → t σ H Q) : PT X e t' := ⟨fun pins s σ H Q I q => h.run pins s σ H Q I (k σ H Q q)⟩
theorem pw_w {t t' : TT} (h : PW X e t) (k : ∀ σ H Q, t' σ H Q → t σ H Q) : PW X e t' := ⟨fun wh pins s σ H Q I q => h.run wh pins s σ H Q I (k σ H Q q)⟩
theorem ps_w {st : Stmt} {t t' : TS} (h : PS X st t) (k : ∀ D σ H, t' D σ H → t D σ H) : PS X st t' := ⟨fun pins s σ H D I q => h.run pins s σ H D I (k D σ H q)⟩
theorem pss_w {st : List Stmt} {t t' : TS} (h : PSs X st t) (k : ∀ D σ H, t' D σ H → t D σ H) : PSs X st t' := ⟨fun pins s σ H D I q => h.run pins s σ H D I (k D σ H q)⟩

theorem pd_to (h : PD X ρ e d) (q : d = d1) : PD X ρ e d1 := q ▸ h

theorem pd_var (i : Nat) {x : Str} (hρ : ρ[i]? = some (some d) := by rfl) (hN : X.N[i]? = some x := by rfl) (hv : Vis X.env.scope x := by first | exact Or.inl rfl | exact Or.inr (Or.inl rfl) | exact Or.inr (Or.inr rfl))
    (hd : (x == ("__debug__" : Str)) = false := by decide) (hcd : (x == ("__classdict__" : Str)) = false := by decide) : PD X ρ (.Name x pos) d :=
  pe_w (pe_var hN hv hd hcd) fun σ H Q q => let ⟨v, h1, h2⟩ := q.1.2 i d hρ; ⟨v, h1, q.2 v H (Same.refl H) h2⟩
theorem pd_bl {b j} : PD X ρ (.Constant (.bool b) j pos) (.bl b) := pe_w pe_bl fun _ H Q q => q.2 _ H (Same.refl H) (by simp only [At])
theorem pd_non {j} : PD X ρ (.Constant .none j pos) .non := pe_w pe_non fun _ H Q q => q.2 _ H (Same.refl H) (by simp only [At])
theorem pd_str {x j} : PD X ρ (.Constant (.str x) j pos) (.str x) := pe_w pe_str fun _ H Q q => q.2 _ H (Same.refl H) (by simp only [At])
theorem pd_int {i j} : PD X ρ (.Constant (.int i) j pos) (.int i) := pe_w pe_int fun _ H Q q => q.2 _ H (Same.refl H) (by simp only [At])
/-- a constant of the module -/
theorem pd_glob {x : Str} {ga : Addr} (hg : Gl X x) (hm : X.mg x = some (.ref ga)) (h : ∀ H, At X.K H d (.ref ga)) (hd : (x == ("__debug__" : Str)) = false := by decide) : PD X ρ (.Name x pos) d :=
  pe_w (pe_glob (v := .ref ga) hg hm rfl hd) fun _ H Q q => q.2 _ H (Same.refl H) (h H)

theorem pds_nil : PDs X ρ [] [] := pa_w pa_nil fun _ H Q q => q.2 [] H (Same.refl H) AtL.nil
theorem pds_cons (h : PD X ρ e d) (t : PDs X ρ es ds) (hs : starEach (e :: es) X.env = (false, eval e X.env) :: starEach es X.env := by rfl) : PDs X ρ (e :: es) (d :: ds) :=
  pa_w (pa_cons h t hs) fun σ H Q q => ⟨q.1, fun v H1 e1 a1 => ⟨q.1.same e1, fun vs H2 e2 a2 => q.2 _ H2 (e1.trans e2) (AtL.cons (a1.same e2) a2)⟩⟩
theorem pds_star (h : PD X ρ e (.lst ds)) {fs : List D} (t : PDs X ρ es fs) (hs : starEach (.Starred e p :: es) X.env = (true, eval e X.env) :: starEach es X.env := by rfl) : PDs X ρ (.Starred e p :: es) (ds ++ fs) :=
  pa_w (StX.pa_star h t hs) fun σ H Q q => ⟨q.1, fun v H1 e1 a1 => by
    simp only [At] at a1
    obtain ⟨a, xs, rfl, hx, al⟩ := a1
    exact ⟨a, xs, rfl, .inr hx, q.1.same e1, fun vs H2 e2 a2 => q.2 _ H2 (e1.trans e2) (AtL.append (al.same e2) a2)⟩⟩
theorem pd_tup {k : Nat} (h : PDs X ρ es ds) (hl : ds.length ≤ 100000 := by exact Nat.le_of_ble_eq_true rfl) : PD X ρ (.Tuple es k pos) (.tup ds) :=
  pe_w (pe_tup h) fun σ H Q q => ⟨q.1, fun vs H1 e1 a1 => ⟨by rw [a1.length]; exact Nat.le_trans hl (by decide), fun p hp => by
    obtain ⟨e2, a2⟩ := at_new hp a1
    exact q.2 _ _ (e1.trans e2) a2⟩⟩
/-- a new list -/
def tDn (K : PySem.W.Frag) (ρ : Kn) (ds : List D) : TE := fun σ H Q => EA K H σ ρ ∧ ∀ p xs H', H p = none → Same H H' → H' p = some (.lst xs) → AtL K H' ds xs → Q (.ref p) H'
abbrev PDL (X : Cx) (ρ : Kn) (e : Expr) (ds : List D) : Prop := PE X e (tDn X.K ρ ds)
theorem pd_l (h : PDL X ρ e ds) : PD X ρ e (.lst ds) := pe_w h fun σ H Q q => ⟨q.1, fun p xs H' n e1 hp al => q.2 _ H' e1 (at_lst (SqL.of hp) al)⟩
theorem pdl_lst (h : PDs X ρ es ds) (hl : ds.length ≤ 10000000 := by exact Nat.le_of_ble_eq_true rfl) : PDL X ρ (.List es pos) ds :=
  pe_w (pe_lst h) fun σ H Q q => ⟨q.1, fun vs H1 e1 a1 => ⟨by rw [a1.length]; exact Nat.le_trans hl (by decide), fun p hp => by
    exact q.2 p vs _ (Same.free e1 hp) (e1.trans (fun b o h => by rw [upd_ne (ne_of_none h hp)]; exact h)) upd_same (a1.same fun b o h => by rw [upd_ne (ne_of_none h hp)]; exact h)⟩⟩
theorem pd_lst (h : PDs X ρ es ds) (hl : ds.length ≤ 10000000 := by exact Nat.le_of_ble_eq_true rfl) : PD X ρ (.List es pos) (.lst ds) :=
  pe_w (pe_lst h) fun σ H Q q => ⟨q.1, fun vs H1 e1 a1 => ⟨by rw [a1.length]; exact Nat.le_trans hl (by decide), fun p hp => by
    obtain ⟨e2, a2⟩ := at_newL hp a1
    exact q.2 _ _ (e1.trans e2) a2⟩⟩

/-! ### subscripts -/
theorem AtL.atI {K : PySem.W.Frag} {H : Hp} {ds : List D} {vs : List V} {i : Int} {d : D} (h : AtL K H ds vs) (q : L2.atI ds i = some d) : ∃ v, L2.atI vs i = some v ∧ At K H d v := by
  unfold L2.atI at q ⊢
  rw [h.length]
  cases e : ixN ds.length i with
  | none => rw [e] at q; cases q
  | some j =>
    rw [e] at q
    exact h.get (i := j) q
theorem pd_ix {i : Int} (ha : PD X ρ a (.tup ds)) (hb : PD X ρ b (.int i)) (q : L2.atI ds i = some d) (hp : PlainIx b := by exact fun _ _ => rfl) : PD X ρ (.Subscript a b pos) d :=
  pe_w (pe_ix ix_tup ha hb hp) fun σ H Q q' => ⟨q'.1, fun v H1 e1 a1 => ⟨q'.1.same e1, fun u H2 e2 a2 => by
    simp only [At] at a1 a2
    obtain ⟨c, xs, rfl, hx, al⟩ := a1
    obtain ⟨w, h1, h2⟩ := al.atI q
    exact ⟨c, xs, i, w, rfl, a2, sqT_same e2 hx, h1, q'.2 w H2 (e1.trans e2) (h2.same e2)⟩⟩⟩
theorem pd_ixL {i : Int} (ha : PD X ρ a (.lst ds)) (hb : PD X ρ b (.int i)) (q : L2.atI ds i = some d) (hp : PlainIx b := by exact fun _ _ => rfl) : PD X ρ (.Subscript a b pos) d :=
  pe_w (pe_ix ix_list ha hb hp) fun σ H Q q' => ⟨q'.1, fun v H1 e1 a1 => ⟨q'.1.same e1, fun u H2 e2 a2 => by
    simp only [At] at a1 a2
    obtain ⟨c, xs, rfl, hx, al⟩ := a1
    obtain ⟨w, h1, h2⟩ := al.atI q
    exact ⟨c, xs, i, w, rfl, a2, e2.seq hx, h1, q'.2 w H2 (e1.trans e2) (h2.same e2)⟩⟩⟩

/-! ### comparisons -/
theorem pd_op2 {op : Operator} {r : R2} (ho : OpR X (binaryOp op) r) (ha : PD X ρ a d1) (hb : PD X ρ b d2)
    (h : ∀ x y H Q, At X.K H d1 x → At X.K H d2 y → (∀ v H', Same H H' → At X.K H' d v → Q v H') → r x y H Q) : PD X ρ (.BinOp a op b pos) d :=
  pe_w (pe_op ho ha hb) fun σ H Q q => ⟨q.1, fun v H1 e1 a1 => ⟨q.1.same e1, fun u H2 e2 a2 => h v u H2 Q (a1.same e2) a2 fun z H3 e3 a3 => q.2 z H3 ((e1.trans e2).trans e3) a3⟩⟩
theorem pd_cmp2 {op : CmpOp} {r : R2} (ho : OpR X (compareOp op) r) (ha : PD X ρ a d1) (hb : PD X ρ b d2) (hm : behindInMarks op b = false)
    (h : ∀ x y H Q, At X.K H d1 x → At X.K H d2 y → (∀ v H', Same H H' → At X.K H' d v → Q v H') → r x y H Q) : PD X ρ (.Compare a [op] [b] pos) d :=
  pe_w (pe_cmpR ho ha hb hm) fun σ H Q q => ⟨q.1, fun v H1 e1 a1 => ⟨q.1.same e1, fun u H2 e2 a2 => h v u H2 Q (a1.same e2) a2 fun z H3 e3 a3 => q.2 z H3 ((e1.trans e2).trans e3) a3⟩⟩
/-- how two data compare -/
structure CmpD (X : Cx) (op : CmpOp) (d1 d2 : D) (k : Bool) : Prop where
  ex : ∃ r, OpR X (compareOp op) r ∧ ∀ x y H (Q : VK), At X.K H d1 x → At X.K H d2 y → Q (.bl k) H → r x y H Q
def eqD (a b : D) : Bool := decide (vD a = vD b)
theorem cmp_eq (f1 : fl d1 = true := by rfl) (f2 : fl d2 = true := by rfl) (hs : scal (vD d1) (vD d2) = true := by rfl) : CmpD X .Eq d1 d2 (eqD d1 d2) :=
  ⟨_, op_eq, fun x y H Q a1 a2 q => by
    rw [at_fl a1 f1, at_fl a2 f2]
    exact ⟨hs, q⟩⟩
theorem cmp_ne (f1 : fl d1 = true := by rfl) (f2 : fl d2 = true := by rfl) (hs : scal (vD d1) (vD d2) = true := by rfl) : CmpD X .NotEq d1 d2 (!eqD d1 d2) :=
  ⟨_, op_ne, fun x y H Q a1 a2 q => by
    rw [at_fl a1 f1, at_fl a2 f2]
    exact ⟨hs, q⟩⟩
def inD (d : D) (ds : List D) : Bool := inV (vD d) (ds.map vD)
theorem cmp_inT (f1 : fl d1 = true := by rfl) (f2 : ds.all fl = true := by rfl) : CmpD X .In d1 (.tup ds) (inD d1 ds) :=
  ⟨_, op_in_seq, fun x y H Q a1 a2 q => by
    simp only [At] at a2
    obtain ⟨c, xs, rfl, hx, al⟩ := a2
    rw [at_fl a1 f1]
    refine ⟨c, xs, rfl, .inr hx, flV f1, ?_, ?_⟩
    · rw [atL_fl al f2]; exact flLV f2
    · rw [atL_fl al f2]; exact q⟩
theorem cmp_niT (f1 : fl d1 = true := by rfl) (f2 : ds.all fl = true := by rfl) : CmpD X .NotIn d1 (.tup ds) (!inD d1 ds) :=
  ⟨_, op_notIn_seq, fun x y H Q a1 a2 q => by
    simp only [At] at a2
    obtain ⟨c, xs, rfl, hx, al⟩ := a2
    rw [at_fl a1 f1]
    refine ⟨c, xs, rfl, .inr hx, flV f1, ?_, ?_⟩
    · rw [atL_fl al f2]; exact flLV f2
    · rw [atL_fl al f2]; exact q⟩
theorem cmp_inL (f1 : fl d1 = true := by rfl) (f2 : ds.all fl = true := by rfl) : CmpD X .In d1 (.lst ds) (inD d1 ds) :=
  ⟨_, op_in_seq, fun x y H Q a1 a2 q => by
    simp only [At] at a2
    obtain ⟨c, xs, rfl, hx, al⟩ := a2
    rw [at_fl a1 f1]
    refine ⟨c, xs, rfl, .inl hx, flV f1, ?_, ?_⟩
    · rw [atL_fl al f2]; exact flLV f2
    · rw [atL_fl al f2]; exact q⟩
theorem cmp_niL (f1 : fl d1 = true := by rfl) (f2 : ds.all fl = true := by rfl) : CmpD X .NotIn d1 (.lst ds) (!inD d1 ds) :=
  ⟨_, op_notIn_seq, fun x y H Q a1 a2 q => by
    simp only [At] at a2
    obtain ⟨c, xs, rfl, hx, al⟩ := a2
    rw [at_fl a1 f1]
    refine ⟨c, xs, rfl, .inl hx, flV f1, ?_, ?_⟩
    · rw [atL_fl al f2]; exact flLV f2
    · rw [atL_fl al f2]; exact q⟩
def isNonD : D → Bool
  | .non => true
  | _ => false
theorem at_non {K : PySem.W.Frag} {H : Hp} {d : D} {v : V} (h : At K H d v) : decide (v = .non) = isNonD d := by
  cases d <;> simp only [At] at h
  case non => subst h; rfl
  case bl => subst h; rfl
  case int => subst h; rfl
  case str => subst h; rfl
  case tup => obtain ⟨a, xs, rfl, _⟩ := h; rfl
  case lst => obtain ⟨a, xs, rfl, _⟩ := h; rfl
  case rul => obtain ⟨a, dx, t, rfl, _⟩ := h; rfl
  case adr => subst h; rfl
  case ob => obtain ⟨⟨a, rfl⟩, _⟩ := h; rfl
theorem cmp_isN : CmpD X .Is d1 .non (isNonD d1) :=
  ⟨_, op_isN, fun x y H Q a1 a2 q => by
    simp only [At] at a2
    exact ⟨a2, by rw [at_non a1]; exact q⟩⟩
theorem cmp_notN : CmpD X .IsNot d1 .non (!isNonD d1) :=
  ⟨_, op_notN, fun x y H Q a1 a2 q => by
    simp only [At] at a2
    exact ⟨a2, by rw [at_non a1]; exact q⟩⟩
theorem cmp_lt {i j : Int} : CmpD X .Lt (.int i) (.int j) (decide (i < j)) :=
  ⟨_, op_lt, fun x y H Q a1 a2 q => by
    simp only [At] at a1 a2
    exact ⟨i, j, a1, a2, q⟩⟩
theorem pd_cmp {op : CmpOp} {k : Bool} (ha : PD X ρ a d1) (hb : PD X ρ b d2) (h : CmpD X op d1 d2 k) (hm : behindInMarks op b = false := by first | exact nomark _ | rfl) : PD X ρ (.Compare a [op] [b] pos) (.bl k) := by
  obtain ⟨r, ho, h⟩ := h.ex
  exact pd_cmp2 ho ha hb hm fun x y H Q a1 a2 q => h x y H Q a1 a2 (q _ H (Same.refl H) (by simp only [At]))
theorem pdt_cmp {op : CmpOp} {k : Bool} (ha : PD X ρ a d1) (hb : PD X ρ b d2) (h : CmpD X op d1 d2 k) (hm : behindInMarks op b = false := by first | exact nomark _ | rfl) : PDT X ρ (.Compare a [op] [b] pos) k := by
  obtain ⟨r, ho, h⟩ := h.ex
  exact pt_w (pt_cmpR ho ha hb hm) fun σ H Q q => ⟨q.1, fun v H1 e1 a1 => ⟨q.1.same e1, fun u H2 e2 a2 => h v u H2 _ (a1.same e2) a2 ⟨k, rfl, q.2 H2 (e1.trans e2)⟩⟩⟩

/-! ### tests, and, or, not, if -/
variable {rest : List Expr} {k k1 k2 : Bool} {c : Expr}
theorem pdt_val (h : PD X ρ e (.bl k)) (he : ∀ whole, isTrue e X.env whole = (do let v ← whole; standAt e.pos; holding [v] (truthy v)) := by intro _; rfl) : PDT X ρ e k :=
  pt_w (pt_val h he) fun σ H Q q => ⟨q.1, fun v H1 e1 a1 => by simp only [At] at a1; exact ⟨k, a1, q.2 H1 e1⟩⟩
theorem pdt_not (h : PDT X ρ a k) : PDT X ρ (.UnaryOp .Not a pos) (!k) := pt_w (pt_not h) fun σ H Q q => ⟨q.1, fun H1 e1 => q.2 H1 e1⟩
theorem pdw_and1 (h : PDT X ρ a k) : PDW X ρ (.BoolOp .And [a] pos) k := pw_and1 h
theorem pdw_or1 (h : PDT X ρ a k) : PDW X ρ (.BoolOp .Or [a] pos) k := pw_or1 h
theorem pdw_and (h : PDT X ρ a k1) (t : PDW X ρ (.BoolOp .And (b :: rest) pos) k2) : PDW X ρ (.BoolOp .And (a :: b :: rest) pos) (k1 && k2) :=
  pw_w (pw_and h t) fun σ H Q q => ⟨q.1, fun H1 e1 => by
    cases k1 with
    | true => exact iteT ⟨q.1.same e1, fun H2 e2 => q.2 H2 (e1.trans e2)⟩
    | false => exact iteF (q.2 H1 e1)⟩
theorem pdw_or (h : PDT X ρ a k1) (t : PDW X ρ (.BoolOp .Or (b :: rest) pos) k2) : PDW X ρ (.BoolOp .Or (a :: b :: rest) pos) (k1 || k2) :=
  pw_w (pw_or h t) fun σ H Q q => ⟨q.1, fun H1 e1 => by
    cases k1 with
    | true => exact iteT (q.2 H1 e1)
    | false => exact iteF ⟨q.1.same e1, fun H2 e2 => q.2 H2 (e1.trans e2)⟩⟩
/-- the first item decides, the rest is not asked -/
theorem pw_never {e : Expr} : PW X e (fun _ _ _ => False) := ⟨fun _ _ _ _ _ _ _ z => z.elim⟩
theorem pe_never {e : Expr} : PE X e (fun _ _ _ => False) := ⟨fun _ _ _ _ _ _ z => z.elim⟩
theorem pdw_andF (h : PDT X ρ a false) : PDW X ρ (.BoolOp .And (a :: b :: rest) pos) false :=
  pw_w (pw_and h pw_never) fun σ H Q q => ⟨q.1, fun H1 e1 => iteF (q.2 H1 e1)⟩
theorem pdw_orT (h : PDT X ρ a true) : PDW X ρ (.BoolOp .Or (a :: b :: rest) pos) true :=
  pw_w (pw_or h pw_never) fun σ H Q q => ⟨q.1, fun H1 e1 => iteT (q.2 H1 e1)⟩
/-- .. as values -/
theorem pd_one {op} (h : PD X ρ a d) : PD X ρ (.BoolOp op [a] pos) d := pe_one h
theorem pd_and (h : PD X ρ a (.bl k1)) (t : PD X ρ (.BoolOp .And (b :: rest) pos) (.bl k2)) : PD X ρ (.BoolOp .And (a :: b :: rest) pos) (.bl (k1 && k2)) :=
  pe_w (pe_and h t) fun σ H Q q => ⟨q.1, fun v H1 e1 a1 => ⟨k1, by simpa only [At] using a1, by
    cases k1 with
    | true => exact iteT ⟨q.1.same e1, fun u H2 e2 a2 => q.2 u H2 (e1.trans e2) a2⟩
    | false => exact iteF (q.2 _ H1 e1 (by simp only [At, Bool.false_and]))⟩⟩
theorem pd_or (h : PD X ρ a (.bl k1)) (t : PD X ρ (.BoolOp .Or (b :: rest) pos) (.bl k2)) : PD X ρ (.BoolOp .Or (a :: b :: rest) pos) (.bl (k1 || k2)) :=
  pe_w (pe_or h t) fun σ H Q q => ⟨q.1, fun v H1 e1 a1 => ⟨k1, by simpa only [At] using a1, by
    cases k1 with
    | true => exact iteT (q.2 _ H1 e1 (by simp only [At, Bool.true_or]))
    | false => exact iteF ⟨q.1.same e1, fun u H2 e2 a2 => q.2 u H2 (e1.trans e2) a2⟩⟩⟩
theorem pd_not (h : PD X ρ a (.bl k)) : PD X ρ (.UnaryOp .Not a pos) (.bl (!k)) :=
  pe_w (pe_not h) fun σ H Q q => ⟨q.1, fun v H1 e1 a1 => ⟨k, by simpa only [At] using a1, q.2 _ H1 e1 (by simp only [At])⟩⟩
theorem pd_if (hc : PDT X ρ c k) (h1 : k = true → PD X ρ a d) (h2 : k = false → PD X ρ b d) : PD X ρ (.IfExp c a b pos) d := by
  cases k with
  | true => exact pe_w (pe_ifExp hc (h1 rfl) pe_never) fun σ H Q q => ⟨q.1, fun H1 e1 => iteT ⟨q.1.same e1, fun u H2 e2 a2 => q.2 u H2 (e1.trans e2) a2⟩⟩
  | false => exact pe_w (pe_ifExp hc pe_never (h2 rfl)) fun σ H Q q => ⟨q.1, fun H1 e1 => iteF ⟨q.1.same e1, fun u H2 e2 a2 => q.2 u H2 (e1.trans e2) a2⟩⟩
theorem pd_ifC (hc : PDT X ρ c k) (h1 : PD X ρ a d1) (h2 : PD X ρ b d2) : PD X ρ (.IfExp c a b pos) (cond k d1 d2) :=
  pd_if hc (fun e => by subst e; exact h1) (fun e => by subst e; exact h2)

/-! ### binary operators -/
theorem pd_add {i j : Int} (ha : PD X ρ a (.int i)) (hb : PD X ρ b (.int j)) : PD X ρ (.BinOp a .Add b pos) (.int (i + j)) :=
  pd_op2 op_add ha hb fun x y H Q a1 a2 q => by
    simp only [At] at a1 a2
    exact ⟨i, j, a1, a2, q _ H (Same.refl H) (by simp only [At])⟩
theorem pd_sub {i j : Int} (ha : PD X ρ a (.int i)) (hb : PD X ρ b (.int j)) : PD X ρ (.BinOp a .Sub b pos) (.int (i - j)) :=
  pd_op2 op_sub ha hb fun x y H Q a1 a2 q => by
    simp only [At] at a1 a2
    exact ⟨i, j, a1, a2, q _ H (Same.refl H) (by simp only [At])⟩
theorem pd_cat {x y : Str} (ha : PD X ρ a (.str x)) (hb : PD X ρ b (.str y)) (hl : x.length + y.length ≤ 1000) : PD X ρ (.BinOp a .Add b pos) (.str (x ++ y)) :=
  pd_op2 op_add_str ha hb fun v u H Q a1 a2 q => by
    simp only [At] at a1 a2
    exact ⟨x, y, a1, a2, Nat.le_trans hl (by decide), q _ H (Same.refl H) (by simp only [At])⟩
theorem pd_catT {es fs : List D} (ha : PD X ρ a (.tup es)) (hb : PD X ρ b (.tup fs)) (h1 : es ≠ []) (h2 : fs ≠ []) (hl : es.length + fs.length ≤ 1000 := by exact Nat.le_of_ble_eq_true rfl) : PD X ρ (.BinOp a .Add b pos) (.tup (es ++ fs)) :=
  pd_op2 op_catT ha hb fun v u H Q a1 a2 q => by
    simp only [At] at a1 a2
    obtain ⟨a, xs, rfl, hx, al⟩ := a1
    obtain ⟨b, ys, rfl, hy, bl⟩ := a2
    have n1 : xs ≠ [] := fun z => h1 (by have := al.length; rw [z] at this; exact List.length_eq_zero_iff.mp this.symm)
    have n2 : ys ≠ [] := fun z => h2 (by have := bl.length; rw [z] at this; exact List.length_eq_zero_iff.mp this.symm)
    refine ⟨a, b, xs, ys, rfl, rfl, hx, hy, n1, by rw [al.length, bl.length]; exact Nat.le_trans hl (by decide), fun z => absurd z n2, fun _ p hp => ?_⟩
    obtain ⟨e1, a1⟩ := at_new hp (al.append bl)
    exact q _ _ e1 a1
end

/-! ### calls of defs by their promises -/
/-- what stands behind the top of a def -/
structure Dok (P : Program) (w : World) (K : PySem.W.Frag) (mg : Str → Option Value) (base : Heap) (k : Nat) (x : Str) (ps : List Str) (sp : Sp) : Prop where
  ex : ∃ f fd, FnOk P w K mg base CX0 k f fd ps sp ∧ mg x = some (.ref f) ∧ PySem.W.keepIn K (.ref f) = true ∧ Binds K fd ps []
/-- data in, data out -/
def spD (K : PySem.W.Frag) (R : List D → D → Prop) : Sp := fun vs H Q _ => ∃ ds d, R ds d ∧ AtL K H ds vs ∧ ∀ v H', Same H H' → At K H' d v → Q v H'
section
variable {X : Cx} {ρ : Kn} {e a b : Expr} {es : List Expr} {d d1 d2 : D} {ds : List D} {pos p : Pos} {k : Nat} {x : Str} {ps : List Str} {sp : Sp} {t : TA} {R : List D → D → Prop}
theorem pe_callD (G : Dok X.prog X.w X.K X.mg X.base k x ps sp) (hr : Room k X.A) (ha : PA X (e :: es) t) (hg : Gl X x := by exact rfl) (hdb : (x == ("__debug__" : Str)) = false := by decide)
    (he : starEach (e :: es) X.env = (false, eval e X.env) :: starEach es X.env := by rfl) (hpl : (backTo pos (starEach es X.env)).any (·.1) = false := by rfl) :
    PE X (.Call (.Name x p) (e :: es) [] pos) (tCall sp [] E0 t) := by
  obtain ⟨f, fd, F, hm, hk, hb⟩ := G.ex
  exact pe_call F hr hg hm hk hb .nil pass0 ha hdb he hpl
theorem pd_call (G : Dok X.prog X.w X.K X.mg X.base k x ps (spD X.K R)) (hr : Room k X.A) (ha : PDs X ρ (e :: es) ds) (hR : R ds d) (hg : Gl X x := by exact rfl) (hdb : (x == ("__debug__" : Str)) = false := by decide)
    (he : starEach (e :: es) X.env = (false, eval e X.env) :: starEach es X.env := by rfl) (hpl : (backTo pos (starEach es X.env)).any (·.1) = false := by rfl) :
    PD X ρ (.Call (.Name x p) (e :: es) [] pos) d :=
  pe_w (pe_callD G hr ha hg hdb he hpl) fun σ H Q q => ⟨q.1, fun vs H1 e1 a1 => ⟨ds, d, hR, by rw [List.append_nil]; exact a1, fun v H2 e2 a2 => q.2 v H2 (e1.trans e2) a2⟩⟩
/-- built-ins by values -/
theorem pd_callB {id : String} {r : List V → Hp → VK → Prop} (hc : CallR X (.builtin id) r) (hm : X.mg x = none) (hv : bootBuiltins x = some (.builtin id)) (ha : PDs X ρ (e :: es) ds)
    (h : ∀ vs H (Q : VK), AtL X.K H ds vs → (∀ v H', Same H H' → At X.K H' d v → Q v H') → r vs H Q) (hg : Gl X x := by exact rfl) (hn : x ≠ "__name__" := by decide) (hdb : (x == ("__debug__" : Str)) = false := by decide)
    (he : starEach (e :: es) X.env = (false, eval e X.env) :: starEach es X.env := by rfl) (hpl : (backTo pos (starEach es X.env)).any (·.1) = false := by rfl) : PD X ρ (.Call (.Name x p) (e :: es) [] pos) d :=
  pe_w (pe_callB hc hg hm hv ha hn hdb he hpl) fun σ H Q q => ⟨q.1, fun vs H1 e1 a1 => h vs H1 Q a1 fun v H2 e2 a2 => q.2 v H2 (e1.trans e2) a2⟩
theorem pd_callTy {T : String} {r : List V → Hp → VK → Prop} (hc : CallR X (.type T) r) (hm : X.mg x = none) (hv : bootBuiltins x = some (.type T)) (ha : PDs X ρ (e :: es) ds)
    (h : ∀ vs H (Q : VK), AtL X.K H ds vs → (∀ v H', Same H H' → At X.K H' d v → Q v H') → r vs H Q) (hg : Gl X x := by exact rfl) (hn : x ≠ "__name__" := by decide) (hdb : (x == ("__debug__" : Str)) = false := by decide)
    (he : starEach (e :: es) X.env = (false, eval e X.env) :: starEach es X.env := by rfl) (hpl : (backTo pos (starEach es X.env)).any (·.1) = false := by rfl) : PD X ρ (.Call (.Name x p) (e :: es) [] pos) d :=
  pe_w (pe_callTy hc hg hm hv ha hn hdb he hpl) fun σ H Q q => ⟨q.1, fun vs H1 e1 a1 => h vs H1 Q a1 fun v H2 e2 a2 => q.2 v H2 (e1.trans e2) a2⟩
theorem atL_one {K : PySem.W.Frag} {H : Hp} {d : D} {vs : List V} (h : AtL K H [d] vs) : ∃ v, vs = [v] ∧ At K H d v := by
  simp only [AtL] at h
  obtain ⟨x, r, rfl, h2, rfl⟩ := h
  exact ⟨x, rfl, h2⟩
theorem atL_two {K : PySem.W.Frag} {H : Hp} {d d' : D} {vs : List V} (h : AtL K H [d, d'] vs) : ∃ v u, vs = [v, u] ∧ At K H d v ∧ At K H d' u := by
  simp only [AtL] at h
  obtain ⟨x, r, rfl, h2, y, r2, rfl, h3, rfl⟩ := h
  exact ⟨x, y, rfl, h2, h3⟩
/-- tuple(a list) -/
theorem pd_tuple (hm : X.mg "tuple" = none) (ha : PD X ρ e (.lst ds)) (hg : Gl X "tuple" := by exact rfl) (hs : starEach [e] X.env = [(false, eval e X.env)] := by rfl) : PD X ρ (.Call (.Name "tuple" p) [e] [] pos) (.tup ds) :=
  pd_callTy call_tuple_of hm (by decide +kernel) (pds_cons ha pds_nil hs) (fun vs H Q al q => by
    obtain ⟨v, rfl, a1⟩ := atL_one al
    simp only [At] at a1
    obtain ⟨a, xs, rfl, hx, al⟩ := a1
    refine ⟨a, xs, rfl, .inl ⟨hx, fun l hl => ?_⟩⟩
    obtain ⟨e1, a1⟩ := at_new hl al
    exact q _ _ e1 a1) hg (by decide) (by decide) hs rfl
/-- all(a list of bools) -/
theorem pd_all {bs : List Bool} (hc : X.calm = true) (hm : X.mg "all" = none) (ha : PD X ρ e (.lst (bs.map D.bl))) (hg : Gl X "all" := by exact rfl) (hs : starEach [e] X.env = [(false, eval e X.env)] := by rfl) :
    PD X ρ (.Call (.Name "all" p) [e] [] pos) (.bl (bs.all id)) :=
  pd_callB (cr_all hc) hm (by decide +kernel) (pds_cons ha pds_nil hs) (fun vs H Q al q => by
    obtain ⟨v, rfl, a1⟩ := atL_one al
    simp only [At] at a1
    obtain ⟨a, xs, rfl, hx, al⟩ := a1
    have hf : (bs.map D.bl).all fl = true := by
      rw [List.all_map]
      exact List.all_eq_true.mpr fun _ _ => rfl
    have ex : xs = bs.map V.bl := by
      rw [atL_fl al hf, List.map_map]
      rfl
    subst ex
    exact ⟨a, bs, rfl, hx, q _ H (Same.refl H) (by simp only [At])⟩) hg (by decide) (by decide) hs rfl
end

/-! ### statements of a body that hands back data -/
def tR (K : PySem.W.Frag) (ρ : Kn) (d : D) : TS := fun D σ H => EA K H σ ρ ∧ ∀ v H', Same H H' → At K H' d v → D.rt v H'
def tN (K : PySem.W.Frag) (ρ ρ1 : Kn) : TS := fun D σ H => EA K H σ ρ ∧ ∀ σ' H', Same H H' → EA K H' σ' ρ1 → D.nx σ' H'
abbrev SR (X : Cx) (ρ : Kn) (st : List Stmt) (d : D) : Prop := PSs X st (tR X.K ρ d)
abbrev SN (X : Cx) (ρ : Kn) (st : List Stmt) (ρ1 : Kn) : Prop := PSs X st (tN X.K ρ ρ1)
abbrev SN1 (X : Cx) (ρ : Kn) (st : Stmt) (ρ1 : Kn) : Prop := PS X st (tN X.K ρ ρ1)
section
variable {X : Cx} {ρ ρ1 ρ2 : Kn} {e c : Expr} {st : Stmt} {rest thn els : List Stmt} {d d1 : D} {ds : List D} {pos p : Pos} {k : Bool} {i j : Nat} {x y : Str}
theorem ps_never' {st : Stmt} : PS X st (fun _ _ _ => False) := ⟨fun _ _ _ _ _ _ h => h.elim⟩
theorem pss_never' {st : List Stmt} : PSs X st (fun _ _ _ => False) := ⟨fun _ _ _ _ _ _ h => h.elim⟩
/-- one statement, then the rest -/
theorem sr_seq (h : SN1 X ρ st ρ1) (t : SR X ρ1 rest d) : SR X ρ (st :: rest) d :=
  pss_w (pss_cons h t) fun D σ H q => ⟨q.1, fun σ' H1 e1 ea => ⟨ea, fun v H2 e2 a2 => q.2 v H2 (e1.trans e2) a2⟩⟩
theorem sn_seq (h : SN1 X ρ st ρ1) (t : SN X ρ1 rest ρ2) : SN X ρ (st :: rest) ρ2 :=
  pss_w (pss_cons h t) fun D σ H q => ⟨q.1, fun σ' H1 e1 ea => ⟨ea, fun σ2 H2 e2 a2 => q.2 σ2 H2 (e1.trans e2) a2⟩⟩
theorem sn_nil : SN X ρ [] ρ := pss_w pss_nil fun D σ H q => q.2 σ H (Same.refl H) q.1
theorem sr_ret (h : PD X ρ e d) : SR X ρ (.Return (some e) pos :: rest) d :=
  pss_w (pss_cons (ps_ret h) pss_never') fun D σ H q => ⟨q.1, fun v H1 e1 a1 => q.2 v H1 e1 a1⟩
theorem sr_retN : SR X ρ (.Return none pos :: rest) .non :=
  pss_w (pss_cons ps_retN pss_never') fun D σ H q => q.2 _ H (Same.refl H) (by simp only [At])
theorem sn_asg (i : Nat) (h : PD X ρ e d) (nd : X.N.Nodup) (hN : X.N[i]? = some x := by rfl) (hx : Loc X.env.scope x := by first | exact Or.inl rfl | exact Or.inr rfl)
    (hf : X.fn x = true ∨ X.env.scope.names.lookup x = some .local := by first | exact .inl rfl | exact .inr rfl)
    (hs : swapsWithSole [.Name x p] e pos.line X.env = pure false := by rfl) (hw : swappedStores [.Name x p] e X.env = pure none := by rfl)
    (h1 : (assignEach [.Name x p] X.env).map (·.2) = [assign (.Name x p) X.env] := by rfl) : SN1 X ρ (.Assign [.Name x p] e pos) (ρ.set i (some d)) :=
  ps_w (ps_asg h (pg_name nd hN hx hf) hs hw h1) fun D σ H q => ⟨q.1, fun v H1 e1 a1 => q.2 _ H1 e1 ((q.1.same e1).set a1)⟩
/-- a, b, .. = a tuple -/
def setK (ρ : Kn) : List Nat → List D → Kn
  | i :: is, d :: ds => setK (ρ.set i (some d)) is ds
  | _, _ => ρ
def gSets : List Nat → TGs
  | [] => gNil
  | i :: is => gCons (gName i) (gSets is)
theorem gSets_ok {K : PySem.W.Frag} : ∀ {is : List Nat} {ds : List D} {xs : List V} {σ : St} {H : Hp} {ρ : Kn} {Q : St → Hp → Prop}, is.length = ds.length → EA K H σ ρ → AtL K H ds xs → (∀ σ', EA K H σ' (setK ρ is ds) → Q σ' H) → gSets is xs σ H Q
  | [], [], xs, σ, H, ρ, Q, _, ea, al, q => by
    simp only [AtL] at al
    exact ⟨al, q σ ea⟩
  | i :: is, d :: ds, xs, σ, H, ρ, Q, hl, ea, al, q => by
    simp only [AtL] at al
    obtain ⟨x, r, rfl, h2, h3⟩ := al
    exact ⟨x, r, rfl, gSets_ok (by simpa using hl) (ea.set h2) h3 q⟩
  | [], _ :: _, _, _, _, _, _, hl, _, _, _ => by simp at hl
  | _ :: _, [], _, _, _, _, _, hl, _, _, _ => by simp at hl
theorem sn_unp (is : List Nat) {ts : List Expr} {kk n : Nat} (h : PD X ρ e (.tup ds)) (hc : X.calm = true) (hg : PGs X ts (gSets is)) (hl : is.length = ds.length := by rfl) (hl2 : ds.length = n := by rfl)
    (hn : (assignEach ts X.env).length = n := by rfl) (hst : (assignEach ts X.env).findIdx? (·.1) = none := by rfl)
    (hs : swapsWithSole [.Tuple ts kk p] e pos.line X.env = pure false := by rfl) (hw : swappedStores [.Tuple ts kk p] e X.env = pure none := by rfl)
    (h1 : (assignEach [.Tuple ts kk p] X.env).map (·.2) = [assign (.Tuple ts kk p) X.env] := by rfl) : SN1 X ρ (.Assign [.Tuple ts kk p] e pos) (setK ρ is ds) :=
  ps_w (ps_asg h (pg_tup hc hg hn hst) hs hw h1) fun D σ H q => ⟨q.1, fun v H1 e1 a1 => by
    simp only [At] at a1
    obtain ⟨a, xs, rfl, hx, al⟩ := a1
    exact ⟨a, xs, rfl, hx, by rw [al.length, hl2], gSets_ok hl (q.1.same e1) al fun σ' ea => q.2 σ' H1 e1 ea⟩⟩
/-- if c: .. return, then the rest -/
theorem sr_if (hc : PDT X ρ c k) (h1 : k = true → SR X ρ thn d) (h2 : k = false → SR X ρ rest d) : SR X ρ (.If c thn [] pos :: rest) d := by
  cases k with
  | true => exact pss_w (pss_cons (ps_if hc (h1 rfl) pss_never') pss_never') fun D σ H q => ⟨q.1, fun H1 e1 => iteT ⟨q.1.same e1, fun u H2 e2 a2 => q.2 u H2 (e1.trans e2) a2⟩⟩
  | false => exact pss_w (pss_cons (ps_if hc pss_never' pss_nil) (h2 rfl)) fun D σ H q => ⟨q.1, fun H1 e1 => iteF ⟨q.1.same e1, fun u H2 e2 a2 => q.2 u H2 (e1.trans e2) a2⟩⟩
theorem sr_ifC (hc : PDT X ρ c k) (h1 : SR X ρ thn d) (h2 : SR X ρ rest d1) : SR X ρ (.If c thn [] pos :: rest) (cond k d d1) :=
  sr_if hc (fun e => by subst e; exact h1) (fun e => by subst e; exact h2)
/-- an if whose ways go on -/
theorem sn_if (hc : PDT X ρ c k) (h1 : k = true → SN X ρ thn ρ1) (h2 : k = false → SN X ρ els ρ1) : SN1 X ρ (.If c thn els pos) ρ1 := by
  cases k with
  | true => exact ps_w (ps_if hc (h1 rfl) pss_never') fun D σ H q => ⟨q.1, fun H1 e1 => iteT ⟨q.1.same e1, fun u H2 e2 a2 => q.2 u H2 (e1.trans e2) a2⟩⟩
  | false => exact ps_w (ps_if hc pss_never' (h2 rfl)) fun D σ H q => ⟨q.1, fun H1 e1 => iteF ⟨q.1.same e1, fun u H2 e2 a2 => q.2 u H2 (e1.trans e2) a2⟩⟩
end

/-! ### defs that hand back a new list -/
def spDL (K : PySem.W.Frag) (R : List D → List D → Prop) : Sp := fun vs H Q _ => ∃ ds es, R ds es ∧ AtL K H ds vs ∧ ∀ p xs H', H p = none → Same H H' → H' p = some (.lst xs) → AtL K H' es xs → Q (.ref p) H'
def tRn (K : PySem.W.Frag) (ρ : Kn) (es : List D) : TS := fun D σ H => EA K H σ ρ ∧ ∀ p xs H', H p = none → Same H H' → H' p = some (.lst xs) → AtL K H' es xs → D.rt (.ref p) H'
abbrev SRL (X : Cx) (ρ : Kn) (st : List Stmt) (es : List D) : Prop := PSs X st (tRn X.K ρ es)
section
variable {X : Cx} {ρ ρ1 : Kn} {e c : Expr} {es : List Expr} {st : Stmt} {rest thn : List Stmt} {ds fs gs : List D} {pos p : Pos} {k : Nat} {kb : Bool} {x : Str} {ps : List Str} {R : List D → List D → Prop}
theorem pdl_call (G : Dok X.prog X.w X.K X.mg X.base k x ps (spDL X.K R)) (hr : Room k X.A) (ha : PDs X ρ (e :: es) ds) (hR : R ds fs) (hg : Gl X x := by exact rfl) (hdb : (x == ("__debug__" : Str)) = false := by decide)
    (he : starEach (e :: es) X.env = (false, eval e X.env) :: starEach es X.env := by rfl) (hpl : (backTo pos (starEach es X.env)).any (·.1) = false := by rfl) :
    PDL X ρ (.Call (.Name x p) (e :: es) [] pos) fs :=
  pe_w (pe_callD G hr ha hg hdb he hpl) fun σ H Q q => ⟨q.1, fun vs H1 e1 a1 => ⟨ds, fs, hR, by rw [List.append_nil]; exact a1, fun p xs H2 n e2 hp al => q.2 p xs H2 (Same.free e1 n) (e1.trans e2) hp al⟩⟩
theorem srl_ret (h : PDL X ρ e fs) : SRL X ρ (.Return (some e) pos :: rest) fs :=
  pss_w (pss_cons (ps_ret h) pss_never') fun D σ H q => ⟨q.1, fun p xs H1 n e1 hp al => q.2 p xs H1 n e1 hp al⟩
theorem srl_seq (h : SN1 X ρ st ρ1) (t : SRL X ρ1 rest fs) : SRL X ρ (st :: rest) fs :=
  pss_w (pss_cons h t) fun D σ H q => ⟨q.1, fun σ' H1 e1 ea => ⟨ea, fun p xs H2 n e2 hp al => q.2 p xs H2 (Same.free e1 n) (e1.trans e2) hp al⟩⟩
theorem srl_if (hc : PDT X ρ c kb) (h1 : kb = true → SRL X ρ thn fs) (h2 : kb = false → SRL X ρ rest fs) : SRL X ρ (.If c thn [] pos :: rest) fs := by
  cases kb with
  | true => exact pss_w (pss_cons (ps_if hc (h1 rfl) pss_never') pss_never') fun D σ H q => ⟨q.1, fun H1 e1 => iteT ⟨q.1.same e1, fun p xs H2 n e2 hp al => q.2 p xs H2 (Same.free e1 n) (e1.trans e2) hp al⟩⟩
  | false => exact pss_w (pss_cons (ps_if hc pss_never' pss_nil) (h2 rfl)) fun D σ H q => ⟨q.1, fun H1 e1 => iteF ⟨q.1.same e1, fun p xs H2 n e2 hp al => q.2 p xs H2 (Same.free e1 n) (e1.trans e2) hp al⟩⟩
theorem srl_to (h : SRL X ρ rest fs) (q : fs = gs) : SRL X ρ rest gs := q ▸ h
theorem pdl_to (h : PDL X ρ e fs) (q : fs = gs) : PDL X ρ e gs := q ▸ h
/-- list + list, both new -/
theorem pdl_cat {a b : Expr} (ha : PDL X ρ a ds) (hb : PDL X ρ b fs) (hl : ds.length + fs.length ≤ 10000000) : PDL X ρ (.BinOp a .Add b pos) (ds ++ fs) :=
  pe_w (pe_op op_cat ha hb) fun σ H Q q => ⟨q.1, fun l xs H1 n1 e1 h1 al => ⟨q.1.same e1, fun b ys H2 n2 e2 h2 bl => ⟨l, b, xs, ys, rfl, rfl, e2 _ _ h1, h2, by
    rw [al.length, bl.length]; exact Nat.le_trans hl (by decide), fun p hp => q.2 p (xs ++ ys) _ (Same.free (e1.trans e2) hp) ((e1.trans e2).trans (fun b o h => by rw [upd_ne (ne_of_none h hp)]; exact h)) upd_same
      ((al.same e2).append bl |>.same (fun b o h => by rw [upd_ne (ne_of_none h hp)]; exact h))⟩⟩⟩
/-- a if c else b, new lists -/
theorem pdl_ifC {a b c : Expr} (hc : PDT X ρ c kb) (h1 : PDL X ρ a ds) (h2 : PDL X ρ b fs) : PDL X ρ (.IfExp c a b pos) (cond kb ds fs) := by
  cases kb with
  | true => exact pe_w (pe_ifExp hc h1 pe_never) fun σ H Q q => ⟨q.1, fun H1 e1 => iteT ⟨q.1.same e1, fun p xs H2 n e2 hp al => q.2 p xs H2 (Same.free e1 n) (e1.trans e2) hp al⟩⟩
  | false => exact pe_w (pe_ifExp hc pe_never h2) fun σ H Q q => ⟨q.1, fun H1 e1 => iteF ⟨q.1.same e1, fun p xs H2 n e2 hp al => q.2 p xs H2 (Same.free e1 n) (e1.trans e2) hp al⟩⟩
end
end CM
set_option Elab.async false
set_option linter.all false
set_option maxRecDepth 100000
set_option maxHeartbeats 4000000
/-! CM2: list comprehensions over data; data without lists; a def's promise from its body. -/
namespace CM
open PySem L2
open PyProof.Rows (envOfC)

/-! ### no list in it -/
mutual
def noL : D → Bool
  | .tup ds => noLs ds
  | .lst _ => false
  | .ob _ => false
  | _ => true
def noLs : List D → Bool
  | [] => true
  | d :: ds => noL d && noLs ds
end
theorem noLs_mem : ∀ {ds : List D}, noLs ds = true ↔ ∀ d ∈ ds, noL d = true
  | [] => by simp [noLs]
  | d :: ds => by simp [noLs, noLs_mem (ds := ds)]
theorem noLs_append {as bs : List D} : noLs (as ++ bs) = (noLs as && noLs bs) := by
  rw [Bool.eq_iff_iff, Bool.and_eq_true, noLs_mem, noLs_mem, noLs_mem]
  constructor
  · intro h; exact ⟨fun d m => h d (List.mem_append_left _ m), fun d m => h d (List.mem_append_right _ m)⟩
  · rintro ⟨h1, h2⟩ d m
    exact (List.mem_append.mp m).elim (h1 d) (h2 d)
/-- what such data leans on: tuples, Rules -/
def Ties (H H' : Hp) : Prop := (∀ b xs, H b = some (.tup xs) → H' b = some (.tup xs)) ∧ (∀ b o xs, H b = some (.frz o (.tup xs)) → H' b = some (.frz o (.tup xs))) ∧ ∀ b C dx fs, H b = some (.ins C dx fs) → H' b = some (.ins C dx fs)
theorem Ties.same {H H' : Hp} (e : Same H H') : Ties H H' := ⟨fun _ _ h => e _ _ h, fun _ _ _ h => e _ _ h, fun _ _ _ _ h => e _ _ h⟩
theorem Ties.lst {H : Hp} {p : Addr} {ys : List V} {o : HO} (h : H p = some (.lst ys)) : Ties H (upd H p o) :=
  ⟨fun b xs q => by rw [upd_ne (ne_of q h (by intro z; cases z))]; exact q, fun b o xs q => by rw [upd_ne (ne_of q h (by intro z; cases z))]; exact q, fun b C dx fs q => by rw [upd_ne (ne_of q h (by intro z; cases z))]; exact q⟩
theorem Ties.ext {H : Hp} {p : Addr} {φ : Heap → Prop} {o : HO} (h : H p = some (.ext φ)) : Ties H (upd H p o) :=
  ⟨fun b xs q => by rw [upd_ne (ne_of q h (by intro z; cases z))]; exact q, fun b o xs q => by rw [upd_ne (ne_of q h (by intro z; cases z))]; exact q, fun b C dx fs q => by rw [upd_ne (ne_of q h (by intro z; cases z))]; exact q⟩
theorem Ties.trans {H H1 H2 : Hp} (a : Ties H H1) (b : Ties H1 H2) : Ties H H2 := ⟨fun c xs h => b.1 c xs (a.1 c xs h), fun c o xs h => b.2.1 c o xs (a.2.1 c o xs h), fun c C dx fs h => b.2.2 c C dx fs (a.2.2 c C dx fs h)⟩
theorem sqT_ties {K : PySem.W.Frag} {H H' : Hp} {a : Addr} {xs : List V} (e : Ties H H') (h : SqT K H a xs) : SqT K H' a xs := by
  rcases h with (h | ⟨o, h⟩) | h
  · exact .inl (.inl (e.1 _ _ h))
  · exact .inl (.inr ⟨o, e.2.1 _ _ _ h⟩)
  · exact .inr h
section
variable {K : PySem.W.Frag} {H H' : Hp}
mutual
theorem At.ties (e : Ties H H') : ∀ {d : D} {v : V}, noL d = true → At K H d v → At K H' d v
  | .non, _, _, h => by simpa only [At] using h
  | .bl _, _, _, h => by simpa only [At] using h
  | .int _, _, _, h => by simpa only [At] using h
  | .str _, _, _, h => by simpa only [At] using h
  | .tup ds, _, n, h => by
    simp only [At] at h ⊢
    obtain ⟨a, xs, h1, h2, h3⟩ := h
    exact ⟨a, xs, h1, sqT_ties e h2, AtL.ties e (by simpa only [noL] using n) h3⟩
  | .lst ds, _, n, h => by simp [noL] at n
  | .adr _, _, _, h => by simpa only [At] using h
  | .ob _, _, n, h => by simp [noL] at n
  | .rul ws, _, _, h => by
    simp only [At] at h ⊢
    obtain ⟨a, dx, t, h1, h2, h3⟩ := h
    exact ⟨a, dx, t, h1, e.2.2 _ _ _ _ h2, sqT_ties e h3⟩
theorem AtL.ties (e : Ties H H') : ∀ {ds : List D} {vs : List V}, noLs ds = true → AtL K H ds vs → AtL K H' ds vs
  | [], _, _, h => by simpa only [AtL] using h
  | d :: ds, _, n, h => by
    simp only [AtL] at h ⊢
    simp only [noLs, Bool.and_eq_true] at n
    obtain ⟨x, r, h1, h2, h3⟩ := h
    exact ⟨x, r, h1, At.ties e n.1 h2, AtL.ties e n.2 h3⟩
end
end
theorem same_mut {H H' : Hp} {p : Addr} {o : HO} (e : Same H H') (n : H p = none) : Same H (upd H' p o) := fun b u h => by
  rw [upd_ne (ne_of_none h n)]
  exact e b u h

/-! ### expressions that give one of several -/
def tDx (K : PySem.W.Frag) (F : Kn → D → Prop) : TE := fun σ H Q => ∃ ρ d, F ρ d ∧ tD K ρ d σ H Q
def tTx (K : PySem.W.Frag) (F : Kn → Bool → Prop) : TT := fun σ H Q => ∃ ρ b, F ρ b ∧ tDT K ρ b σ H Q
theorem pe_x {X : Cx} {e : Expr} {F : Kn → D → Prop} (h : ∀ ρ d, F ρ d → PD X ρ e d) : PE X e (tDx X.K F) :=
  ⟨fun pins s σ H Q I ⟨ρ, d, f, q⟩ => (h ρ d f).run pins s σ H Q I q⟩
theorem pts_x {X : Cx} {ifs : List Expr} {F : Kn → Bool → Prop} (h : ∀ ρ b, F ρ b → PTs X ifs (tDT X.K ρ b)) : PTs X ifs (tTx X.K F) :=
  ⟨fun pins s σ H Q I ⟨ρ, d, f, q⟩ => (h ρ d f).run pins s σ H Q I q⟩
theorem pdts_nil {X : Cx} {ρ : Kn} : PTs X [] (tDT X.K ρ true) := ⟨fun _ _ _ H Q I h => wpAny_tests_nil ⟨H, I, h.2 H (Same.refl H)⟩⟩
theorem pdts_one {X : Cx} {ρ : Kn} {c : Expr} {b : Bool} (h : PDT X ρ c b) : PTs X [c] (tDT X.K ρ b) := pts_one h

section
variable {X : Cx} {ρ : Kn} {elt tg iter : Expr} {ifs : List Expr} {scope : Scope} {own : List (Str × Nat)} {pos py spos : Pos} {y : Str} {α : Type} {as : List α} {g : α → D} {f : α → D} {t : α → Bool}
theorem filter_snoc {α : Type} {l : List α} {i : Nat} {x : α} (h : l[i]? = some x) : l.take (i + 1) = l.take i ++ [x] := by
  rw [List.take_add_one, h]; rfl
theorem get_map {α β : Type} {l : List α} {g : α → β} {i : Nat} {y : β} (h : (l.map g)[i]? = some y) : ∃ x, l[i]? = some x ∧ y = g x := by
  rw [List.getElem?_map] at h
  cases e : l[i]? with
  | none => rw [e] at h; cases h
  | some x => rw [e] at h; exact ⟨x, rfl, (Option.some.inj h).symm⟩
/-- [e for x in a tuple (a list) of data if ..] -/
theorem lc_turn {K : PySem.W.Frag} {H1 H' : Hp} {Dl : Addr} {ys : List V} {i : Nat} {d : α} {σ2 : St} {tt : TT} {te : TE}
    (hd : as[i]? = some d) (hsz : as.length ≤ 8000000) (n1 : H1 Dl = none) (sm : Same H1 H') (hy : H' Dl = some (.lst ys)) (al : AtL K H' (((as.take i).filter t).map f) ys) (nl : ∀ d ∈ as, noL (f d) = true)
    (ht : ∀ Q : Bool → Hp → Prop, (∀ H2, Same H' H2 → Q (t d) H2) → tt σ2 H' Q) (he : t d = true → ∀ H2, Same H' H2 → ∀ Q : VK, (∀ v H3, Same H2 H3 → At K H3 (f d) v → Q v H3) → te σ2 H2 Q) :
    tt σ2 H' fun b H3 => if b = true then te σ2 H3 fun y H4 => ∃ acc, H4 Dl = some (.lst acc) ∧ acc.length < sizeLine ∧
        (fun i H' => Same H1 H' ∧ ∃ ys, H' Dl = some (.lst ys) ∧ AtL K H' (((as.take i).filter t).map f) ys) (i + 1) (upd H4 Dl (.lst (acc ++ [y])))
      else (fun i H' => Same H1 H' ∧ ∃ ys, H' Dl = some (.lst ys) ∧ AtL K H' (((as.take i).filter t).map f) ys) (i + 1) H3 := by
  refine ht _ fun H2 e2 => ?_
  have tk := filter_snoc hd
  cases ht' : t d with
  | false =>
    refine iteF ⟨sm.trans e2, ys, e2 _ _ hy, ?_⟩
    rw [tk, List.filter_append]
    simp only [List.filter_cons, ht', List.filter_nil, List.append_nil, Bool.false_eq_true, if_false]
    exact al.same e2
  | true =>
    refine iteT (he ht' H2 e2 _ fun v H3 e3 a3 => ?_)
    have hy3 := e3 _ _ (e2 _ _ hy)
    refine ⟨ys, hy3, ?_, same_mut (sm.trans (e2.trans e3)) n1, ys ++ [v], upd_same, ?_⟩
    · have h1 := al.length
      have h2 : (((as.take i).filter t).map f).length ≤ as.length := by
        rw [List.length_map]
        exact Nat.le_trans (List.length_filter_le _ _) (by rw [List.length_take]; exact Nat.min_le_right _ _)
      rw [h1]
      exact Nat.lt_of_le_of_lt (Nat.le_trans h2 hsz) (by decide)
    · rw [tk, List.filter_append, List.map_append]
      have es : List.map f (List.filter t [d]) = [f d] := by simp [List.filter_cons, ht']
      rw [es]
      have nl1 : noLs (((as.take i).filter t).map f) = true := noLs_mem.mpr fun e he => by
        obtain ⟨c, hc, rfl⟩ := List.mem_map.mp he
        exact nl c (List.mem_of_mem_take (List.mem_filter.mp hc).1)
      exact AtL.append ((al.same (e2.trans e3)).ties (Ties.lst hy3) nl1) (AtL.cons (a3.ties (Ties.lst hy3) (nl d (List.mem_of_getElem? hd))) AtL.nil)


/-- the element's, the test's reading in a comprehension: the slots by the item -/
def teX (K : PySem.W.Frag) (as : List α) (r : α → Kn) (f : α → D) (t : α → Bool) : TE := tDx K fun ρ' e => ∃ d ∈ as, t d = true ∧ ρ' = r d ∧ e = f d
def ttX (K : PySem.W.Frag) (as : List α) (r : α → Kn) (t : α → Bool) : TT := tTx K fun ρ' b => ∃ d ∈ as, ρ' = r d ∧ b = t d
def K2 (ρ : Kn) (i j : Nat) (d e : D) : Kn := (ρ.set i (some d)).set j (some e)
theorem gPair_ok {K : PySem.W.Frag} {i j : Nat} {d e : D} {v : V} {σ : St} {H : Hp} {ρ : Kn} {Q : St → Hp → Prop} (ea : EA K H σ ρ) (a : At K H (.tup [d, e]) v)
    (q : ∀ x y, EA K H ((σ.set i (some x)).set j (some y)) (K2 ρ i j d e) → Q ((σ.set i (some x)).set j (some y)) H) : gTup K 2 (gSets [i, j]) v σ H Q := by
  simp only [At] at a
  obtain ⟨c, xs, rfl, hx, al⟩ := a
  simp only [AtL] at al
  obtain ⟨x, r, rfl, h2, y, r2, rfl, h3, rfl⟩ := al
  exact ⟨c, _, rfl, hx, rfl, x, _, rfl, y, _, rfl, rfl, q x y ((ea.set h2).set h3)⟩


theorem rd_lcN {K : PySem.W.Frag} (j : Nat) (as : List α) (g : α → D) (f : α → D) (t : α → Bool) (nl : ∀ d ∈ as, noL (f d) = true) (hw : ∀ (σ : St) v, wipe ((wipe σ (own.map (·.2))).set j v) (own.map (·.2)) = wipe σ (own.map (·.2))) (hsz : as.length ≤ 8000000)
    {σ : St} {H : Hp} {Q : VK} (q : tDn K ρ ((as.filter t).map f) σ H Q) : tLc (iTup K (tD K ρ (.tup (as.map g)))) (gName j) (ttX K as (fun d => ((wipeK ρ (own.map (·.2))).set j (some (g d)))) t) (teX K as (fun d => ((wipeK ρ (own.map (·.2))).set j (some (g d)))) f t) (own.map (·.2)) σ H Q := by
  refine ⟨q.1, fun v H1 e1 a1 => ?_⟩
  simp only [At] at a1
  obtain ⟨a, xs, rfl, hx, al⟩ := a1
  refine ⟨a, rfl, ⟨xs, hx⟩, fun Dl hD => lc_tup (xs := xs) (fun i H' => Same H1 H' ∧ ∃ ys, H' Dl = some (.lst ys) ∧ AtL K H' (((as.take i).filter t).map f) ys) ⟨same_new hD, [], upd_same, AtL.nil⟩ (fun i H' _ p => sqT_same p.1 hx) (fun i' x H' hi' p => ?_) (fun H' p => ?_)⟩
  · obtain ⟨sm, ys, hy, al2⟩ := p
    obtain ⟨d0, hd0, ad⟩ := al.get' hi'
    obtain ⟨d, hd, rfl⟩ := get_map hd0
    have ea : EA K H' ((wipe σ (own.map (·.2))).set j (some x)) ((wipeK ρ (own.map (·.2))).set j (some (g d))) := ((q.1.same (e1.trans sm)).wipe _).set (ad.same sm)
    exact ⟨hw σ _, lc_turn hd hsz hD sm hy al2 nl (fun Q' k => ⟨_, _, ⟨d, List.mem_of_getElem? hd, rfl, rfl⟩, ea, k⟩) fun hT H2 e2 Q' k => ⟨_, _, ⟨d, List.mem_of_getElem? hd, hT, rfl, rfl⟩, ea.same e2, k⟩⟩
  · obtain ⟨sm, ys, hy, al2⟩ := p
    rw [al.length, List.length_map, List.take_length] at al2
    exact q.2 _ _ _ (Same.free e1 hD) (e1.trans sm) hy al2
theorem pdl_lcN (j : Nat) (as : List α) (g : α → D) (f : α → D) (t : α → Bool) (hc : X.calm = true) (hN : X.N.Nodup) (hi : PD X ρ iter (.tup (as.map g))) (ok : BlkOk X.N X.env.scope scope own)
    (hg : ∀ (s : Shared) (H : Hp) (C : Addr) (cl : List (Str × Addr)) (fp : List Addr), PG (X.blk s H scope (compEnvC scope cl C X.env) fp) tg (gName j))
    (ht : ∀ d ∈ as, ∀ (s : Shared) (H : Hp) (C : Addr) (cl : List (Str × Addr)) (fp : List Addr), PTs (X.blk s H scope (compEnvC scope cl C X.env) fp) ifs (tDT X.K ((wipeK ρ (own.map (·.2))).set j (some (g d))) (t d)))
    (he : ∀ d ∈ as, t d = true → ∀ (s : Shared) (H : Hp) (C : Addr) (cl : List (Str × Addr)) (fp : List Addr), PD (X.blk s H scope (compEnvC scope cl C X.env) fp) ((wipeK ρ (own.map (·.2))).set j (some (g d))) elt (f d))
    (nl : ∀ d ∈ as, noL (f d) = true) (hw : ∀ (σ : St) v, wipe ((wipe σ (own.map (·.2))).set j v) (own.map (·.2)) = wipe σ (own.map (·.2))) (hsz : as.length ≤ 8000000 := by exact Nat.le_of_ble_eq_true rfl) (hs : ∀ x, foldedSetIterable iter X.env x = pure x := by intro _; rfl) :
    PDL X ρ (.ListComp elt [⟨tg, iter, ifs, 0⟩] scope pos) ((as.filter t).map f) :=
  pe_w (pe_lc (tt := ttX X.K as (fun d => ((wipeK ρ (own.map (·.2))).set j (some (g d)))) t) (te := teX X.K as (fun d => ((wipeK ρ (own.map (·.2))).set j (some (g d)))) f t) hc hN (pi_tup hi) ok hg (fun s H C cl fp => pts_x fun ρ' b ⟨d, hd, e1, e2⟩ => by subst e1 e2; exact ht d hd s H C cl fp) (fun s H C cl fp => pe_x fun ρ' e ⟨d, hd, h1, e1, e2⟩ => by subst e1 e2; exact he d hd h1 s H C cl fp) hs) fun σ H Q q => rd_lcN j as g f t nl hw hsz q
theorem sn_lcN (ix : Nat) (j : Nat) (as : List α) (g : α → D) (f : α → D) (t : α → Bool) (hc : X.calm = true) (hN : X.N.Nodup) (hi : PD X ρ iter (.tup (as.map g))) (ok : BlkOk X.N X.env.scope scope own)
    (hg : ∀ (s : Shared) (H : Hp) (C : Addr) (cl : List (Str × Addr)) (fp : List Addr), PG (X.blk s H scope (compEnvC scope cl C X.env) fp) tg (gName j))
    (ht : ∀ d ∈ as, ∀ (s : Shared) (H : Hp) (C : Addr) (cl : List (Str × Addr)) (fp : List Addr), PTs (X.blk s H scope (compEnvC scope cl C X.env) fp) ifs (tDT X.K ((wipeK ρ (own.map (·.2))).set j (some (g d))) (t d)))
    (he : ∀ d ∈ as, t d = true → ∀ (s : Shared) (H : Hp) (C : Addr) (cl : List (Str × Addr)) (fp : List Addr), PD (X.blk s H scope (compEnvC scope cl C X.env) fp) ((wipeK ρ (own.map (·.2))).set j (some (g d))) elt (f d))
    (nl : ∀ d ∈ as, noL (f d) = true) (hw : ∀ (σ : St) v, wipe ((wipe σ (own.map (·.2))).set j v) (own.map (·.2)) = wipe σ (own.map (·.2))) (hy : X.N[ix]? = some y := by rfl) (hyl : X.env.scope.names.lookup y = some .local := by rfl) (hsw : swapsWith (.ListComp elt [⟨tg, iter, ifs, 0⟩] scope pos) (some (.Name y py)) spos.line X.env = pure true := by exact sw_true rfl rfl rfl (by decide +kernel)) (hsz : as.length ≤ 8000000 := by exact Nat.le_of_ble_eq_true rfl) (hs : ∀ x, foldedSetIterable iter X.env x = pure x := by intro _; rfl) :
    SN1 X ρ (.Assign [.Name y py] (.ListComp elt [⟨tg, iter, ifs, 0⟩] scope pos) spos) (ρ.set ix (some (.lst ((as.filter t).map f)))) :=
  ps_w (ps_setLc (tt := ttX X.K as (fun d => ((wipeK ρ (own.map (·.2))).set j (some (g d)))) t) (te := teX X.K as (fun d => ((wipeK ρ (own.map (·.2))).set j (some (g d)))) f t) hc hN hy hyl hsw (pi_tup hi) ok hg (fun s H C cl fp => pts_x fun ρ' b ⟨d, hd, e1, e2⟩ => by subst e1 e2; exact ht d hd s H C cl fp) (fun s H C cl fp => pe_x fun ρ' e ⟨d, hd, h1, e1, e2⟩ => by subst e1 e2; exact he d hd h1 s H C cl fp) hs) fun D σ H q => rd_lcN j as g f t nl hw hsz (Q := fun x H1 => gName ix x σ H1 D.nx) ⟨q.1, fun p xs H' n e hp al => q.2 _ H' e ((q.1.same e).set (at_lst (SqL.of hp) al))⟩

theorem rd_lcL {K : PySem.W.Frag} (j : Nat) (as : List α) (g : α → D) (f : α → D) (t : α → Bool) (nl : ∀ d ∈ as, noL (f d) = true) (hw : ∀ (σ : St) v, wipe ((wipe σ (own.map (·.2))).set j v) (own.map (·.2)) = wipe σ (own.map (·.2))) (hsz : as.length ≤ 8000000)
    {σ : St} {H : Hp} {Q : VK} (q : tDn K ρ ((as.filter t).map f) σ H Q) : tLc (iList K (tD K ρ (.lst (as.map g)))) (gName j) (ttX K as (fun d => ((wipeK ρ (own.map (·.2))).set j (some (g d)))) t) (teX K as (fun d => ((wipeK ρ (own.map (·.2))).set j (some (g d)))) f t) (own.map (·.2)) σ H Q := by
  refine ⟨q.1, fun v H1 e1 a1 => ?_⟩
  simp only [At] at a1
  obtain ⟨a, xs, rfl, hx, al⟩ := a1
  refine ⟨a, rfl, ⟨xs, hx⟩, fun Dl hD => lc_list (xs := xs) (fun i H' => Same H1 H' ∧ ∃ ys, H' Dl = some (.lst ys) ∧ AtL K H' (((as.take i).filter t).map f) ys) ⟨same_new hD, [], upd_same, AtL.nil⟩ (fun i H' _ p => p.1.seq hx) (fun i' x H' hi' p => ?_) (fun H' p => ?_)⟩
  · obtain ⟨sm, ys, hy, al2⟩ := p
    obtain ⟨d0, hd0, ad⟩ := al.get' hi'
    obtain ⟨d, hd, rfl⟩ := get_map hd0
    have ea : EA K H' ((wipe σ (own.map (·.2))).set j (some x)) ((wipeK ρ (own.map (·.2))).set j (some (g d))) := ((q.1.same (e1.trans sm)).wipe _).set (ad.same sm)
    exact ⟨hw σ _, lc_turn hd hsz hD sm hy al2 nl (fun Q' k => ⟨_, _, ⟨d, List.mem_of_getElem? hd, rfl, rfl⟩, ea, k⟩) fun hT H2 e2 Q' k => ⟨_, _, ⟨d, List.mem_of_getElem? hd, hT, rfl, rfl⟩, ea.same e2, k⟩⟩
  · obtain ⟨sm, ys, hy, al2⟩ := p
    rw [al.length, List.length_map, List.take_length] at al2
    exact q.2 _ _ _ (Same.free e1 hD) (e1.trans sm) hy al2
theorem pdl_lcL (j : Nat) (as : List α) (g : α → D) (f : α → D) (t : α → Bool) (hc : X.calm = true) (hN : X.N.Nodup) (hi : PD X ρ iter (.lst (as.map g))) (ok : BlkOk X.N X.env.scope scope own)
    (hg : ∀ (s : Shared) (H : Hp) (C : Addr) (cl : List (Str × Addr)) (fp : List Addr), PG (X.blk s H scope (compEnvC scope cl C X.env) fp) tg (gName j))
    (ht : ∀ d ∈ as, ∀ (s : Shared) (H : Hp) (C : Addr) (cl : List (Str × Addr)) (fp : List Addr), PTs (X.blk s H scope (compEnvC scope cl C X.env) fp) ifs (tDT X.K ((wipeK ρ (own.map (·.2))).set j (some (g d))) (t d)))
    (he : ∀ d ∈ as, t d = true → ∀ (s : Shared) (H : Hp) (C : Addr) (cl : List (Str × Addr)) (fp : List Addr), PD (X.blk s H scope (compEnvC scope cl C X.env) fp) ((wipeK ρ (own.map (·.2))).set j (some (g d))) elt (f d))
    (nl : ∀ d ∈ as, noL (f d) = true) (hw : ∀ (σ : St) v, wipe ((wipe σ (own.map (·.2))).set j v) (own.map (·.2)) = wipe σ (own.map (·.2))) (hsz : as.length ≤ 8000000 := by exact Nat.le_of_ble_eq_true rfl) (hs : ∀ x, foldedSetIterable iter X.env x = pure x := by intro _; rfl) :
    PDL X ρ (.ListComp elt [⟨tg, iter, ifs, 0⟩] scope pos) ((as.filter t).map f) :=
  pe_w (pe_lc (tt := ttX X.K as (fun d => ((wipeK ρ (own.map (·.2))).set j (some (g d)))) t) (te := teX X.K as (fun d => ((wipeK ρ (own.map (·.2))).set j (some (g d)))) f t) hc hN (pi_list hi) ok hg (fun s H C cl fp => pts_x fun ρ' b ⟨d, hd, e1, e2⟩ => by subst e1 e2; exact ht d hd s H C cl fp) (fun s H C cl fp => pe_x fun ρ' e ⟨d, hd, h1, e1, e2⟩ => by subst e1 e2; exact he d hd h1 s H C cl fp) hs) fun σ H Q q => rd_lcL j as g f t nl hw hsz q
theorem sn_lcL (ix : Nat) (j : Nat) (as : List α) (g : α → D) (f : α → D) (t : α → Bool) (hc : X.calm = true) (hN : X.N.Nodup) (hi : PD X ρ iter (.lst (as.map g))) (ok : BlkOk X.N X.env.scope scope own)
    (hg : ∀ (s : Shared) (H : Hp) (C : Addr) (cl : List (Str × Addr)) (fp : List Addr), PG (X.blk s H scope (compEnvC scope cl C X.env) fp) tg (gName j))
    (ht : ∀ d ∈ as, ∀ (s : Shared) (H : Hp) (C : Addr) (cl : List (Str × Addr)) (fp : List Addr), PTs (X.blk s H scope (compEnvC scope cl C X.env) fp) ifs (tDT X.K ((wipeK ρ (own.map (·.2))).set j (some (g d))) (t d)))
    (he : ∀ d ∈ as, t d = true → ∀ (s : Shared) (H : Hp) (C : Addr) (cl : List (Str × Addr)) (fp : List Addr), PD (X.blk s H scope (compEnvC scope cl C X.env) fp) ((wipeK ρ (own.map (·.2))).set j (some (g d))) elt (f d))
    (nl : ∀ d ∈ as, noL (f d) = true) (hw : ∀ (σ : St) v, wipe ((wipe σ (own.map (·.2))).set j v) (own.map (·.2)) = wipe σ (own.map (·.2))) (hy : X.N[ix]? = some y := by rfl) (hyl : X.env.scope.names.lookup y = some .local := by rfl) (hsw : swapsWith (.ListComp elt [⟨tg, iter, ifs, 0⟩] scope pos) (some (.Name y py)) spos.line X.env = pure true := by exact sw_true rfl rfl rfl (by decide +kernel)) (hsz : as.length ≤ 8000000 := by exact Nat.le_of_ble_eq_true rfl) (hs : ∀ x, foldedSetIterable iter X.env x = pure x := by intro _; rfl) :
    SN1 X ρ (.Assign [.Name y py] (.ListComp elt [⟨tg, iter, ifs, 0⟩] scope pos) spos) (ρ.set ix (some (.lst ((as.filter t).map f)))) :=
  ps_w (ps_setLc (tt := ttX X.K as (fun d => ((wipeK ρ (own.map (·.2))).set j (some (g d)))) t) (te := teX X.K as (fun d => ((wipeK ρ (own.map (·.2))).set j (some (g d)))) f t) hc hN hy hyl hsw (pi_list hi) ok hg (fun s H C cl fp => pts_x fun ρ' b ⟨d, hd, e1, e2⟩ => by subst e1 e2; exact ht d hd s H C cl fp) (fun s H C cl fp => pe_x fun ρ' e ⟨d, hd, h1, e1, e2⟩ => by subst e1 e2; exact he d hd h1 s H C cl fp) hs) fun D σ H q => rd_lcL j as g f t nl hw hsz (Q := fun x H1 => gName ix x σ H1 D.nx) ⟨q.1, fun p xs H' n e hp al => q.2 _ H' e ((q.1.same e).set (at_lst (SqL.of hp) al))⟩

theorem rd_lc2 {K : PySem.W.Frag} (i j : Nat) (as : List α) (g1 g2 : α → D) (f : α → D) (t : α → Bool) (nl : ∀ d ∈ as, noL (f d) = true) (hw : ∀ (σ : St) v u, wipe (((wipe σ (own.map (·.2))).set i v).set j u) (own.map (·.2)) = wipe σ (own.map (·.2))) (hsz : as.length ≤ 8000000)
    {σ : St} {H : Hp} {Q : VK} (q : tDn K ρ ((as.filter t).map f) σ H Q) : tLc (iTup K (tD K ρ (.tup (as.map fun x => .tup [g1 x, g2 x])))) (gTup K 2 (gSets [i, j])) (ttX K as (fun d => (K2 (wipeK ρ (own.map (·.2))) i j (g1 d) (g2 d))) t) (teX K as (fun d => (K2 (wipeK ρ (own.map (·.2))) i j (g1 d) (g2 d))) f t) (own.map (·.2)) σ H Q := by
  refine ⟨q.1, fun v H1 e1 a1 => ?_⟩
  simp only [At] at a1
  obtain ⟨a, xs, rfl, hx, al⟩ := a1
  refine ⟨a, rfl, ⟨xs, hx⟩, fun Dl hD => lc_tup (xs := xs) (fun i H' => Same H1 H' ∧ ∃ ys, H' Dl = some (.lst ys) ∧ AtL K H' (((as.take i).filter t).map f) ys) ⟨same_new hD, [], upd_same, AtL.nil⟩ (fun i H' _ p => sqT_same p.1 hx) (fun i' x H' hi' p => ?_) (fun H' p => ?_)⟩
  · obtain ⟨sm, ys, hy, al2⟩ := p
    obtain ⟨d0, hd0, ad⟩ := al.get' hi'
    obtain ⟨d, hd, rfl⟩ := get_map hd0
    have hm := List.mem_of_getElem? hd
    refine gPair_ok ((q.1.same (e1.trans sm)).wipe _) (ad.same sm) fun u u2 ea => ?_
    exact ⟨hw σ _ _, lc_turn hd hsz hD sm hy al2 nl (fun Q' k => ⟨_, _, ⟨d, hm, rfl, rfl⟩, ea, k⟩) fun hT H2 e2 Q' k => ⟨_, _, ⟨d, hm, hT, rfl, rfl⟩, ea.same e2, k⟩⟩
  · obtain ⟨sm, ys, hy, al2⟩ := p
    rw [al.length, List.length_map, List.take_length] at al2
    exact q.2 _ _ _ (Same.free e1 hD) (e1.trans sm) hy al2
theorem pdl_lc2 (i j : Nat) (as : List α) (g1 g2 : α → D) (f : α → D) (t : α → Bool) (hc : X.calm = true) (hN : X.N.Nodup) (hi : PD X ρ iter (.tup (as.map fun x => .tup [g1 x, g2 x]))) (ok : BlkOk X.N X.env.scope scope own)
    (hg : ∀ (s : Shared) (H : Hp) (C : Addr) (cl : List (Str × Addr)) (fp : List Addr), PG (X.blk s H scope (compEnvC scope cl C X.env) fp) tg (gTup X.K 2 (gSets [i, j])))
    (ht : ∀ d ∈ as, ∀ (s : Shared) (H : Hp) (C : Addr) (cl : List (Str × Addr)) (fp : List Addr), PTs (X.blk s H scope (compEnvC scope cl C X.env) fp) ifs (tDT X.K (K2 (wipeK ρ (own.map (·.2))) i j (g1 d) (g2 d)) (t d)))
    (he : ∀ d ∈ as, t d = true → ∀ (s : Shared) (H : Hp) (C : Addr) (cl : List (Str × Addr)) (fp : List Addr), PD (X.blk s H scope (compEnvC scope cl C X.env) fp) (K2 (wipeK ρ (own.map (·.2))) i j (g1 d) (g2 d)) elt (f d))
    (nl : ∀ d ∈ as, noL (f d) = true) (hw : ∀ (σ : St) v u, wipe (((wipe σ (own.map (·.2))).set i v).set j u) (own.map (·.2)) = wipe σ (own.map (·.2))) (hsz : as.length ≤ 8000000 := by exact Nat.le_of_ble_eq_true rfl) (hs : ∀ x, foldedSetIterable iter X.env x = pure x := by intro _; rfl) :
    PDL X ρ (.ListComp elt [⟨tg, iter, ifs, 0⟩] scope pos) ((as.filter t).map f) :=
  pe_w (pe_lc (tt := ttX X.K as (fun d => (K2 (wipeK ρ (own.map (·.2))) i j (g1 d) (g2 d))) t) (te := teX X.K as (fun d => (K2 (wipeK ρ (own.map (·.2))) i j (g1 d) (g2 d))) f t) hc hN (pi_tup hi) ok hg (fun s H C cl fp => pts_x fun ρ' b ⟨d, hd, e1, e2⟩ => by subst e1 e2; exact ht d hd s H C cl fp) (fun s H C cl fp => pe_x fun ρ' e ⟨d, hd, h1, e1, e2⟩ => by subst e1 e2; exact he d hd h1 s H C cl fp) hs) fun σ H Q q => rd_lc2 i j as g1 g2 f t nl hw hsz q
theorem sn_lc2 (ix : Nat) (i j : Nat) (as : List α) (g1 g2 : α → D) (f : α → D) (t : α → Bool) (hc : X.calm = true) (hN : X.N.Nodup) (hi : PD X ρ iter (.tup (as.map fun x => .tup [g1 x, g2 x]))) (ok : BlkOk X.N X.env.scope scope own)
    (hg : ∀ (s : Shared) (H : Hp) (C : Addr) (cl : List (Str × Addr)) (fp : List Addr), PG (X.blk s H scope (compEnvC scope cl C X.env) fp) tg (gTup X.K 2 (gSets [i, j])))
    (ht : ∀ d ∈ as, ∀ (s : Shared) (H : Hp) (C : Addr) (cl : List (Str × Addr)) (fp : List Addr), PTs (X.blk s H scope (compEnvC scope cl C X.env) fp) ifs (tDT X.K (K2 (wipeK ρ (own.map (·.2))) i j (g1 d) (g2 d)) (t d)))
    (he : ∀ d ∈ as, t d = true → ∀ (s : Shared) (H : Hp) (C : Addr) (cl : List (Str × Addr)) (fp : List Addr), PD (X.blk s H scope (compEnvC scope cl C X.env) fp) (K2 (wipeK ρ (own.map (·.2))) i j (g1 d) (g2 d)) elt (f d))
    (nl : ∀ d ∈ as, noL (f d) = true) (hw : ∀ (σ : St) v u, wipe (((wipe σ (own.map (·.2))).set i v).set j u) (own.map (·.2)) = wipe σ (own.map (·.2))) (hy : X.N[ix]? = some y := by rfl) (hyl : X.env.scope.names.lookup y = some .local := by rfl) (hsw : swapsWith (.ListComp elt [⟨tg, iter, ifs, 0⟩] scope pos) (some (.Name y py)) spos.line X.env = pure true := by exact sw_true rfl rfl rfl (by decide +kernel)) (hsz : as.length ≤ 8000000 := by exact Nat.le_of_ble_eq_true rfl) (hs : ∀ x, foldedSetIterable iter X.env x = pure x := by intro _; rfl) :
    SN1 X ρ (.Assign [.Name y py] (.ListComp elt [⟨tg, iter, ifs, 0⟩] scope pos) spos) (ρ.set ix (some (.lst ((as.filter t).map f)))) :=
  ps_w (ps_setLc (tt := ttX X.K as (fun d => (K2 (wipeK ρ (own.map (·.2))) i j (g1 d) (g2 d))) t) (te := teX X.K as (fun d => (K2 (wipeK ρ (own.map (·.2))) i j (g1 d) (g2 d))) f t) hc hN hy hyl hsw (pi_tup hi) ok hg (fun s H C cl fp => pts_x fun ρ' b ⟨d, hd, e1, e2⟩ => by subst e1 e2; exact ht d hd s H C cl fp) (fun s H C cl fp => pe_x fun ρ' e ⟨d, hd, h1, e1, e2⟩ => by subst e1 e2; exact he d hd h1 s H C cl fp) hs) fun D σ H q => rd_lc2 i j as g1 g2 f t nl hw hsz (Q := fun x H1 => gName ix x σ H1 D.nx) ⟨q.1, fun p xs H' n e hp al => q.2 _ H' e ((q.1.same e).set (at_lst (SqL.of hp) al))⟩

theorem rd_lc2L {K : PySem.W.Frag} (i j : Nat) (as : List α) (g1 g2 : α → D) (f : α → D) (t : α → Bool) (nl : ∀ d ∈ as, noL (f d) = true) (hw : ∀ (σ : St) v u, wipe (((wipe σ (own.map (·.2))).set i v).set j u) (own.map (·.2)) = wipe σ (own.map (·.2))) (hsz : as.length ≤ 8000000)
    {σ : St} {H : Hp} {Q : VK} (q : tDn K ρ ((as.filter t).map f) σ H Q) : tLc (iList K (tD K ρ (.lst (as.map fun x => .tup [g1 x, g2 x])))) (gTup K 2 (gSets [i, j])) (ttX K as (fun d => (K2 (wipeK ρ (own.map (·.2))) i j (g1 d) (g2 d))) t) (teX K as (fun d => (K2 (wipeK ρ (own.map (·.2))) i j (g1 d) (g2 d))) f t) (own.map (·.2)) σ H Q := by
  refine ⟨q.1, fun v H1 e1 a1 => ?_⟩
  simp only [At] at a1
  obtain ⟨a, xs, rfl, hx, al⟩ := a1
  refine ⟨a, rfl, ⟨xs, hx⟩, fun Dl hD => lc_list (xs := xs) (fun i H' => Same H1 H' ∧ ∃ ys, H' Dl = some (.lst ys) ∧ AtL K H' (((as.take i).filter t).map f) ys) ⟨same_new hD, [], upd_same, AtL.nil⟩ (fun i H' _ p => p.1.seq hx) (fun i' x H' hi' p => ?_) (fun H' p => ?_)⟩
  · obtain ⟨sm, ys, hy, al2⟩ := p
    obtain ⟨d0, hd0, ad⟩ := al.get' hi'
    obtain ⟨d, hd, rfl⟩ := get_map hd0
    have hm := List.mem_of_getElem? hd
    refine gPair_ok ((q.1.same (e1.trans sm)).wipe _) (ad.same sm) fun u u2 ea => ?_
    exact ⟨hw σ _ _, lc_turn hd hsz hD sm hy al2 nl (fun Q' k => ⟨_, _, ⟨d, hm, rfl, rfl⟩, ea, k⟩) fun hT H2 e2 Q' k => ⟨_, _, ⟨d, hm, hT, rfl, rfl⟩, ea.same e2, k⟩⟩
  · obtain ⟨sm, ys, hy, al2⟩ := p
    rw [al.length, List.length_map, List.take_length] at al2
    exact q.2 _ _ _ (Same.free e1 hD) (e1.trans sm) hy al2
theorem pdl_lc2L (i j : Nat) (as : List α) (g1 g2 : α → D) (f : α → D) (t : α → Bool) (hc : X.calm = true) (hN : X.N.Nodup) (hi : PD X ρ iter (.lst (as.map fun x => .tup [g1 x, g2 x]))) (ok : BlkOk X.N X.env.scope scope own)
    (hg : ∀ (s : Shared) (H : Hp) (C : Addr) (cl : List (Str × Addr)) (fp : List Addr), PG (X.blk s H scope (compEnvC scope cl C X.env) fp) tg (gTup X.K 2 (gSets [i, j])))
    (ht : ∀ d ∈ as, ∀ (s : Shared) (H : Hp) (C : Addr) (cl : List (Str × Addr)) (fp : List Addr), PTs (X.blk s H scope (compEnvC scope cl C X.env) fp) ifs (tDT X.K (K2 (wipeK ρ (own.map (·.2))) i j (g1 d) (g2 d)) (t d)))
    (he : ∀ d ∈ as, t d = true → ∀ (s : Shared) (H : Hp) (C : Addr) (cl : List (Str × Addr)) (fp : List Addr), PD (X.blk s H scope (compEnvC scope cl C X.env) fp) (K2 (wipeK ρ (own.map (·.2))) i j (g1 d) (g2 d)) elt (f d))
    (nl : ∀ d ∈ as, noL (f d) = true) (hw : ∀ (σ : St) v u, wipe (((wipe σ (own.map (·.2))).set i v).set j u) (own.map (·.2)) = wipe σ (own.map (·.2))) (hsz : as.length ≤ 8000000 := by exact Nat.le_of_ble_eq_true rfl) (hs : ∀ x, foldedSetIterable iter X.env x = pure x := by intro _; rfl) :
    PDL X ρ (.ListComp elt [⟨tg, iter, ifs, 0⟩] scope pos) ((as.filter t).map f) :=
  pe_w (pe_lc (tt := ttX X.K as (fun d => (K2 (wipeK ρ (own.map (·.2))) i j (g1 d) (g2 d))) t) (te := teX X.K as (fun d => (K2 (wipeK ρ (own.map (·.2))) i j (g1 d) (g2 d))) f t) hc hN (pi_list hi) ok hg (fun s H C cl fp => pts_x fun ρ' b ⟨d, hd, e1, e2⟩ => by subst e1 e2; exact ht d hd s H C cl fp) (fun s H C cl fp => pe_x fun ρ' e ⟨d, hd, h1, e1, e2⟩ => by subst e1 e2; exact he d hd h1 s H C cl fp) hs) fun σ H Q q => rd_lc2L i j as g1 g2 f t nl hw hsz q
theorem sn_lc2L (ix : Nat) (i j : Nat) (as : List α) (g1 g2 : α → D) (f : α → D) (t : α → Bool) (hc : X.calm = true) (hN : X.N.Nodup) (hi : PD X ρ iter (.lst (as.map fun x => .tup [g1 x, g2 x]))) (ok : BlkOk X.N X.env.scope scope own)
    (hg : ∀ (s : Shared) (H : Hp) (C : Addr) (cl : List (Str × Addr)) (fp : List Addr), PG (X.blk s H scope (compEnvC scope cl C X.env) fp) tg (gTup X.K 2 (gSets [i, j])))
    (ht : ∀ d ∈ as, ∀ (s : Shared) (H : Hp) (C : Addr) (cl : List (Str × Addr)) (fp : List Addr), PTs (X.blk s H scope (compEnvC scope cl C X.env) fp) ifs (tDT X.K (K2 (wipeK ρ (own.map (·.2))) i j (g1 d) (g2 d)) (t d)))
    (he : ∀ d ∈ as, t d = true → ∀ (s : Shared) (H : Hp) (C : Addr) (cl : List (Str × Addr)) (fp : List Addr), PD (X.blk s H scope (compEnvC scope cl C X.env) fp) (K2 (wipeK ρ (own.map (·.2))) i j (g1 d) (g2 d)) elt (f d))
    (nl : ∀ d ∈ as, noL (f d) = true) (hw : ∀ (σ : St) v u, wipe (((wipe σ (own.map (·.2))).set i v).set j u) (own.map (·.2)) = wipe σ (own.map (·.2))) (hy : X.N[ix]? = some y := by rfl) (hyl : X.env.scope.names.lookup y = some .local := by rfl) (hsw : swapsWith (.ListComp elt [⟨tg, iter, ifs, 0⟩] scope pos) (some (.Name y py)) spos.line X.env = pure true := by exact sw_true rfl rfl rfl (by decide +kernel)) (hsz : as.length ≤ 8000000 := by exact Nat.le_of_ble_eq_true rfl) (hs : ∀ x, foldedSetIterable iter X.env x = pure x := by intro _; rfl) :
    SN1 X ρ (.Assign [.Name y py] (.ListComp elt [⟨tg, iter, ifs, 0⟩] scope pos) spos) (ρ.set ix (some (.lst ((as.filter t).map f)))) :=
  ps_w (ps_setLc (tt := ttX X.K as (fun d => (K2 (wipeK ρ (own.map (·.2))) i j (g1 d) (g2 d))) t) (te := teX X.K as (fun d => (K2 (wipeK ρ (own.map (·.2))) i j (g1 d) (g2 d))) f t) hc hN hy hyl hsw (pi_list hi) ok hg (fun s H C cl fp => pts_x fun ρ' b ⟨d, hd, e1, e2⟩ => by subst e1 e2; exact ht d hd s H C cl fp) (fun s H C cl fp => pe_x fun ρ' e ⟨d, hd, h1, e1, e2⟩ => by subst e1 e2; exact he d hd h1 s H C cl fp) hs) fun D σ H q => rd_lc2L i j as g1 g2 f t nl hw hsz (Q := fun x H1 => gName ix x σ H1 D.nx) ⟨q.1, fun p xs H' n e hp al => q.2 _ H' e ((q.1.same e).set (at_lst (SqL.of hp) al))⟩
end

/-! ### a def's promise from its body -/
def DefAt (K : PySem.W.Frag) (mg : Str → Option Value) (x : Str) (st : Stmt) : Prop := ∃ f fd, FunD K x x (defArgs st) (defBody st) (defScope st) [] [] f fd ∧ mg x = some (.ref f)
section
variable {P : Program} {w : World} {K : PySem.W.Frag} {mg : Str → Option Value} {base : Heap} {x : Str} {st : Stmt} {N ps : List Str} {k : Nat} {sp : Sp} {R : List D → D → Prop}
abbrev CxD (P : Program) (w : World) (K : PySem.W.Frag) (mg : Str → Option Value) (base : Heap) (N : List Str) (x : Str) (st : Stmt) (f : Addr) (cdv : Value) (A : Around) (outer : List Env) (s : Shared) (H : Hp) (E : XK) : Cx :=
  (cxOf CX0 P w K mg base N x (defScope st) f cdv A outer s H E).nox
theorem dok (T : DefAt K mg x st) (S : FnScope N ps (defScope st)) (len : ∀ vs H Q E, sp vs H Q E → vs.length = ps.length)
    (hb : ∀ (kV doc pm : Value) (an : Option Addr) (cdv ct : Value) (us : List Value), us.length = ps.length → bindArgs (PySem.W.fnOf x x (defArgs st) (defBody st) (defScope st) .none kV doc pm an cdv ct) ⟨us, []⟩ = pure (ps.zip us))
    (h : ∀ (f : Addr) (cdv : Value) (A : Around) (outer : List Env) (s : Shared) (H : Hp) (vs : List V) (Q : VK) (E : XK), Room k (A.deeper (envOfC x (defScope st) s.heap.objs.size f cdv)) → sp vs H Q E →
      ∃ t, PSs (CxD P w K mg base N x st f cdv A outer s H E) (defBody st) t ∧ t { nx := fun _ H' => Q .non H', rt := Q } (start N vs) H) : Dok P w K mg base (k + 1) x ps sp := by
  obtain ⟨f, fd, F, hm⟩ := T
  refine ⟨f, fd, F.ok S len fun cdv A outer s H vs Q E hr hs => ?_, hm, F.kp, F.bindsN hb⟩
  obtain ⟨t, ht, q⟩ := h f cdv A outer s H vs Q E hr hs
  exact ⟨t, ht.nox, q⟩
def kn0 (N : List Str) (ds : List D) : Kn := ds.map some ++ List.replicate (N.length - ds.length) none
theorem dokD (T : DefAt K mg x st) (S : FnScope N ps (defScope st)) (hR : ∀ ds d, R ds d → ds.length = ps.length)
    (hb : ∀ (kV doc pm : Value) (an : Option Addr) (cdv ct : Value) (us : List Value), us.length = ps.length → bindArgs (PySem.W.fnOf x x (defArgs st) (defBody st) (defScope st) .none kV doc pm an cdv ct) ⟨us, []⟩ = pure (ps.zip us))
    (h : ∀ ds d, R ds d → ∀ (f : Addr) (cdv : Value) (A : Around) (outer : List Env) (s : Shared) (H : Hp) (E : XK), Room k (A.deeper (envOfC x (defScope st) s.heap.objs.size f cdv)) →
      SR (CxD P w K mg base N x st f cdv A outer s H E) (kn0 N ds) (defBody st) d) : Dok P w K mg base (k + 1) x ps (spD K R) :=
  dok T S (fun vs H Q E ⟨ds, d, r, al, _⟩ => by rw [al.length]; exact hR ds d r) hb fun f cdv A outer s H vs Q E hr ⟨ds, d, r, al, q⟩ =>
    ⟨_, h ds d r f cdv A outer s H E hr, EA.start al, q⟩
theorem dokL {R : List D → List D → Prop} (T : DefAt K mg x st) (S : FnScope N ps (defScope st)) (hR : ∀ ds d, R ds d → ds.length = ps.length)
    (hb : ∀ (kV doc pm : Value) (an : Option Addr) (cdv ct : Value) (us : List Value), us.length = ps.length → bindArgs (PySem.W.fnOf x x (defArgs st) (defBody st) (defScope st) .none kV doc pm an cdv ct) ⟨us, []⟩ = pure (ps.zip us))
    (h : ∀ ds d, R ds d → ∀ (f : Addr) (cdv : Value) (A : Around) (outer : List Env) (s : Shared) (H : Hp) (E : XK), Room k (A.deeper (envOfC x (defScope st) s.heap.objs.size f cdv)) →
      SRL (CxD P w K mg base N x st f cdv A outer s H E) (kn0 N ds) (defBody st) d) : Dok P w K mg base (k + 1) x ps (spDL K R) :=
  dok T S (fun vs H Q E ⟨ds, d, r, al, _⟩ => by rw [al.length]; exact hR ds d r) hb fun f cdv A outer s H vs Q E hr ⟨ds, d, r, al, q⟩ =>
    ⟨_, h ds d r f cdv A outer s H E hr, EA.start al, q⟩
end
end CM
set_option Elab.async false
set_option linter.all false
set_option maxRecDepth 100000
set_option maxHeartbeats 4000000
/-! CM3: places, deeds, rules as types; their words. Printed by gen_math.py. -/
namespace CM
open PySem L2
open PyProof.Rows (envOfC)

inductive Step where
  | none
  | opened
  | half
  | read
  | done
  | kept
  deriving DecidableEq
def Step.str : Step → Str
  | .none => "none"
  | .opened => "opened"
  | .half => "half"
  | .read => "read"
  | .done => "done"
  | .kept => "kept"
inductive Fate where
  | right
  | elder
  | twice
  | due
  | doubled
  deriving DecidableEq
def Fate.str : Fate → Str
  | .right => "right"
  | .elder => "elder"
  | .twice => "twice"
  | .due => "due"
  | .doubled => "doubled"
inductive Rec where
  | part
  | step
  | whole
  deriving DecidableEq
def Rec.str : Rec → Str
  | .part => "part"
  | .step => "step"
  | .whole => "whole"
inductive Clr where
  | ahead
  | behind
  | never
  deriving DecidableEq
def Clr.str : Clr → Str
  | .ahead => "ahead"
  | .behind => "behind"
  | .never => "never"
inductive Deed where
  | begin
  | read
  | clear
  | end_
  | wboth
  | wfirst
  | wsecond
  | lose
  deriving DecidableEq
def Deed.str : Deed → Str
  | .begin => "begin"
  | .read => "read"
  | .clear => "clear"
  | .end_ => "end"
  | .wboth => "write both"
  | .wfirst => "write first"
  | .wsecond => "write second"
  | .lose => "lose"
inductive Wish where
  | elder
  | left
  | torn
  | twice
  deriving DecidableEq
def Wish.str : Wish → Str
  | .elder => "elder"
  | .left => "left"
  | .torn => "torn"
  | .twice => "twice"

structure Hf where
  c : Bool
  f : Option Fate
  deriving DecidableEq
structure Sta where
  s : Step
  g : Bool
  wb : Bool
  a : Hf
  b : Hf
  deriving DecidableEq
structure Pst where
  wb : Bool
  a : Hf
  b : Hf
  deriving DecidableEq
structure Pl where
  st : Sta
  pa : Option Pst
  deriving DecidableEq
/-- rules: gu, fi: "yes"; mb: mark is "behind"; o2: order is "second" -/
structure Wd where
  rc : Rec
  gu : Bool
  fi : Bool
  mb : Bool
  cl : Clr
  o2 : Bool
  deriving DecidableEq
def yn (b : Bool) : Str := cond b "yes" "no"
def ab (b : Bool) : Str := cond b "behind" "ahead"
def fs2 (b : Bool) : Str := cond b "second" "first"
def Wd.strs (w : Wd) : List Str := [w.rc.str, yn w.gu, yn w.fi, ab w.mb, w.cl.str, fs2 w.o2]
def dW (w : Wd) : D := .rul w.strs
def dWs (w : Wd) : D := .tup [.str w.rc.str, .str (yn w.gu), .str (yn w.fi), .str (ab w.mb), .str w.cl.str, .str (fs2 w.o2)]
def dF : Option Fate → D
  | none => .non
  | some f => .str f.str
def dH (h : Hf) : D := .tup [.bl h.c, dF h.f]
def dHs (a b : Hf) : D := .tup [dH a, dH b]
def dS (s : Sta) : D := .tup [.str s.s.str, .bl s.g, .bl s.wb, dHs s.a s.b]
def dP : Option Pst → D
  | none => .non
  | some p => .tup [.bl p.wb, dHs p.a p.b]
def dL (p : Pl) : D := .tup [dS p.st, dP p.pa]
theorem fl_dF (f : Option Fate) : fl (dF f) = true := by cases f <;> rfl
theorem noL_dF (f : Option Fate) : noL (dF f) = true := by cases f <;> rfl
theorem noL_dH (h : Hf) : noL (dH h) = true := by simp [dH, noL, noLs, noL_dF]
theorem noL_dHs (a b : Hf) : noL (dHs a b) = true := by simp [dHs, noL, noLs, noL_dH]
theorem noL_dS (s : Sta) : noL (dS s) = true := by simp [dS, noL, noLs, noL_dHs]
theorem noL_dP (p : Option Pst) : noL (dP p) = true := by cases p <;> simp [dP, noL, noLs, noL_dHs]
theorem noL_dL (p : Pl) : noL (dL p) = true := by simp [dL, noL, noLs, noL_dS, noL_dP]
theorem scal_dF (f g : Option Fate) : scal (vD (dF f)) (vD (dF g)) = true := by cases f <;> cases g <;> rfl
theorem isNon_dF (f : Option Fate) : isNonD (dF f) = f.isNone := by cases f <;> rfl
theorem isNon_dP (f : Option Pst) : isNonD (dP f) = f.isNone := by cases f <;> rfl

theorem eq_Step_none (x : Step) : eqD (.str x.str) (.str "none") = decide (x = .none) := by cases x <;> decide +kernel
theorem eq_Step_opened (x : Step) : eqD (.str x.str) (.str "opened") = decide (x = .opened) := by cases x <;> decide +kernel
theorem eq_Step_half (x : Step) : eqD (.str x.str) (.str "half") = decide (x = .half) := by cases x <;> decide +kernel
theorem eq_Step_read (x : Step) : eqD (.str x.str) (.str "read") = decide (x = .read) := by cases x <;> decide +kernel
theorem eq_Step_done (x : Step) : eqD (.str x.str) (.str "done") = decide (x = .done) := by cases x <;> decide +kernel
theorem eq_Step_kept (x : Step) : eqD (.str x.str) (.str "kept") = decide (x = .kept) := by cases x <;> decide +kernel
theorem eq_Fate_right (x : Fate) : eqD (.str x.str) (.str "right") = decide (x = .right) := by cases x <;> decide +kernel
theorem eq_Fate_elder (x : Fate) : eqD (.str x.str) (.str "elder") = decide (x = .elder) := by cases x <;> decide +kernel
theorem eq_Fate_twice (x : Fate) : eqD (.str x.str) (.str "twice") = decide (x = .twice) := by cases x <;> decide +kernel
theorem eq_Fate_due (x : Fate) : eqD (.str x.str) (.str "due") = decide (x = .due) := by cases x <;> decide +kernel
theorem eq_Fate_doubled (x : Fate) : eqD (.str x.str) (.str "doubled") = decide (x = .doubled) := by cases x <;> decide +kernel
theorem eq_Rec_part (x : Rec) : eqD (.str x.str) (.str "part") = decide (x = .part) := by cases x <;> decide +kernel
theorem eq_Rec_step (x : Rec) : eqD (.str x.str) (.str "step") = decide (x = .step) := by cases x <;> decide +kernel
theorem eq_Rec_whole (x : Rec) : eqD (.str x.str) (.str "whole") = decide (x = .whole) := by cases x <;> decide +kernel
theorem eq_Clr_ahead (x : Clr) : eqD (.str x.str) (.str "ahead") = decide (x = .ahead) := by cases x <;> decide +kernel
theorem eq_Clr_behind (x : Clr) : eqD (.str x.str) (.str "behind") = decide (x = .behind) := by cases x <;> decide +kernel
theorem eq_Clr_never (x : Clr) : eqD (.str x.str) (.str "never") = decide (x = .never) := by cases x <;> decide +kernel
theorem eq_Deed_begin (x : Deed) : eqD (.str x.str) (.str "begin") = decide (x = .begin) := by cases x <;> decide +kernel
theorem eq_Deed_read (x : Deed) : eqD (.str x.str) (.str "read") = decide (x = .read) := by cases x <;> decide +kernel
theorem eq_Deed_clear (x : Deed) : eqD (.str x.str) (.str "clear") = decide (x = .clear) := by cases x <;> decide +kernel
theorem eq_Deed_end_ (x : Deed) : eqD (.str x.str) (.str "end") = decide (x = .end_) := by cases x <;> decide +kernel
theorem eq_Deed_wboth (x : Deed) : eqD (.str x.str) (.str "write both") = decide (x = .wboth) := by cases x <;> decide +kernel
theorem eq_Deed_wfirst (x : Deed) : eqD (.str x.str) (.str "write first") = decide (x = .wfirst) := by cases x <;> decide +kernel
theorem eq_Deed_wsecond (x : Deed) : eqD (.str x.str) (.str "write second") = decide (x = .wsecond) := by cases x <;> decide +kernel
theorem eq_Deed_lose (x : Deed) : eqD (.str x.str) (.str "lose") = decide (x = .lose) := by cases x <;> decide +kernel
theorem eq_Wish_elder (x : Wish) : eqD (.str x.str) (.str "elder") = decide (x = .elder) := by cases x <;> decide +kernel
theorem eq_Wish_left (x : Wish) : eqD (.str x.str) (.str "left") = decide (x = .left) := by cases x <;> decide +kernel
theorem eq_Wish_torn (x : Wish) : eqD (.str x.str) (.str "torn") = decide (x = .torn) := by cases x <;> decide +kernel
theorem eq_Wish_twice (x : Wish) : eqD (.str x.str) (.str "twice") = decide (x = .twice) := by cases x <;> decide +kernel
theorem eq_Deed_moment (x : Deed) : eqD (.str x.str) (.str "moment") = false := by cases x <;> decide +kernel
theorem eq_F_right (f : Option Fate) : eqD (dF f) (.str "right") = decide (f = some .right) := by cases f with | none => decide +kernel | some f => cases f <;> decide +kernel
theorem scal_F_right (f : Option Fate) : scal (vD (dF f)) (vD (.str "right")) = true := by cases f <;> rfl
theorem eq_F_elder (f : Option Fate) : eqD (dF f) (.str "elder") = decide (f = some .elder) := by cases f with | none => decide +kernel | some f => cases f <;> decide +kernel
theorem scal_F_elder (f : Option Fate) : scal (vD (dF f)) (vD (.str "elder")) = true := by cases f <;> rfl
theorem eq_F_twice (f : Option Fate) : eqD (dF f) (.str "twice") = decide (f = some .twice) := by cases f with | none => decide +kernel | some f => cases f <;> decide +kernel
theorem scal_F_twice (f : Option Fate) : scal (vD (dF f)) (vD (.str "twice")) = true := by cases f <;> rfl
theorem eq_F_due (f : Option Fate) : eqD (dF f) (.str "due") = decide (f = some .due) := by cases f with | none => decide +kernel | some f => cases f <;> decide +kernel
theorem scal_F_due (f : Option Fate) : scal (vD (dF f)) (vD (.str "due")) = true := by cases f <;> rfl
theorem eq_F_doubled (f : Option Fate) : eqD (dF f) (.str "doubled") = decide (f = some .doubled) := by cases f with | none => decide +kernel | some f => cases f <;> decide +kernel
theorem scal_F_doubled (f : Option Fate) : scal (vD (dF f)) (vD (.str "doubled")) = true := by cases f <;> rfl
theorem eq_FF (f g : Option Fate) : eqD (dF f) (dF g) = decide (f = g) := by cases f with | none => (cases g with | none => decide +kernel | some g => cases g <;> decide +kernel) | some f => (cases g with | none => cases f <;> decide +kernel | some g => cases f <;> cases g <;> decide +kernel)
theorem eq_yn (b : Bool) : eqD (.str (yn b)) (.str "yes") = b := by cases b <;> decide +kernel
theorem eq_ab (b : Bool) : eqD (.str (ab b)) (.str "behind") = b := by cases b <;> decide +kernel
theorem eq_ab0 (b : Bool) : eqD (.str (ab b)) (.str "ahead") = !b := by cases b <;> decide +kernel
theorem eq_fs2 (b : Bool) : eqD (.str (fs2 b)) (.str "first") = !b := by cases b <;> decide +kernel

theorem in_nk (x : Step) : inD (.str x.str) [.str "none", .str "kept"] = decide (x = .none ∨ x = .kept) := by cases x <;> decide +kernel
theorem in_oh (x : Step) : inD (.str x.str) [.str "opened", .str "half"] = decide (x = .opened ∨ x = .half) := by cases x <;> decide +kernel
theorem in_wait (f : Option Fate) : inD (dF f) [.str "due", .str "doubled"] = decide (f = some .due ∨ f = some .doubled) := by cases f with | none => decide +kernel | some f => cases f <;> decide +kernel
theorem in_et (x : Wish) : inD (.str x.str) [.str "elder", .str "twice"] = decide (x = .elder ∨ x = .twice) := by cases x <;> decide +kernel

/-! ### what is done, by types -/
def canDo (s : Step) : Deed → Bool
  | .begin => decide (s = .none ∨ s = .kept)
  | .read => decide (s = .opened ∨ s = .half)
  | .clear => decide (s = .read)
  | .end_ => decide (s = .done)
  | .lose => false
  | _ => true
def deeds7 : List Deed := [.begin, .read, .clear, .end_, .wboth, .wfirst, .wsecond]
def deedsIn (s : Step) : List Deed := deeds7.filter (canDo s)
def toRead (w : Wd) (s : Sta) : Bool := decide (s.s = .none) || s.g || decide (w.cl = .never)
def Hf.settled (h : Hf) : Hf := ⟨h.c, some (cond h.c .right .elder)⟩
def Hf.begun (w : Wd) (r : Bool) (h : Hf) : Hf := cond w.mb ⟨h.c, none⟩ (cond r ⟨h.c, some .due⟩ h.settled)
def begun (w : Wd) (s : Sta) : Sta :=
  ⟨cond (toRead w s) .opened .done, cond (toRead w s && decide (w.cl = .ahead)) false s.g, false, s.a.begun w (toRead w s), s.b.begun w (toRead w s)⟩
def readF : Option Fate → Option Fate
  | some .due => some .right
  | some .doubled => some .twice
  | f => f
/-- is the second half the one that is read -/
def at2 (w : Wd) (s : Sta) : Bool := cond (decide (s.s = .opened)) w.o2 (!w.o2)
def readHalf (w : Wd) (s : Sta) : Sta :=
  ⟨cond (decide (s.s = .opened)) .half (cond (decide (w.cl = .behind)) .read .done), s.g, s.wb, cond (at2 w s) s.a ⟨true, readF s.a.f⟩, cond (at2 w s) ⟨true, readF s.b.f⟩ s.b⟩
def fateB (w : Wd) (f : Option Fate) (isw whole out : Bool) : Option Fate :=
  cond out (cond (isw && decide (f = some .right)) (some .elder) f)
    (cond whole (some .right) (cond (!isw) f (cond (decide (w.rc = .part)) (some .right) (cond (decide (f = some .due)) (some .doubled) f))))
def isFi (w : Wd) (s : Sta) : Bool := w.fi && !s.wb
def isWh (w : Wd) (s : Sta) : Bool := isFi w s || decide (w.rc = .whole)
def isOut (w : Wd) (s : Sta) : Bool := w.gu && (decide (s.a.f = some .due ∨ s.a.f = some .doubled) && !isFi w s)
def written (w : Wd) (s : Sta) (x y : Bool) : Sta :=
  cond s.a.f.isNone ⟨s.s, true, s.wb, ⟨s.a.c && !x, s.a.f⟩, ⟨s.b.c && !y, s.b.f⟩⟩
    ⟨s.s, true, s.wb || isFi w s, ⟨s.a.c && !x, fateB w s.a.f x (isWh w s) (isOut w s)⟩, ⟨s.b.c && !y, fateB w s.b.f y (isWh w s) (isOut w s)⟩⟩
def ended (w : Wd) (s : Sta) : Sta := cond w.mb ⟨.kept, s.g, false, s.a.settled, s.b.settled⟩ ⟨.kept, s.g, s.wb, s.a, s.b⟩
def wr1 : Deed → Bool
  | .wsecond => false
  | _ => true
def wr2 : Deed → Bool
  | .wfirst => false
  | _ => true
def isWr : Deed → Bool
  | .wboth => true
  | .wfirst => true
  | .wsecond => true
  | _ => false
def doneBy (w : Wd) (s : Sta) : Deed → Sta
  | .begin => begun w s
  | .read => readHalf w s
  | .clear => ⟨.done, false, s.wb, s.a, s.b⟩
  | .end_ => ended w s
  | d => written w s (wr1 d) (wr2 d)
def pastBy (w : Wd) (p : Pl) (d : Deed) : Option Pst :=
  match d with
  | .begin => cond (decide (p.st.s = .none)) none (some ⟨p.st.wb && w.mb, p.st.a, p.st.b⟩)
  | d => match p.pa with
    | none => none
    | some q => cond (decide (d = .end_) && w.mb) (some ⟨false, q.a, q.b⟩)
      (cond (isWr d) (let t := written w ⟨.kept, true, q.wb, q.a, q.b⟩ (wr1 d) (wr2 d); some ⟨t.wb, t.a, t.b⟩) (some q))
def lostBy (p : Pl) (ag : Bool) : Pl :=
  match p.pa with
  | none => ⟨⟨.none, p.st.g || ag, false, ⟨false, none⟩, ⟨false, none⟩⟩, none⟩
  | some q => ⟨⟨.kept, p.st.g || ag, q.wb, q.a, q.b⟩, none⟩
def plBy (w : Wd) (p : Pl) (ag : Bool) (d : Deed) : Pl :=
  match d with
  | .lose => lostBy p ag
  | d => ⟨doneBy w p.st d, pastBy w p d⟩
def canLose (p : Pl) : Bool := (!decide (p.st.s = .none ∨ p.st.s = .kept)) || (decide (p.st.s = .kept) && !p.pa.isNone)
def deedsAt (p : Pl) : List Deed := cond (canLose p) (deedsIn p.st.s ++ [.lose]) (deedsIn p.st.s)
def standsBad (s : Sta) (x : Wish) : Bool :=
  cond ((!decide (s.s = .kept)) || (s.a.f.isNone || s.b.f.isNone)) false
    (cond (decide (x = .torn)) (!decide (s.a.f = s.b.f)) (cond (decide (x = .elder)) (decide (s.a.f = some .elder) || decide (s.b.f = some .elder)) (cond (decide (x = .twice)) (decide (s.a.f = some .twice) || decide (s.b.f = some .twice)) false)))
def goesBad (w : Wd) (s : Sta) (x : Wish) : Bool := cond (!decide (x = .left) || toRead w s) false (!(s.a.c && s.b.c))
def beginsBad (w : Wd) (p : Pl) (x : Wish) : Bool := decide (p.st.s = .kept) && goesBad w p.st x
def start0 : Sta := ⟨.none, false, false, ⟨false, none⟩, ⟨false, none⟩⟩
def begin0 : Pl := ⟨start0, none⟩
end CM
set_option Elab.async false
set_option linter.all false
set_option maxRecDepth 100000
set_option maxHeartbeats 4000000
/-! CMZ: rows (a list or a tuple) and pens (where a walk over a row stands); zip of any two rows of one length; comprehensions over zip of two tuples; d.get where the key may be None; an item of a written dict. -/
namespace CM
open PySem L2

/-- a list (true) or a tuple (false) at a -/
def Row (K : PySem.W.Frag) (l : Bool) (H : Hp) (a : Addr) (xs : List V) : Prop := bif l then SqL K H a xs else SqT K H a xs
/-- the pen at it stands at place i of the row at a -/
def Pen (l : Bool) (h : Heap) (it a : Addr) (i : Nat) : Prop := bif l then h.IsListIter it a i else h.IsTupleIter it a i
section
variable {l m : Bool} {h h' : Heap} {a b it z TI TO i1 i2 : Addr} {i : Nat}
theorem Pen.still (p : Pen l h it a i) (k : ∀ o, h.get? it = some o → h'.get? it = some o) : Pen l h' it a i := by
  cases l
  · exact Heap.IsTupleIter.at p k
  · exact Heap.IsListIter.at p k
theorem Pen.cell (p : Pen l h it a i) : ∃ o, h.get? it = some o ∧ ∀ v, o.data ≠ .cell v := by
  cases l <;> exact p.imp fun o q => ⟨q.1, fun v e => Data.noConfusion (q.2.2.symm.trans e)⟩
section
variable {X : Cx} {pins : List (Addr × Obj)} {σ : L2.St} {H : Hp} {s : Shared} {xs ys : List V}
theorem Row.one (I : Inv X pins σ H s) (p : Row X.K l H a xs) (q : Row X.K l H a ys) : xs = ys := by
  cases l
  · exact I.tuple_inj p q
  · exact I.list_inj p q
/-- what the machine's heap holds of a row, how it is drawn, and how a pen over it begins -/
theorem Row.well (I : Inv X pins σ H s) (calm : X.calm = true) (q : Row X.K l H a xs) : ∃ (its : List Value) (St : Heap → Prop), Vals xs its ∧ a < s.heap.objs.size ∧ St s.heap ∧
    (∀ it, a ≠ it → Draws X.prog X.w X.A.in1 it [it, a] its.toArray.size (fun i u => its.toArray[i]? = some u) fun i h => Pen l h it a i ∧ St h) ∧
    ∃ o, Begins (.ref a) o St ∧ ∀ h it, h.get? it = some o → Pen l h it a 0 := by
  cases l
  · obtain ⟨its, v, p, -⟩ := I.tuple q
    exact ⟨its, (·.IsTuple a its.toArray), v, p.elim fun _ e => Heap.lt_size e.1, p, fun it ne => .tuple (show X.A.in1.handled = none from I.ok.hd calm) it a ne _, _, begins_tuple a its.toArray, fun _ _ g => ⟨_, g, rfl, rfl⟩⟩
  · obtain ⟨its, v, p, -⟩ := I.list q
    exact ⟨its, (·.IsList a its.toArray), v, p.lt, p.isList, fun it ne => .list (show X.A.in1.handled = none from I.ok.hd calm) it a ne _, _, begins_list a its.toArray, fun _ _ g => ⟨_, g, rfl, rfl⟩⟩
end
/-- a zip between two turns: the zip, its pair of pens, its last pair, the pens -/
def ZipNow (l m : Bool) (a b z TI TO i1 i2 : Addr) (i : Nat) (h : Heap) : Prop :=
  (IsZip h z TI TO .none ∧ IsTupOf2 h TI (.ref i1) (.ref i2)) ∧ (∃ last : Value × Value, IsTupOf2 h TO last.1 last.2) ∧ Pen l h i1 a i ∧ Pen m h i2 b i
theorem ZipNow.still (n : ZipNow l m a b z TI TO i1 i2 i h) (k : ∀ c ∈ [z, TI, TO, i1, i2], ∀ o, h.get? c = some o → h'.get? c = some o) : ZipNow l m a b z TI TO i1 i2 i h' := by
  simp only [List.forall_mem_cons] at k
  exact ⟨⟨k.1 _ n.1.1, k.2.1 _ n.1.2⟩, n.2.1.imp fun _ g => k.2.2.1 _ g, n.2.2.1.still k.2.2.2.1, n.2.2.2.still k.2.2.2.2.1⟩
theorem ZipNow.cells (n : ZipNow l m a b z TI TO i1 i2 i h) : ∀ c ∈ [z, TI, TO, i1, i2], ∃ o, h.get? c = some o ∧ ∀ v, o.data ≠ .cell v := by
  obtain ⟨⟨g, g'⟩, ⟨_, g''⟩, p, p'⟩ := n
  simp only [List.forall_mem_cons]
  exact ⟨⟨_, g, fun _ => nofun⟩, ⟨_, g', fun _ => nofun⟩, ⟨_, g'', fun _ => nofun⟩, p.cell, p'.cell, nofun⟩
/-- a cell off the zip's five -/
theorem off_zip {c : Addr} (n : c ∉ [z, TI, TO, i1, i2]) : (c ≠ z ∧ c ≠ TO) ∧ c ≠ i1 ∧ c ≠ i2 := by
  simp only [List.mem_cons, not_or] at n
  exact ⟨⟨n.1, n.2.2.1⟩, n.2.2.2.1, n.2.2.2.2.1⟩
end

/-- two rows side by side, each turn's two items in a new pair -/
def ItzM (K : PySem.W.Frag) (l m : Bool) (a b : Addr) (xs ys : List V) : It where
  go i H := (Row K l H a xs ∧ Row K m H b ys) ∧ i < xs.length ∧ i < ys.length
  yld i := YPair (fun j => xs[j]?) (fun j => ys[j]?) i
  stop i H := (Row K l H a xs ∧ Row K m H b ys) ∧ i = xs.length ∧ i = ys.length
theorem turn_zipM {P : Program} {w : World} {K : PySem.W.Frag} {elts : List Expr} {kk : Nat} {tpos : Pos} {l m : Bool} {a b z TI TO i1 i2 : Addr} {xs ys : List V} (S : ZipSep2 z TI TO i1 i2 [i1, a] [i2, b]) (na : a ≠ i1) (nb : b ≠ i2) :
    Turn P w K (.Tuple elts kk tpos) (ItzM K l m a b xs ys) [z, TI, TO, i1, i2] z (ZipNow l m a b z TI TO i1 i2) where
  mem := List.mem_cons_self ..
  obj _ _ n := n.cells
  keep _ _ _ n := n.still
  self _ _ _ _ _ n := wpAny_pyIter_zip n.1.1
  item := by
    rintro X rfl rfl rfl calm i pins s σ H E I free now ⟨⟨qa, qb⟩, la, lb⟩
    obtain ⟨its, _, va, -, wa, Da, -⟩ := qa.well I calm
    obtain ⟨jts, _, vb, -, wb, Db, -⟩ := qb.well I calm
    obtain ⟨u, gu, ru⟩ := va.get (List.getElem?_eq_getElem la)
    obtain ⟨v, gv, rv⟩ := vb.get (List.getElem?_eq_getElem lb)
    obtain ⟨last, glast⟩ := now.2.1
    refine wpAny_pyNext_zipD2_item S (Da i1 na) (Db i2 nb) now.1.1 now.1.2 glast ⟨now.2.2.1, wa⟩ ⟨now.2.2.2, wb⟩ (Nat.lt_of_lt_of_eq la va.length) (Nat.lt_of_lt_of_eq lb vb.length) fun u' v' h1 tk du dv gz gTO p1 p2 gT _ same => ⟨_, rfl, wpAny_letOwnedTupleGo_zip (s := { s with heap := h1, toks := tk }) gz fun h2 gz2 but => ?_⟩
    obtain rfl : u = u' := Option.some.inj (gu.symm.trans (by simpa using du))
    obtain rfl : v = v' := Option.some.inj (gv.symm.trans (by simpa using dv))
    have move : ∀ c o, c ≠ z → h1.get? c = some o → h2.get? c = some o := fun c o ne g => (but.2 c ne).trans g
    have pair : ObjOk X.prog X.w (upd H s.heap.objs.size (.tup [xs[i], ys[i]])) h2 s.heap.objs.size (.tup [xs[i], ys[i]]) :=
      ⟨(by decide : 2 ≤ sizeLine), [u, v], .cons ru (.cons rv .nil), _, move _ _ (Nat.ne_of_gt (Heap.lt_size now.1.1)) gT, rfl, _, rfl⟩
    refine ⟨.ref s.heap.objs.size, _, I.turnedNew (fun c o out g => ?_) free (Nat.le_refl _) pair, rfl, ⟨_, _, _, rfl, I.hok.fresh (Nat.le_refl _), rfl, List.getElem?_eq_getElem la, List.getElem?_eq_getElem lb⟩,
      ⟨⟨gz2, move _ _ S.TIz (same _ _ S.TIz S.TITO S.TIi1 S.TIi2 now.1.2)⟩, ⟨(u, v), move _ _ S.TOz gTO⟩, p1.1.still fun o => move _ o S.zi1.symm, p2.1.still fun o => move _ o S.zi2.symm⟩, fun c hc => ?_⟩
    · have off := off_zip out
      exact move _ _ off.1.1 (same c o off.1.1 off.1.2 off.2.1 off.2.2 g)
    · obtain ⟨o, g, -⟩ := now.cells c hc
      exact (upd_ne (Nat.ne_of_lt (Heap.lt_size g))).trans (free c hc).1
  done := by
    rintro X rfl rfl rfl calm i pins s σ H E I free now ⟨⟨qa, qb⟩, ea, eb⟩
    obtain ⟨its, _, va, -, wa, Da, -⟩ := qa.well I calm
    obtain ⟨jts, _, vb, -, wb, Db, -⟩ := qb.well I calm
    obtain ⟨last, glast⟩ := now.2.1
    have ea' : i = its.toArray.size := ea.trans va.length
    have eb' : i = jts.toArray.size := eb.trans vb.length
    refine wpAny_pyNext_zipD2_end S (Da i1 na) (Db i2 nb) now.1.1 now.1.2 glast ⟨now.2.2.1, wa⟩ ⟨now.2.2.2, wb⟩ (Nat.le_of_eq ea') (Nat.le_of_eq eb') (.inl ea') fun h1 tk same => ⟨rfl, I.turnedL (fun c o out g => ?_) free⟩
    have off := off_zip out
    exact same c o off.1.1 off.1.2 off.2.1 off.2.2 g

def iZipM (K : PySem.W.Frag) (l m : Bool) (ta : TA) : TI := fun σ H R => ta σ H fun vs H1 => ∃ a b xs ys, vs = [.ref a, .ref b] ∧ Row K l H1 a xs ∧ Row K m H1 b ys ∧ R (ItzM K l m a b xs ys) H1
theorem pi_zipM {X : Cx} {l m : Bool} {e e2 : Expr} {ta : TA} {p pos tpos : Pos} {elts : List Expr} {kk : Nat} (calm : X.calm = true) (hg : Gl X "zip") (hm : X.mg "zip" = none) (ha : PA X [e, e2] ta)
    (hs1 : starEach [e, e2] X.env = (false, eval e X.env) :: starEach [e2] X.env := by rfl) (hs2 : (backTo pos (starEach [e2] X.env)).any (·.1) = false := by rfl) :
    PI X (.Tuple elts kk tpos) (.Call (.Name "zip" p) [e, e2] [] pos) (iZipM X.K l m ta) := by
  refine ⟨fun pins s σ H R I h => PyProof.Rows.Call_ (ld_blt I hg hm PyProof.Rows.boot_zip (PyProof.Rows.callWith_type1 (thn (ha.run pos pins s σ H _ I h) ?_) hs1 hs2))⟩
  rintro us s1 ⟨_, H1, I1, r, a, b, xs, ys, rfl, qa, qb, q⟩
  obtain ⟨ua, ub, rfl, rfl, rfl⟩ : ∃ ua ub, us = [ua, ub] ∧ ua = .ref a ∧ ub = .ref b := by
    match us, r with
    | _, .cons ra (.cons rb .nil) => exact ⟨_, _, rfl, ra, rb⟩
  obtain ⟨its, _, -, la, wa, -, _, Ba, pa⟩ := qa.well I1 calm
  obtain ⟨jts, _, -, lb, wb, -, _, Bb, pb⟩ := qb.well I1 calm
  refine zip_begins2 Ba Bb wa wb fun h' gz gTI gTO ga gb _ hk => wpAny_pyIter_zip gz ?_
  have apart := zip_sep2 (fp1 := [a]) (fp2 := [b]) (N := s1.heap.objs.size) (by simpa using la) (by simpa using lb)
  refine ⟨_, [_, _, _, _, _], _, _, H1, rfl, I1.kept (t' := s1.toks) hk, turn_zipM apart (Nat.ne_of_lt la) (Nat.ne_of_lt (Nat.lt_succ_of_lt lb)), ⟨⟨gz, gTI⟩, ⟨(_, _), gTO⟩, pa _ _ ga, pb _ _ gb⟩, ?_, q⟩
  have new : ∀ j : Nat, FpOk X pins H1 (s1.heap.objs.size + j) := fun j => I1.fpOk (Nat.le_add_right _ j) (I1.hok.fresh (Nat.le_add_right _ j))
  simp only [List.forall_mem_cons]
  exact ⟨new 4, new 2, new 3, new 0, new 1, nofun⟩
theorem walk_zipM {K : PySem.W.Frag} {l m : Bool} {a b : Addr} {xs ys : List V} (len : xs.length = ys.length) : Walk (ItzM K l m a b xs ys) xs.length (fun H => Row K l H a xs ∧ Row K m H b ys) (YPair (fun j => xs[j]?) (fun j => ys[j]?)) :=
  ⟨fun _ _ lt q => ⟨q, lt, len ▸ lt⟩, fun _ q => ⟨q, rfl, len⟩, fun _ _ _ _ _ _ y => y⟩
theorem walk_two {K : PySem.W.Frag} {a b : Addr} {xs ys : List V} (len : xs.length = ys.length) : Walk (RZ.ItzT K a b) xs.length (fun H => SqT K H a xs ∧ SqT K H b ys) (YPair (fun j => xs[j]?) (fun j => ys[j]?)) where
  goes i _ lt q := ⟨_, _, _, _, q.1, q.2, List.getElem?_eq_getElem lt, List.getElem?_eq_getElem (len ▸ lt)⟩
  stops _ q := ⟨_, _, q.1, q.2, .inr (Nat.le_of_eq len.symm)⟩
  yields _ _ _ _ _ q := fun ⟨T, x, y, e, new, e', fx, fy⟩ => ⟨T, x, y, e, new, e', fx _ q.1, fy _ q.2⟩
section
variable {X : Cx} {ρ : Kn} {elt : Expr} {elts : List Expr} {ifs : List Expr} {scope : Scope} {own : List (Str × Nat)} {pos tpos p cpos py spos : Pos} {y : Str} {kk : Nat} {α : Type} {ea eb : Expr}
theorem rd_lcZ {K : PySem.W.Frag} (i j : Nat) (as : List α) (g1 g2 : α → D) (f : α → D) (nl : ∀ d ∈ as, noL (f d) = true) (hw : ∀ (σ : L2.St) v u, wipe (((wipe σ (own.map (·.2))).set i v).set j u) (own.map (·.2)) = wipe σ (own.map (·.2))) (hsz : as.length ≤ 8000000)
    {σ : L2.St} {H : Hp} {Q : VK} (q : tDn K ρ (as.map f) σ H Q) : tLc (RZ.iZipA K (tDL K ρ [.tup (as.map g1), .tup (as.map g2)])) (gTup K 2 (gSets [i, j])) tYes (teX K as (fun d => (K2 (wipeK ρ (own.map (·.2))) i j (g1 d) (g2 d))) f fun _ => true) (own.map (·.2)) σ H Q := by
  refine ⟨q.1, fun vs H1 e1 al1 => ?_⟩
  obtain ⟨v, u, rfl, a1, a2⟩ := atL_two al1
  simp only [At] at a1 a2
  obtain ⟨a, xs, rfl, hx, al⟩ := a1
  obtain ⟨b, ys, rfl, hy, bl⟩ := a2
  refine ⟨a, b, xs, ys, rfl, .inr ⟨hx, hy, fun Dl hD => lc_it (walk_two (xs := xs) (ys := ys) (by rw [al.length, bl.length, List.length_map, List.length_map])) (fun i H' => Same H1 H' ∧ ∃ zs, H' Dl = some (.lst zs) ∧ AtL K H' (((as.take i).filter fun _ => true).map f) zs) ⟨same_new hD, [], upd_same, AtL.nil⟩ (fun i H' _ p => ⟨sqT_same p.1 hx, sqT_same p.1 hy⟩) (fun i' v' H' H'' _ p yy => ?_) (fun H' p => ?_)⟩⟩
  · obtain ⟨T, x, y, rfl, hT, rfl, hx', hy'⟩ := yy
    obtain ⟨sm, zs, hz, al2⟩ := p
    obtain ⟨d0, hd0, ad⟩ := al.get' hx'
    obtain ⟨d, hd, rfl⟩ := get_map hd0
    obtain ⟨d1, hd1, bd⟩ := bl.get' hy'
    obtain ⟨d', hd', rfl⟩ := get_map hd1
    rw [hd] at hd'; cases hd'
    have hm := List.mem_of_getElem? hd
    have e2 : Same H' (upd H' T (.tup [x, y])) := same_new hT
    have ap : At K (upd H' T (.tup [x, y])) (.tup [g1 d, g2 d]) (.ref T) := at_tup (SqT.of upd_same) (AtL.cons (ad.same (sm.trans e2)) (AtL.cons (bd.same (sm.trans e2)) AtL.nil))
    refine gPair_ok ((q.1.same (e1.trans (sm.trans e2))).wipe _) ap fun u u2 ea => ?_
    exact ⟨hw σ _ _, lc_turn (t := fun _ => true) hd hsz hD (sm.trans e2) (e2 _ _ hz) (al2.same e2) nl (fun Q' k => k _ (Same.refl _)) fun hT H2 e2 Q' k => ⟨_, _, ⟨d, hm, rfl, rfl, rfl⟩, ea.same e2, k⟩⟩
  · obtain ⟨sm, zs, hz, al2⟩ := p
    rw [al.length, List.length_map, List.take_length, List.filter_eq_self.mpr (fun _ _ => rfl)] at al2
    exact q.2 _ _ _ (Same.free e1 hD) (e1.trans sm) hz al2
theorem pdl_lcZ (i j : Nat) (as : List α) (g1 g2 : α → D) (f : α → D) (hc : X.calm = true) (hN : X.N.Nodup) (fz : X.mg "zip" = none) (ha : PD X ρ ea (.tup (as.map g1))) (hb : PD X ρ eb (.tup (as.map g2))) (ok : BlkOk X.N X.env.scope scope own)
    (hg : ∀ (s : Shared) (H : Hp) (C : Addr) (cl : List (Str × Addr)) (fp : List Addr), PG (X.blk s H scope (compEnvC scope cl C X.env) fp) (.Tuple elts kk tpos) (gTup X.K 2 (gSets [i, j])))
    (he : ∀ d ∈ as, ∀ (s : Shared) (H : Hp) (C : Addr) (cl : List (Str × Addr)) (fp : List Addr), PD (X.blk s H scope (compEnvC scope cl C X.env) fp) (K2 (wipeK ρ (own.map (·.2))) i j (g1 d) (g2 d)) elt (f d))
    (nl : ∀ d ∈ as, noL (f d) = true) (hw : ∀ (σ : L2.St) v u, wipe (((wipe σ (own.map (·.2))).set i v).set j u) (own.map (·.2)) = wipe σ (own.map (·.2))) (hgz : Gl X "zip" := by exact rfl) (hsz : as.length ≤ 8000000 := by exact Nat.le_of_ble_eq_true rfl)
    (hs1 : starEach [ea, eb] X.env = (false, eval ea X.env) :: starEach [eb] X.env := by rfl) (hs2 : starEach [eb] X.env = (false, eval eb X.env) :: starEach [] X.env := by rfl) (hpl : (backTo cpos (starEach [eb] X.env)).any (·.1) = false := by rfl)
    (hs : ∀ x, foldedSetIterable (.Call (.Name "zip" p) [ea, eb] [] cpos) X.env x = pure x := by intro _; rfl) : PDL X ρ (.ListComp elt [⟨.Tuple elts kk tpos, .Call (.Name "zip" p) [ea, eb] [] cpos, [], 0⟩] scope pos) (as.map f) :=
  pe_w (pe_lc (tt := tYes) (te := teX X.K as (fun d => (K2 (wipeK ρ (own.map (·.2))) i j (g1 d) (g2 d))) f fun _ => true) hc hN (RZ.pi_zipA hgz fz (pds_cons ha (pds_cons hb pds_nil hs2) hs1) hs1 hpl) ok hg (fun s H C cl fp => pts_nil) (fun s H C cl fp => pe_x fun ρ' e ⟨d, hd, _, e1, e2⟩ => by subst e1 e2; exact he d hd s H C cl fp) hs) fun σ H Q q => rd_lcZ i j as g1 g2 f nl hw hsz q
theorem sn_lcZ (ix : Nat) (i j : Nat) (as : List α) (g1 g2 : α → D) (f : α → D) (hc : X.calm = true) (hN : X.N.Nodup) (fz : X.mg "zip" = none) (ha : PD X ρ ea (.tup (as.map g1))) (hb : PD X ρ eb (.tup (as.map g2))) (ok : BlkOk X.N X.env.scope scope own)
    (hg : ∀ (s : Shared) (H : Hp) (C : Addr) (cl : List (Str × Addr)) (fp : List Addr), PG (X.blk s H scope (compEnvC scope cl C X.env) fp) (.Tuple elts kk tpos) (gTup X.K 2 (gSets [i, j])))
    (he : ∀ d ∈ as, ∀ (s : Shared) (H : Hp) (C : Addr) (cl : List (Str × Addr)) (fp : List Addr), PD (X.blk s H scope (compEnvC scope cl C X.env) fp) (K2 (wipeK ρ (own.map (·.2))) i j (g1 d) (g2 d)) elt (f d))
    (nl : ∀ d ∈ as, noL (f d) = true) (hw : ∀ (σ : L2.St) v u, wipe (((wipe σ (own.map (·.2))).set i v).set j u) (own.map (·.2)) = wipe σ (own.map (·.2))) (hy : X.N[ix]? = some y := by rfl) (hyl : X.env.scope.names.lookup y = some .local := by rfl) (hsw : swapsWith (.ListComp elt [⟨.Tuple elts kk tpos, .Call (.Name "zip" p) [ea, eb] [] cpos, [], 0⟩] scope pos) (some (.Name y py)) spos.line X.env = pure true := by exact sw_true rfl rfl rfl (by decide +kernel)) (hgz : Gl X "zip" := by exact rfl) (hsz : as.length ≤ 8000000 := by exact Nat.le_of_ble_eq_true rfl)
    (hs1 : starEach [ea, eb] X.env = (false, eval ea X.env) :: starEach [eb] X.env := by rfl) (hs2 : starEach [eb] X.env = (false, eval eb X.env) :: starEach [] X.env := by rfl) (hpl : (backTo cpos (starEach [eb] X.env)).any (·.1) = false := by rfl)
    (hs : ∀ x, foldedSetIterable (.Call (.Name "zip" p) [ea, eb] [] cpos) X.env x = pure x := by intro _; rfl) :
    SN1 X ρ (.Assign [.Name y py] (.ListComp elt [⟨.Tuple elts kk tpos, .Call (.Name "zip" p) [ea, eb] [] cpos, [], 0⟩] scope pos) spos) (ρ.set ix (some (.lst (as.map f)))) :=
  ps_w (ps_setLc (tt := tYes) (te := teX X.K as (fun d => (K2 (wipeK ρ (own.map (·.2))) i j (g1 d) (g2 d))) f fun _ => true) hc hN hy hyl hsw (RZ.pi_zipA hgz fz (pds_cons ha (pds_cons hb pds_nil hs2) hs1) hs1 hpl) ok hg (fun s H C cl fp => pts_nil) (fun s H C cl fp => pe_x fun ρ' e ⟨d, hd, _, e1, e2⟩ => by subst e1 e2; exact he d hd s H C cl fp) hs) fun D σ H q => rd_lcZ i j as g1 g2 f nl hw hsz (Q := fun x H1 => gName ix x σ H1 D.nx) ⟨q.1, fun p xs H' n e hp al => q.2 _ H' e ((q.1.same e).set (at_lst (SqL.of hp) al))⟩
end

/-! ### d.get(k, x), k None or a text -/
section
variable {X : Cx} {pins : List (Addr × Obj)} {σ : L2.St} {H : Hp} {s : Shared} {a : Addr} {kvs : List (L2.Key × V)} {A : Around} {E : Value → Shared → Prop} {d : V} {r : Value}
theorem d_get2None {Q : Value → Shared → Prop} (I : Inv X pins σ H s) (e : Rd H a (.dK kvs)) (rd : RelV d r) (h : ∀ w' s', Inv X pins σ H s' → RelV d w' → Q w' s') :
    wpAny (model X.prog X.w) A (call (.builtin "dict.get") [.ref a, .none, r]) Q E s := by
  obtain ⟨_, hd, vs, _, dd⟩ := dk_rd I.hok e
  obtain ⟨f, hm, hf⟩ := none_map dd
  refine call_meetsIn PySem.F.slot_dict_get dd.typeIs PySem.F.entry_dict_get (PySem.F.args_dict_get_3 _ _ _) (meets_dict_get_default (noneKind X.prog X.w) a (show (noneKind X.prog X.w).is none .none = true from rfl) hd r) ⟨f, hm, ?_⟩
  rw [hf]
  exact h _ _ (I.tok _) rd
end
def tDGet2N (td ty tx : TE) : TE := fun σ H Q => td σ H fun x H1 => ∃ a, x = .ref a ∧ IsD H1 a ∧ ty σ H1 fun y H2 => tx σ H2 fun z H3 => (∃ o, DGet H3 a y o ∧ Q (o.getD z) H3) ∨ (y = .non ∧ (∃ kvs, Rd H3 a (.dK kvs)) ∧ Q z H3)
theorem d_getN {X : Cx} {pins : List (Addr × Obj)} {σ : L2.St} {H : Hp} {s : Shared} {a : Addr} {A : Around} {E : Value → Shared → Prop} {y z : V} {k r : Value} {Q : VK} (hu : A.units + 1 < cLine) (I : Inv X pins σ H s) (rk : RelV y k) (rz : RelV z r)
    (q : (∃ o, DGet H a y o ∧ Q (o.getD z) H) ∨ (y = .non ∧ (∃ kvs, Rd H a (.dK kvs)) ∧ Q z H)) : wpAny (model X.prog X.w) A (call (.builtin "dict.get") [.ref a, k, r]) (fun u s' => ∃ x H', Inv X pins σ H' s' ∧ RelV x u ∧ Q x H') E s := by
  have back {x : V} (qx : Q x H) (u : Value) (s' : Shared) (I' : Inv X pins σ H s') (rx : RelV x u) : ∃ x H', Inv X pins σ H' s' ∧ RelV x u ∧ Q x H' := ⟨x, H, I', rx, qx⟩
  match q with
  | .inl ⟨_, there, qo⟩ => exact d_get2 hu I there rk rz (back qo)
  | .inr ⟨isN, ⟨_, dict⟩, qz⟩ =>
    cases isN
    cases (show k = Value.none from rk)
    exact d_get2None I dict rz (back qz)
theorem pe_dget2N {X : Cx} {o e f : Expr} {apos cpos : Pos} {td ty tx : TE} (hu : X.A.units + 1 < cLine) (ho : PE X o td) (he : PE X e ty) (hf : PE X f tx) (m : M2 X o "get" apos e f cpos) : PE X (.Call (.Attribute o "get" apos) [e, f] [] cpos) (tDGet2N td ty tx) := by
  refine ⟨fun pins s σ H Q I h => wpAny_Call_method m.base m.few m.line PySem.F.plainAttrs_dict PySem.F.slot_dict_get PySem.F.type_dict_get (thn (ho.run pins s σ H _ I h) ?_)⟩
  rintro _ s1 ⟨_, H1, I1, ra, a, rfl, isd, h1⟩
  cases ra
  have self := isD_at I1 isd
  refine ⟨self.1, self.2.1, m.trees ▸ Calls.callWith_builtin rfl (Calls.evalArgs_plain (Calls.spliced_cons (thn (he.run _ _ _ _ _ I1 h1) ?_)))⟩
  rintro k s2 ⟨y, H2, I2, rk, h2⟩
  exact Calls.spliced_cons (thn (hf.run _ _ _ _ _ I2 h2) fun r s3 ⟨z, H3, I3, rz, h3⟩ => Calls.spliced_nil (d_getN hu I3 rk rz h3))
end CM
set_option Elab.async false
set_option linter.all false
set_option maxRecDepth 100000
set_option maxHeartbeats 4000000
/-! CMO: bodies that fill a list of their own. -/
namespace CM
open PySem L2

def mask (l : Addr) (H : Hp) : Hp := fun b => if b = l then none else H b
theorem mask_at {l b : Addr} {H : Hp} (h : b ≠ l) : mask l H b = H b := if_neg h
theorem mask_le {l : Addr} {H : Hp} : Same (mask l H) H := fun b o h => by
  by_cases e : b = l
  · subst e; simp [mask] at h
  · rwa [mask_at e] at h
theorem mask_same {l : Addr} {H H' : Hp} (e : Same H H') : Same (mask l H) (mask l H') := fun b o h => by
  by_cases q : b = l
  · subst q; simp [mask] at h
  · rw [mask_at q] at h ⊢; exact e b o h
theorem mask_upd {l : Addr} {H : Hp} {o : HO} : mask l (upd H l o) = mask l H := by
  funext b
  by_cases q : b = l
  · subst q; simp [mask]
  · rw [mask_at q, mask_at q, upd_ne q]
theorem mask_new {l : Addr} {H : Hp} (h : H l = none) : mask l H = H := by
  funext b
  by_cases q : b = l
  · subst q; simp [mask, h]
  · rw [mask_at q]
/-- back to the whole: what stood masked stands -/
theorem mask_of {l b : Addr} {H H' : Hp} {o : HO} (e : Same (mask l H) (mask l H')) (hb : b ≠ l) (h : H b = some o) : H' b = some o := by
  have := e b o (by rw [mask_at hb]; exact h)
  rwa [mask_at hb] at this
theorem mask_out {l : Addr} {H H' : Hp} (n : H l = none) (e : Same (mask l H) (mask l H')) : Same H H' := fun b o h => mask_of e (ne_of_none h n) h
theorem ties_mask {l : Addr} {H : Hp} {ys : List V} (h : H l = some (.lst ys)) : Ties H (mask l H) :=
  ⟨fun b xs q => by rw [mask_at (ne_of q h (by intro z; cases z))]; exact q, fun b o xs q => by rw [mask_at (ne_of q h (by intro z; cases z))]; exact q, fun b C dx fs q => by rw [mask_at (ne_of q h (by intro z; cases z))]; exact q⟩

inductive Le : Kn → Kn → Prop
  | nil : Le [] []
  | no {r r2 : Kn} {x : Option D} : Le r r2 → Le (none :: r) (x :: r2)
  | yes {r r2 : Kn} {d : D} : Le r r2 → Le (some d :: r) (some d :: r2)
theorem Le.len {a b : Kn} (h : Le a b) : a.length = b.length := by
  induction h with
  | nil => rfl
  | no _ ih => simp [ih]
  | yes _ ih => simp [ih]
theorem Le.get {a b : Kn} (h : Le a b) : ∀ (k : Nat) d, a[k]? = some (some d) → b[k]? = some (some d) := by
  induction h with
  | nil => intro k d e; simp at e
  | no _ ih => intro k d e; cases k with
    | zero => simp at e
    | succ k => simp at e ⊢; exact ih k d e
  | yes _ ih => intro k d e; cases k with
    | zero => simpa using e
    | succ k => simp at e ⊢; exact ih k d e
theorem EA.le {K : PySem.W.Frag} {H : Hp} {σ : St} {a b : Kn} (h : EA K H σ b) (q : Le a b) : EA K H σ a := ⟨h.1.trans q.len.symm, fun k d e => h.2 k d (q.get k d e)⟩

def tO (K : PySem.W.Frag) (l : Addr) (ρ : Kn) (ds : List D) (ρ' : Kn) (ds' : List D) : TS := fun D σ H => EA K (mask l H) σ ρ ∧ (∃ ys, H l = some (.lst ys) ∧ AtL K (mask l H) ds ys) ∧
  ∀ σ' H' ys', Same (mask l H) (mask l H') → EA K (mask l H') σ' ρ' → H' l = some (.lst ys') → AtL K (mask l H') ds' ys' → D.nx σ' H'
def tOR (K : PySem.W.Frag) (l : Addr) (ρ : Kn) (ds : List D) (d : D) : TS := fun D σ H => EA K (mask l H) σ ρ ∧ (∃ ys, H l = some (.lst ys) ∧ AtL K (mask l H) ds ys) ∧
  ∀ v H', Same (mask l H) (mask l H') → At K H' d v → D.rt v H'
def tOL (K : PySem.W.Frag) (l : Addr) (ρ : Kn) (ds : List D) (es : List D) : TS := fun D σ H => EA K (mask l H) σ ρ ∧ (∃ ys, H l = some (.lst ys) ∧ AtL K (mask l H) ds ys) ∧
  ∀ xs H', Same (mask l H) (mask l H') → H' l = some (.lst xs) → AtL K H' es xs → D.rt (.ref l) H'
section
variable {X : Cx} {ρ ρ1 ρ2 : Kn} {l : Addr} {ds ds1 ds2 es : List D} {st : Stmt} {rest thn els : List Stmt} {d e : D} {x : Expr} {pos p : Pos} {k : Bool} {c : Expr}
theorem so_nil : PSs X [] (tO X.K l ρ ds ρ ds) := pss_w pss_nil fun D σ H ⟨ea, ⟨ys, h, al⟩, q⟩ => q σ H ys (Same.refl _) ea h al
theorem so_seq (h : PS X st (tO X.K l ρ ds ρ1 ds1)) (t : PSs X rest (tO X.K l ρ1 ds1 ρ2 ds2)) : PSs X (st :: rest) (tO X.K l ρ ds ρ2 ds2) :=
  pss_w (pss_cons h t) fun D σ H ⟨ea, ow, q⟩ => ⟨ea, ow, fun σ1 H1 ys1 e1 ea1 h1 al1 => ⟨ea1, ⟨ys1, h1, al1⟩, fun σ2 H2 ys2 e2 => q σ2 H2 ys2 (e1.trans e2)⟩⟩
theorem so_seqR (h : PS X st (tO X.K l ρ ds ρ1 ds1)) (t : PSs X rest (tOR X.K l ρ1 ds1 d)) : PSs X (st :: rest) (tOR X.K l ρ ds d) :=
  pss_w (pss_cons h t) fun D σ H ⟨ea, ow, q⟩ => ⟨ea, ow, fun σ1 H1 ys1 e1 ea1 h1 al1 => ⟨ea1, ⟨ys1, h1, al1⟩, fun v H2 e2 => q v H2 (e1.trans e2)⟩⟩
theorem so_seqL (h : PS X st (tO X.K l ρ ds ρ1 ds1)) (t : PSs X rest (tOL X.K l ρ1 ds1 es)) : PSs X (st :: rest) (tOL X.K l ρ ds es) :=
  pss_w (pss_cons h t) fun D σ H ⟨ea, ow, q⟩ => ⟨ea, ow, fun σ1 H1 ys1 e1 ea1 h1 al1 => ⟨ea1, ⟨ys1, h1, al1⟩, fun xs H2 e2 => q xs H2 (e1.trans e2)⟩⟩
theorem so_toS (h : PSs X rest (tO X.K l ρ ds ρ1 ds1)) (q : ds1 = ds2) : PSs X rest (tO X.K l ρ ds ρ1 ds2) := q ▸ h
theorem so_to (h : PS X st (tO X.K l ρ ds ρ1 ds1)) (q : ds1 = ds2) : PS X st (tO X.K l ρ ds ρ1 ds2) := q ▸ h
theorem so_le (h : PSs X rest (tO X.K l ρ ds ρ1 ds1)) (q : Le ρ2 ρ1) : PSs X rest (tO X.K l ρ ds ρ2 ds1) :=
  pss_w h fun D σ H ⟨ea, ow, k⟩ => ⟨ea, ow, fun σ' H' ys' e1 ea1 h1 al1 => k σ' H' ys' e1 (ea1.le q) h1 al1⟩
theorem so_asg (i : Nat) {y : Str} (h : PD X ρ x d) (nl : noL d = true) (nd : X.N.Nodup) (hN : X.N[i]? = some y := by rfl) (hx : Loc X.env.scope y := by first | exact Or.inl rfl | exact Or.inr rfl)
    (hf : X.fn y = true ∨ X.env.scope.names.lookup y = some .local := by first | exact .inl rfl | exact .inr rfl)
    (hs : swapsWithSole [.Name y p] x pos.line X.env = pure false := by rfl) (hw : swappedStores [.Name y p] x X.env = pure none := by rfl)
    (h1 : (assignEach [.Name y p] X.env).map (·.2) = [assign (.Name y p) X.env] := by rfl) : PS X (.Assign [.Name y p] x pos) (tO X.K l ρ ds (ρ.set i (some d)) ds) :=
  ps_w (ps_asg h (pg_name nd hN hx hf) hs hw h1) fun D σ H ⟨ea, ⟨ys, hl, al⟩, q⟩ => ⟨ea.same mask_le, fun v H1 e1 a1 =>
    q _ H1 ys (mask_same e1) ((ea.same (mask_same e1)).set (a1.ties (ties_mask (e1 _ _ hl)) nl)) (e1 _ _ hl) (al.same (mask_same e1))⟩
theorem so_if (hc : PDT X ρ c k) (h1 : k = true → PSs X thn (tO X.K l ρ ds ρ1 ds1)) (h2 : k = false → PSs X els (tO X.K l ρ ds ρ1 ds1)) : PS X (.If c thn els pos) (tO X.K l ρ ds ρ1 ds1) := by
  cases k with
  | true => exact ps_w (ps_if hc (h1 rfl) pss_never') fun D σ H ⟨ea, ⟨ys, hl, al⟩, q⟩ => ⟨ea.same mask_le, fun H1 e1 => iteT ⟨ea.same (mask_same e1), ⟨ys, e1 _ _ hl, al.same (mask_same e1)⟩, fun σ2 H2 ys2 e2 => q σ2 H2 ys2 ((mask_same e1).trans e2)⟩⟩
  | false => exact ps_w (ps_if hc pss_never' (h2 rfl)) fun D σ H ⟨ea, ⟨ys, hl, al⟩, q⟩ => ⟨ea.same mask_le, fun H1 e1 => iteF ⟨ea.same (mask_same e1), ⟨ys, e1 _ _ hl, al.same (mask_same e1)⟩, fun σ2 H2 ys2 e2 => q σ2 H2 ys2 ((mask_same e1).trans e2)⟩⟩
theorem so_app (ix : Nat) {y : Str} {pf apos cpos : Pos} (hx : PD X ρ x e) (nl : noL e = true) (hl : ds.length ≤ 10000000) (hρ : ρ[ix]? = some (some (.adr l)) := by rfl) (hN : X.N[ix]? = some y := by rfl)
    (hv : Vis X.env.scope y := by first | exact Or.inl rfl | exact Or.inr (Or.inl rfl) | exact Or.inr (Or.inr rfl)) (hd : (y == ("__debug__" : Str)) = false := by decide) (hcd : (y == ("__classdict__" : Str)) = false := by decide)
    (hbase : attributeBase (.Name y pf) "append" X.env (eval (.Name y pf) X.env) = eval (.Name y pf) X.env := by rfl)
    (hfew : ((backTo cpos (starEach [x] X.env)).all (fun x => !x.1) && (backToKw cpos (keywordEach [] X.env)).all (fun x => x.1.isSome)
      && decide ([x].length + ([] : List Keyword).length + (if ([] : List Keyword).isEmpty then 0 else 1) < 30)) = true := by rfl)
    (hline : (apos.endLine == cpos.line) = true := by rfl) (hs : starEach [x] X.env = (false, eval x X.env) :: starEach [] X.env := by rfl) (hplain : (backTo cpos (starEach [] X.env)).any (·.1) = false := by rfl)
    (hsw : swapsWith (.Call (.Attribute (.Name y pf) "append" apos) [x] [] cpos) none pos.line X.env = pure false := by rfl) :
    PS X (.Expr (.Call (.Attribute (.Name y pf) "append" apos) [x] [] cpos) pos) (tO X.K l ρ ds ρ (ds ++ [e])) :=
  ps_w (ps_expr (pe_bm PySem.F.plainAttrs_list PySem.F.slot_list_append PySem.F.type_list_append mt_append (pe_var hN hv hd hcd) (pa_cons hx pa_nil hs) hbase hfew hline hs hplain) hsw) fun D σ H ⟨ea, ⟨ys, h, al⟩, q⟩ => by
    obtain ⟨v, hv1, hv2⟩ := ea.2 ix _ hρ
    simp only [At] at hv2
    subst hv2
    refine ⟨_, hv1, .inl ⟨rfl, _, SqL.of h⟩, ea.same mask_le, fun u H1 e1 a1 => ⟨l, ys, u, rfl, rfl, e1 _ _ h, ?_, ?_⟩⟩
    · rw [al.length]; exact Nat.lt_of_le_of_lt hl (by decide)
    · refine q σ _ (ys ++ [u]) (by rw [mask_upd]; exact mask_same e1) (by rw [mask_upd]; exact ea.same (mask_same e1)) upd_same ?_
      rw [mask_upd]
      exact (al.same (mask_same e1)).append (AtL.cons (a1.ties (ties_mask (e1 _ _ h)) nl) AtL.nil)
/-- from here on it is data -/
theorem so_endR (ix : Nat) (h : SR X (ρ.set ix (some (.lst ds))) rest d) (hρ : ρ[ix]? = some (some (.adr l)) := by rfl) : PSs X rest (tOR X.K l ρ ds d) :=
  pss_w h fun D σ H ⟨ea, ⟨ys, hl, al⟩, q⟩ => by
    refine ⟨?_, fun v H1 e1 a1 => q v H1 (mask_same e1) a1⟩
    obtain ⟨v, hv1, hv2⟩ := ea.2 ix _ hρ
    simp only [At] at hv2
    subst hv2
    have q2 := (ea.same mask_le).set (i := ix) (at_lst (SqL.of hl) (al.same mask_le))
    have e : σ.set ix (some (.ref l)) = σ := by
      refine List.ext_getElem? fun n => ?_
      by_cases hn : n = ix
      · subst hn
        rw [List.getElem?_set_self (List.getElem?_eq_some_iff.mp hv1).1, hv1]
      · rw [List.getElem?_set_ne (Ne.symm hn)]
    rw [e] at q2
    exact q2
theorem so_ret (ix : Nat) {y : Str} {pf : Pos} (hρ : ρ[ix]? = some (some (.adr l)) := by rfl) (hN : X.N[ix]? = some y := by rfl)
    (hv : Vis X.env.scope y := by first | exact Or.inl rfl | exact Or.inr (Or.inl rfl) | exact Or.inr (Or.inr rfl)) (hd : (y == ("__debug__" : Str)) = false := by decide) (hcd : (y == ("__classdict__" : Str)) = false := by decide) : PSs X (.Return (some (.Name y pf)) pos :: rest) (tOL X.K l ρ ds ds) :=
  pss_w (pss_cons (ps_ret (pe_var hN hv hd hcd)) pss_never') fun D σ H ⟨ea, ⟨ys, hl, al⟩, q⟩ => by
    obtain ⟨v, hv1, hv2⟩ := ea.2 ix _ hρ
    simp only [At] at hv2
    subst hv2
    exact ⟨_, hv1, q ys H (Same.refl _) hl (al.same mask_le)⟩
/-- found = [] -/
theorem sr_own (ix : Nat) {y : Str} {pl : Pos} (nd : X.N.Nodup) (h : ∀ l, PSs X rest (tOR X.K l (ρ.set ix (some (.adr l))) [] d)) (hN : X.N[ix]? = some y := by rfl) (hx : Loc X.env.scope y := by first | exact Or.inl rfl | exact Or.inr rfl)
    (hf : X.fn y = true ∨ X.env.scope.names.lookup y = some .local := by first | exact .inl rfl | exact .inr rfl)
    (hs : swapsWithSole [.Name y p] (.List [] pl) pos.line X.env = pure false := by rfl) (hw : swappedStores [.Name y p] (.List [] pl) X.env = pure none := by rfl)
    (h1 : (assignEach [.Name y p] X.env).map (·.2) = [assign (.Name y p) X.env] := by rfl) : SR X ρ (.Assign [.Name y p] (.List [] pl) pos :: rest) d := by
  refine pss_w (pss_cons (ps_asg (pe_lst pa_nil) (pg_name nd hN hx hf) hs hw h1) (u := fun D σ H => ∃ l, tOR X.K l (ρ.set ix (some (.adr l))) [] d D σ H) ⟨fun pins s σ H D I ⟨l, q⟩ => (h l).run pins s σ H D I q⟩) fun D σ H q => ?_
  refine ⟨Nat.zero_le _, fun l hl => ⟨l, ?_, ⟨[], upd_same, AtL.nil⟩, fun v H' e a => q.2 v H' (mask_out hl ?_) a⟩⟩
  · rw [mask_upd, mask_new hl]
    exact q.1.set (by simp only [At])
  · rw [mask_upd] at e; exact e
theorem srl_own (ix : Nat) {y : Str} {pl : Pos} (nd : X.N.Nodup) (h : ∀ l, PSs X rest (tOL X.K l (ρ.set ix (some (.adr l))) [] es)) (hN : X.N[ix]? = some y := by rfl) (hx : Loc X.env.scope y := by first | exact Or.inl rfl | exact Or.inr rfl)
    (hf : X.fn y = true ∨ X.env.scope.names.lookup y = some .local := by first | exact .inl rfl | exact .inr rfl)
    (hs : swapsWithSole [.Name y p] (.List [] pl) pos.line X.env = pure false := by rfl) (hw : swappedStores [.Name y p] (.List [] pl) X.env = pure none := by rfl)
    (h1 : (assignEach [.Name y p] X.env).map (·.2) = [assign (.Name y p) X.env] := by rfl) : SRL X ρ (.Assign [.Name y p] (.List [] pl) pos :: rest) es := by
  refine pss_w (pss_cons (ps_asg (pe_lst pa_nil) (pg_name nd hN hx hf) hs hw h1) (u := fun D σ H => ∃ l, tOL X.K l (ρ.set ix (some (.adr l))) [] es D σ H) ⟨fun pins s σ H D I ⟨l, q⟩ => (h l).run pins s σ H D I q⟩) fun D σ H q => ?_
  refine ⟨Nat.zero_le _, fun l hl => ⟨l, ?_, ⟨[], upd_same, AtL.nil⟩, fun xs H' e hx al => q.2 l xs H' hl (mask_out hl ?_) hx al⟩⟩
  · rw [mask_upd, mask_new hl]
    exact q.1.set (by simp only [At])
  · rw [mask_upd] at e; exact e

/-! ### loops over pairs -/
variable {α : Type} {as : List α} {g1 g2 : α → D} {body : List Stmt} {tg iter : Expr} {F : Nat → List D} {ρ3 : Nat → α → Kn} {i j : Nat}
/-- one turn -/
theorem so_turn {K : PySem.W.Frag} {H1 H' : Hp} {σ : St} {n : Nat} {a : α} {tb : TS} {D : Ends} {v : V} (hle : Le ρ (ρ3 n a)) (hb : ∀ D σ H, tO K l (K2 ρ i j (g1 a) (g2 a)) (F n) (ρ3 n a) (F (n + 1)) D σ H → tb D σ H)
    (p : Same (mask l H1) (mask l H') ∧ EA K (mask l H') σ ρ ∧ ∃ ys, H' l = some (.lst ys) ∧ AtL K (mask l H') (F n) ys) (ha : At K (mask l H') (.tup [g1 a, g2 a]) v) :
    gTup K 2 (gSets [i, j]) v σ H' fun σ2 H2 => tb { D with nx := fun σ H' => Same (mask l H1) (mask l H') ∧ EA K (mask l H') σ ρ ∧ ∃ ys, H' l = some (.lst ys) ∧ AtL K (mask l H') (F (n + 1)) ys, ct := fun σ H' => Same (mask l H1) (mask l H') ∧ EA K (mask l H') σ ρ ∧ ∃ ys, H' l = some (.lst ys) ∧ AtL K (mask l H') (F (n + 1)) ys, bk := D.nx } σ2 H2 := by
  obtain ⟨sm, ea, ys, hl, al⟩ := p
  have q := gPair_ok (Q := fun σ2 H2 => H2 = mask l H' → tb { D with nx := fun σ H' => Same (mask l H1) (mask l H') ∧ EA K (mask l H') σ ρ ∧ ∃ ys, H' l = some (.lst ys) ∧ AtL K (mask l H') (F (n + 1)) ys, ct := fun σ H' => Same (mask l H1) (mask l H') ∧ EA K (mask l H') σ ρ ∧ ∃ ys, H' l = some (.lst ys) ∧ AtL K (mask l H') (F (n + 1)) ys, bk := D.nx } σ2 H') ea ha fun x y ea2 _ => hb _ _ _ ⟨ea2, ⟨ys, hl, al⟩, fun σ3 H3 ys3 e3 ea3 hl3 al3 => ⟨sm.trans e3, ea3.le hle, ys3, hl3, al3⟩⟩
  obtain ⟨c, xs, h1, h2, h3, x, r, h4, y, r2, h5, h6, h7⟩ := q
  exact ⟨c, xs, h1, sqT_same mask_le h2, h3, x, r, h4, y, r2, h5, h6, h7 rfl⟩
theorem so_forP (i j : Nat) (as : List α) (g1 g2 : α → D) (F : Nat → List D) (ρ3 : Nat → α → Kn) (hc : X.calm = true) (hi : PDL X ρ iter (as.map fun x => .tup [g1 x, g2 x])) (hp : PassesOwn (model X.prog X.w) X.A X.env X.xe) (hg : PG X tg (gTup X.K 2 (gSets [i, j])))
    (nl : ∀ a ∈ as, noL (.tup [g1 a, g2 a]) = true) (hle : ∀ n a, as[n]? = some a → Le ρ (ρ3 n a)) (hb : ∀ n a, as[n]? = some a → PSs X body (tO X.K l (K2 ρ i j (g1 a) (g2 a)) (F n) (ρ3 n a) (F (n + 1)))) (hs : ∀ x, foldedSetIterable iter X.env x = pure x := by intro _; rfl) :
    PS X (.For tg iter body [] pos) (tO X.K l ρ (F 0) ρ (F as.length)) := by
  refine ps_w (ps_for (tb := fun D σ H => ∃ n a, as[n]? = some a ∧ tO X.K l (K2 ρ i j (g1 a) (g2 a)) (F n) (ρ3 n a) (F (n + 1)) D σ H) hp hc (pi_list (pd_l hi |> fun h => (hi : PE X iter _))) hg ⟨fun pins s σ H D I ⟨n, a, ha, q⟩ => (hb n a ha).run pins s σ H D I q⟩ hs) fun D σ H ⟨ea, ⟨ys, hl, al⟩, q⟩ => ?_
  refine ⟨ea.same mask_le, fun b xs H1 hb1 e1 hx bl => ⟨b, rfl, ⟨xs, SqL.of hx⟩, ?_⟩⟩
  have hbl : b ≠ l := fun z => by rw [z, hl] at hb1; cases hb1
  have nls : noLs (as.map fun x => .tup [g1 x, g2 x]) = true := noLs_mem.mpr fun d hd => by
    obtain ⟨a, ha, rfl⟩ := List.mem_map.mp hd
    exact nl a ha
  have bl' : AtL X.K (mask l H1) (as.map fun x => .tup [g1 x, g2 x]) xs := bl.ties (ties_mask (e1 _ _ hl)) nls
  refine for_list (K := X.K) (g := gTup X.K 2 (gSets [i, j])) (tb := fun D σ H => ∃ n a, as[n]? = some a ∧ tO X.K l (K2 ρ i j (g1 a) (g2 a)) (F n) (ρ3 n a) (F (n + 1)) D σ H) (D := D) (xs := xs) (fun n σ H' => Same (mask l H1) (mask l H') ∧ EA X.K (mask l H') σ ρ ∧ ∃ ys, H' l = some (.lst ys) ∧ AtL X.K (mask l H') (F n) ys) ⟨Same.refl _, ea.same (mask_same e1), ys, e1 _ _ hl, al.same (mask_same e1)⟩ (fun n σ H' _ p => SqL.of (mask_of p.1 hbl hx)) (fun n v σ H' hv p => ?_) (fun σ H' p => ?_)
  · obtain ⟨d0, hd0, ad⟩ := bl'.get' hv
    obtain ⟨a, ha, rfl⟩ := get_map hd0
    exact so_turn (i := i) (j := j) (tb := fun D σ H => ∃ n a, as[n]? = some a ∧ tO X.K l (K2 ρ i j (g1 a) (g2 a)) (F n) (ρ3 n a) (F (n + 1)) D σ H) (D := D) (hle n a ha) (fun D σ H z => ⟨n, a, ha, z⟩) p (ad.same p.1)
  · obtain ⟨sm, ea2, ys2, hl2, al2⟩ := p
    rw [bl'.length, List.length_map] at al2
    exact q σ H' ys2 ((mask_same e1).trans sm) ea2 hl2 al2
/-- for a, b in a written tuple of pairs -/
theorem so_forT (i j : Nat) (as : List α) (g1 g2 : α → D) (F : Nat → List D) (ρ3 : Nat → α → Kn) (hc : X.calm = true) (hi : PD X ρ iter (.tup (as.map fun x => .tup [g1 x, g2 x]))) (hp : PassesOwn (model X.prog X.w) X.A X.env X.xe) (hg : PG X tg (gTup X.K 2 (gSets [i, j])))
    (nl : ∀ a ∈ as, noL (.tup [g1 a, g2 a]) = true) (hle : ∀ n a, as[n]? = some a → Le ρ (ρ3 n a)) (hb : ∀ n a, as[n]? = some a → PSs X body (tO X.K l (K2 ρ i j (g1 a) (g2 a)) (F n) (ρ3 n a) (F (n + 1)))) (hs : ∀ x, foldedSetIterable iter X.env x = pure x := by intro _; rfl) :
    PS X (.For tg iter body [] pos) (tO X.K l ρ (F 0) ρ (F as.length)) := by
  refine ps_w (ps_for (tb := fun D σ H => ∃ n a, as[n]? = some a ∧ tO X.K l (K2 ρ i j (g1 a) (g2 a)) (F n) (ρ3 n a) (F (n + 1)) D σ H) hp hc (pi_tup hi) hg ⟨fun pins s σ H D I ⟨n, a, ha, q⟩ => (hb n a ha).run pins s σ H D I q⟩ hs) fun D σ H ⟨ea, ⟨ys, hl, al⟩, q⟩ => ?_
  refine ⟨ea.same mask_le, fun v H1 e1 a1 => ?_⟩
  have nls : noL (.tup (as.map fun x => .tup [g1 x, g2 x])) = true := by
    rw [noL]
    exact noLs_mem.mpr fun d hd => by
      obtain ⟨a, ha, rfl⟩ := List.mem_map.mp hd
      exact nl a ha
  have a1' := a1.ties (ties_mask (e1 _ _ hl)) nls
  simp only [At] at a1'
  obtain ⟨b, xs, rfl, hx, bl'⟩ := a1'
  refine ⟨b, rfl, ⟨xs, sqT_same mask_le hx⟩, ?_⟩
  refine for_tup (K := X.K) (g := gTup X.K 2 (gSets [i, j])) (tb := fun D σ H => ∃ n a, as[n]? = some a ∧ tO X.K l (K2 ρ i j (g1 a) (g2 a)) (F n) (ρ3 n a) (F (n + 1)) D σ H) (D := D) (xs := xs) (fun n σ H' => Same (mask l H1) (mask l H') ∧ EA X.K (mask l H') σ ρ ∧ ∃ ys, H' l = some (.lst ys) ∧ AtL X.K (mask l H') (F n) ys) ⟨Same.refl _, ea.same (mask_same e1), ys, e1 _ _ hl, al.same (mask_same e1)⟩ (fun n σ H' _ p => sqT_same (p.1.trans mask_le) hx) (fun n v σ H' hv p => ?_) (fun σ H' p => ?_)
  · obtain ⟨d0, hd0, ad⟩ := bl'.get' hv
    obtain ⟨a, ha, rfl⟩ := get_map hd0
    exact so_turn (i := i) (j := j) (tb := fun D σ H => ∃ n a, as[n]? = some a ∧ tO X.K l (K2 ρ i j (g1 a) (g2 a)) (F n) (ρ3 n a) (F (n + 1)) D σ H) (D := D) (hle n a ha) (fun D σ H z => ⟨n, a, ha, z⟩) p (ad.same p.1)
  · obtain ⟨sm, ea2, ys2, hl2, al2⟩ := p
    rw [bl'.length, List.length_map] at al2
    exact q σ H' ys2 ((mask_same e1).trans sm) ea2 hl2 al2
/-- for a, b in zip(a list, a tuple), both by their names -/
theorem so_forZ (ic ib i j : Nat) (as : List α) (g1 g2 : α → D) (F : Nat → List D) (ρ3 : Nat → α → Kn) {xc xb : Str} {pc pb pz cp tp : Pos} {elts : List Expr} {kk : Nat} (hc : X.calm = true) (hm : X.mg "zip" = none) (hp : PassesOwn (model X.prog X.w) X.A X.env X.xe) (hg : PG X (.Tuple elts kk tp) (gTup X.K 2 (gSets [i, j])))
    (hle : ∀ n a, as[n]? = some a → Le ρ (ρ3 n a)) (hb : ∀ n a, as[n]? = some a → PSs X body (tO X.K l (K2 ρ i j (g1 a) (g2 a)) (F n) (ρ3 n a) (F (n + 1))))
    (h1 : ρ[ic]? = some (some (.lst (as.map g1))) := by rfl) (h2 : ρ[ib]? = some (some (.tup (as.map g2))) := by rfl) (n1 : X.N[ic]? = some xc := by rfl) (n2 : X.N[ib]? = some xb := by rfl)
    (v1 : Vis X.env.scope xc := by first | exact Or.inl rfl | exact Or.inr (Or.inl rfl) | exact Or.inr (Or.inr rfl)) (v2 : Vis X.env.scope xb := by first | exact Or.inl rfl | exact Or.inr (Or.inl rfl) | exact Or.inr (Or.inr rfl))
    (q1 : (xc == ("__debug__" : Str)) = false := by decide) (q2 : (xc == ("__classdict__" : Str)) = false := by decide) (q3 : (xb == ("__debug__" : Str)) = false := by decide) (q4 : (xb == ("__classdict__" : Str)) = false := by decide) (hgz : Gl X "zip" := by exact rfl)
    (hs1 : starEach [.Name xc pc, .Name xb pb] X.env = (false, eval (.Name xc pc) X.env) :: starEach [.Name xb pb] X.env := by rfl) (hs2 : starEach [Expr.Name xb pb] X.env = (false, eval (Expr.Name xb pb) X.env) :: starEach [] X.env := by rfl) (hpl : (backTo cp (starEach [Expr.Name xb pb] X.env)).any (·.1) = false := by rfl)
    (hs : ∀ x, foldedSetIterable (.Call (.Name "zip" pz) [.Name xc pc, .Name xb pb] [] cp) X.env x = pure x := by intro _; rfl) :
    PS X (.For (.Tuple elts kk tp) (.Call (.Name "zip" pz) [.Name xc pc, .Name xb pb] [] cp) body [] pos) (tO X.K l ρ (F 0) ρ (F as.length)) := by
  refine ps_w (ps_for (tb := fun D σ H => ∃ n a, as[n]? = some a ∧ tO X.K l (K2 ρ i j (g1 a) (g2 a)) (F n) (ρ3 n a) (F (n + 1)) D σ H) hp hc (pi_zipM (l := true) (m := false) hc hgz hm (pa_cons (pe_var n1 v1 q1 q2) (pa_cons (pe_var n2 v2 q3 q4) pa_nil hs2) hs1) hs1 hpl) hg ⟨fun pins s σ H D I ⟨n, a, ha, q⟩ => (hb n a ha).run pins s σ H D I q⟩ hs) fun D σ H ⟨ea, ⟨ys, hl, al⟩, q⟩ => ?_
  obtain ⟨u1, hu1, a1⟩ := ea.2 ic _ h1
  obtain ⟨u2, hu2, a2⟩ := ea.2 ib _ h2
  simp only [At] at a1 a2
  obtain ⟨b1, xs, rfl, hx, bl1⟩ := a1
  obtain ⟨b2, zs, rfl, hz, bl2⟩ := a2
  refine ⟨_, hu1, _, hu2, b1, b2, xs, zs, rfl, mask_le.seq hx, sqT_same mask_le hz, ?_⟩
  refine for_it (walk_zipM (K := X.K) (l := true) (m := false) (xs := xs) (ys := zs) (by rw [bl1.length, bl2.length, List.length_map, List.length_map])) (g := gTup X.K 2 (gSets [i, j])) (tb := fun D σ H => ∃ n a, as[n]? = some a ∧ tO X.K l (K2 ρ i j (g1 a) (g2 a)) (F n) (ρ3 n a) (F (n + 1)) D σ H) (D := D) (fun n σ H' => Same (mask l H) (mask l H') ∧ EA X.K (mask l H') σ ρ ∧ ∃ ys, H' l = some (.lst ys) ∧ AtL X.K (mask l H') (F n) ys) ⟨Same.refl _, ea, ys, hl, al⟩ (fun n σ H' _ p => ⟨(p.1.trans mask_le).seq hx, sqT_same (p.1.trans mask_le) hz⟩) (fun n v' σ H' H'' _ p yy => ?_) (fun σ H' p => ?_)
  · obtain ⟨T, x, y, rfl, hT, rfl, hx', hy'⟩ := yy
    obtain ⟨d0, hd0, ad⟩ := bl1.get' hx'
    obtain ⟨a, ha, rfl⟩ := get_map hd0
    obtain ⟨d1, hd1, bd⟩ := bl2.get' hy'
    obtain ⟨a', ha', rfl⟩ := get_map hd1
    rw [ha] at ha'; cases ha'
    have e2 : Same H' (upd H' T (.tup [x, y])) := same_new hT
    obtain ⟨sm, ea2, ys2, hl2, al2⟩ := p
    have hTl : T ≠ l := fun z => by rw [z, hl2] at hT; cases hT
    have ap : At X.K (mask l (upd H' T (.tup [x, y]))) (.tup [g1 a, g2 a]) (.ref T) := at_tup (SqT.of (by rw [mask_at hTl]; exact upd_same)) (AtL.cons (ad.same (sm.trans (mask_same e2))) (AtL.cons (bd.same (sm.trans (mask_same e2))) AtL.nil))
    exact so_turn (i := i) (j := j) (tb := fun D σ H => ∃ n a, as[n]? = some a ∧ tO X.K l (K2 ρ i j (g1 a) (g2 a)) (F n) (ρ3 n a) (F (n + 1)) D σ H) (D := D) (hle n a ha) (fun D σ H z => ⟨n, a, ha, z⟩) ⟨sm.trans (mask_same e2), ea2.same (mask_same e2), ys2, e2 _ _ hl2, al2.same (mask_same e2)⟩ ap
  · obtain ⟨sm, ea2, ys2, hl2, al2⟩ := p
    rw [bl1.length, List.length_map] at al2
    exact q σ H' ys2 sm ea2 hl2 al2
/-- one turn, a nested target -/
theorem so_turn3 {K : PySem.W.Frag} {H1 H' : Hp} {σ : St} {n k : Nat} {a : α} {h1 h2 : α → D} {tb : TS} {D : Ends} {v : V} (hle : Le ρ (ρ3 n a)) (hb : ∀ D σ H, tO K l ((K2 ρ i j (h1 a) (h2 a)).set k (some (g2 a))) (F n) (ρ3 n a) (F (n + 1)) D σ H → tb D σ H)
    (p : Same (mask l H1) (mask l H') ∧ EA K (mask l H') σ ρ ∧ ∃ ys, H' l = some (.lst ys) ∧ AtL K (mask l H') (F n) ys) (ha : At K (mask l H') (.tup [.tup [h1 a, h2 a], g2 a]) v) :
    gTup K 2 (gCons (gTup K 2 (gSets [i, j])) (gSets [k])) v σ H' fun σ2 H2 => tb { D with nx := fun σ H' => Same (mask l H1) (mask l H') ∧ EA K (mask l H') σ ρ ∧ ∃ ys, H' l = some (.lst ys) ∧ AtL K (mask l H') (F (n + 1)) ys, ct := fun σ H' => Same (mask l H1) (mask l H') ∧ EA K (mask l H') σ ρ ∧ ∃ ys, H' l = some (.lst ys) ∧ AtL K (mask l H') (F (n + 1)) ys, bk := D.nx } σ2 H2 := by
  obtain ⟨sm, ea, ys, hl, al⟩ := p
  simp only [At] at ha
  obtain ⟨c, xs, rfl, hx, bl⟩ := ha
  obtain ⟨u, w, rfl, a1, a2⟩ := atL_two bl
  simp only [At] at a1
  obtain ⟨c2, xs2, rfl, hx2, bl2⟩ := a1
  obtain ⟨u1, u2, rfl, b1, b2⟩ := atL_two bl2
  refine ⟨c, _, rfl, sqT_same mask_le hx, rfl, _, _, rfl, ⟨c2, _, rfl, sqT_same mask_le hx2, rfl, u1, _, rfl, u2, _, rfl, rfl, w, _, rfl, rfl, ?_⟩⟩
  exact hb _ _ _ ⟨((ea.set b1).set b2).set a2, ⟨ys, hl, al⟩, fun σ3 H3 ys3 e3 ea3 hl3 al3 => ⟨sm.trans e3, ea3.le hle, ys3, hl3, al3⟩⟩
/-- for (a, b), c in zip(a list of pairs, a tuple), both by their names -/
theorem so_forZ3 (ic ib i j k : Nat) (as : List α) (h1 h2 g2 : α → D) (F : Nat → List D) (ρ3 : Nat → α → Kn) {xc xb : Str} {pc pb pz cp tp : Pos} {elts : List Expr} {kk : Nat} (hc : X.calm = true) (hm : X.mg "zip" = none) (hp : PassesOwn (model X.prog X.w) X.A X.env X.xe) (hg : PG X (.Tuple elts kk tp) (gTup X.K 2 (gCons (gTup X.K 2 (gSets [i, j])) (gSets [k]))))
    (hle : ∀ n a, as[n]? = some a → Le ρ (ρ3 n a)) (hb : ∀ n a, as[n]? = some a → PSs X body (tO X.K l ((K2 ρ i j (h1 a) (h2 a)).set k (some (g2 a))) (F n) (ρ3 n a) (F (n + 1))))
    (r1 : ρ[ic]? = some (some (.lst (as.map fun x => .tup [h1 x, h2 x]))) := by rfl) (r2 : ρ[ib]? = some (some (.tup (as.map g2))) := by rfl) (n1 : X.N[ic]? = some xc := by rfl) (n2 : X.N[ib]? = some xb := by rfl)
    (v1 : Vis X.env.scope xc := by first | exact Or.inl rfl | exact Or.inr (Or.inl rfl) | exact Or.inr (Or.inr rfl)) (v2 : Vis X.env.scope xb := by first | exact Or.inl rfl | exact Or.inr (Or.inl rfl) | exact Or.inr (Or.inr rfl))
    (q1 : (xc == ("__debug__" : Str)) = false := by decide) (q2 : (xc == ("__classdict__" : Str)) = false := by decide) (q3 : (xb == ("__debug__" : Str)) = false := by decide) (q4 : (xb == ("__classdict__" : Str)) = false := by decide) (hgz : Gl X "zip" := by exact rfl)
    (hs1 : starEach [.Name xc pc, .Name xb pb] X.env = (false, eval (.Name xc pc) X.env) :: starEach [.Name xb pb] X.env := by rfl) (hs2 : starEach [Expr.Name xb pb] X.env = (false, eval (Expr.Name xb pb) X.env) :: starEach [] X.env := by rfl) (hpl : (backTo cp (starEach [Expr.Name xb pb] X.env)).any (·.1) = false := by rfl)
    (hs : ∀ x, foldedSetIterable (.Call (.Name "zip" pz) [.Name xc pc, .Name xb pb] [] cp) X.env x = pure x := by intro _; rfl) :
    PS X (.For (.Tuple elts kk tp) (.Call (.Name "zip" pz) [.Name xc pc, .Name xb pb] [] cp) body [] pos) (tO X.K l ρ (F 0) ρ (F as.length)) := by
  refine ps_w (ps_for (tb := fun D σ H => ∃ n a, as[n]? = some a ∧ tO X.K l ((K2 ρ i j (h1 a) (h2 a)).set k (some (g2 a))) (F n) (ρ3 n a) (F (n + 1)) D σ H) hp hc (pi_zipM (l := true) (m := false) hc hgz hm (pa_cons (pe_var n1 v1 q1 q2) (pa_cons (pe_var n2 v2 q3 q4) pa_nil hs2) hs1) hs1 hpl) hg ⟨fun pins s σ H D I ⟨n, a, ha, q⟩ => (hb n a ha).run pins s σ H D I q⟩ hs) fun D σ H ⟨ea, ⟨ys, hl, al⟩, q⟩ => ?_
  obtain ⟨u1, hu1, a1⟩ := ea.2 ic _ r1
  obtain ⟨u2, hu2, a2⟩ := ea.2 ib _ r2
  simp only [At] at a1 a2
  obtain ⟨b1, xs, rfl, hx, bl1⟩ := a1
  obtain ⟨b2, zs, rfl, hz, bl2⟩ := a2
  refine ⟨_, hu1, _, hu2, b1, b2, xs, zs, rfl, mask_le.seq hx, sqT_same mask_le hz, ?_⟩
  refine for_it (walk_zipM (K := X.K) (l := true) (m := false) (xs := xs) (ys := zs) (by rw [bl1.length, bl2.length, List.length_map, List.length_map])) (g := gTup X.K 2 (gCons (gTup X.K 2 (gSets [i, j])) (gSets [k]))) (tb := fun D σ H => ∃ n a, as[n]? = some a ∧ tO X.K l ((K2 ρ i j (h1 a) (h2 a)).set k (some (g2 a))) (F n) (ρ3 n a) (F (n + 1)) D σ H) (D := D) (fun n σ H' => Same (mask l H) (mask l H') ∧ EA X.K (mask l H') σ ρ ∧ ∃ ys, H' l = some (.lst ys) ∧ AtL X.K (mask l H') (F n) ys) ⟨Same.refl _, ea, ys, hl, al⟩ (fun n σ H' _ p => ⟨(p.1.trans mask_le).seq hx, sqT_same (p.1.trans mask_le) hz⟩) (fun n v' σ H' H'' _ p yy => ?_) (fun σ H' p => ?_)
  · obtain ⟨T, x, y, rfl, hT, rfl, hx', hy'⟩ := yy
    obtain ⟨d0, hd0, ad⟩ := bl1.get' hx'
    obtain ⟨a, ha, rfl⟩ := get_map hd0
    obtain ⟨d1, hd1, bd⟩ := bl2.get' hy'
    obtain ⟨a', ha', rfl⟩ := get_map hd1
    rw [ha] at ha'; cases ha'
    have e2 : Same H' (upd H' T (.tup [x, y])) := same_new hT
    obtain ⟨sm, ea2, ys2, hl2, al2⟩ := p
    have hTl : T ≠ l := fun z => by rw [z, hl2] at hT; cases hT
    have ap : At X.K (mask l (upd H' T (.tup [x, y]))) (.tup [.tup [h1 a, h2 a], g2 a]) (.ref T) := at_tup (SqT.of (by rw [mask_at hTl]; exact upd_same)) (AtL.cons (ad.same (sm.trans (mask_same e2))) (AtL.cons (bd.same (sm.trans (mask_same e2))) AtL.nil))
    exact so_turn3 (i := i) (j := j) (k := k) (tb := fun D σ H => ∃ n a, as[n]? = some a ∧ tO X.K l ((K2 ρ i j (h1 a) (h2 a)).set k (some (g2 a))) (F n) (ρ3 n a) (F (n + 1)) D σ H) (D := D) (hle n a ha) (fun D σ H z => ⟨n, a, ha, z⟩) ⟨sm.trans (mask_same e2), ea2.same (mask_same e2), ys2, e2 _ _ hl2, al2.same (mask_same e2)⟩ ap
  · obtain ⟨sm, ea2, ys2, hl2, al2⟩ := p
    rw [bl1.length, List.length_map] at al2
    exact q σ H' ys2 sm ea2 hl2 al2
end
end CM
set_option Elab.async false
set_option linter.all false
set_option maxRecDepth 100000
set_option maxHeartbeats 4000000
/-! CM4: what the top has written; constants, isinstance, checks, Rules.word. The structure Top is printed by gen_top.py. -/
namespace CM
open PySem L2
open PyProof.Rows (envOfC)

/-- a constant of the module: data at an object of the written part -/
def GlobAt (K : PySem.W.Frag) (mg : Str → Option Value) (x : Str) (d : D) : Prop := ∃ a, mg x = some (.ref a) ∧ ∀ H, At K H d (.ref a)
/-- a class of the text, as isinstance and calls ask of it -/
structure Own (K : PySem.W.Frag) (mg : Str → Option Value) (x : Str) : Prop where
  mg : mg x = some (.ref (He.ga K x))
  cl : Cls K (He.ga K x)
  ha : PySem.W.findIn K (.ref (He.ga K x)) "__class__" = some (some (.builtin "object.__class__"))
  hn : PySem.W.specialIn K (.builtin "object.__class__") "__get__" = some (some (.builtin "getset_descriptor.__get__"))
  htk : PySem.W.takesIn K (.builtin "object.__class__") = some true
  hm : PySem.W.mroIn K (He.ga K x) (.type "object") = some true
/-- a method of it -/
def MethAt (K : PySem.W.Frag) (C m : Str) (st : Stmt) (kws : List (Str × V)) : Prop := ∃ fd, FunD K m (C ++ "." ++ m) (defArgs st) (defBody st) (defScope st) [] kws (He.ma K (He.ga K C) m) fd ∧ PySem.W.findIn K (.ref (He.ga K C)) m = some (some (.ref (He.ma K (He.ga K C) m))) ∧ PySem.W.isFn K (.ref (He.ma K (He.ga K C) m)) = true

def dPARTS : D := .tup [.str "record", .str "guard", .str "first", .str "mark", .str "clear", .str "order"]
def dCAN_BE : D := .tup [.tup [.str "part", .str "step", .str "whole"], .tup [.str "no", .str "yes"], .tup [.str "no", .str "yes"], .tup [.str "ahead", .str "behind"], .tup [.str "ahead", .str "behind", .str "never"], .tup [.str "first", .str "second"]]
def dDEEDS : D := .tup [.str "begin", .str "read", .str "clear", .str "end", .str "write both", .str "write first", .str "write second"]
def dWAITING : D := .tup [.str "due", .str "doubled"]
def dSTART : D := .tup [.str "none", .bl false, .bl false, .tup [.tup [.bl false, .non], .tup [.bl false, .non]]]
def dWISHES : D := .tup [.str "elder", .str "left", .str "torn", .str "twice"]
def dBEGIN : D := .tup [.tup [.str "none", .bl false, .bl false, .tup [.tup [.bl false, .non], .tup [.bl false, .non]]], .non]
def dRESTING : D := .tup [.str "none", .str "kept"]
def dBARE : D := .tup [.tup [.bl false, .non], .tup [.bl false, .non]]
structure Top (K : PySem.W.Frag) (w : World) (mg : Str → Option Value) : Prop where
  dwords_for : DefAt K mg "words_for" (top 10)
  dcheck_name : DefAt K mg "check_name" (top 12)
  dcheck_rules : DefAt K mg "check_rules" (top 13)
  dcan_be_done : DefAt K mg "can_be_done" (top 19)
  ddeeds_in : DefAt K mg "deeds_in" (top 20)
  dis_to_be_read : DefAt K mg "is_to_be_read" (top 21)
  dsettled : DefAt K mg "settled" (top 22)
  dbegun : DefAt K mg "begun" (top 23)
  dread_half : DefAt K mg "read_half" (top 24)
  dfate_behind : DefAt K mg "fate_behind" (top 25)
  dwritten : DefAt K mg "written" (top 26)
  ddone : DefAt K mg "done" (top 27)
  dway_to : DefAt K mg "way_to" (top 28)
  dcheck_wish : DefAt K mg "check_wish" (top 31)
  dstands_broken : DefAt K mg "stands_broken" (top 32)
  dgoes_wrong : DefAt K mg "goes_wrong" (top 33)
  dcheck_again : DefAt K mg "check_again" (top 40)
  dcheck_loss : DefAt K mg "check_loss" (top 41)
  ddeeds_at : DefAt K mg "deeds_at" (top 42)
  dpast_behind : DefAt K mg "past_behind" (top 43)
  dlost_from : DefAt K mg "lost_from" (top 44)
  dplace_behind : DefAt K mg "place_behind" (top 45)
  dplaces_on : DefAt K mg "places_on" (top 46)
  dall_places : DefAt K mg "all_places" (top 47)
  dbegins_wrong : DefAt K mg "begins_wrong" (top 48)
  dare_calm : DefAt K mg "are_calm" (top 49)
  dis_upset : DefAt K mg "is_upset" (top 50)
  dborne : DefAt K mg "borne" (top 51)
  dplaces_after : ∃ f fd, FunD K "places_after" "places_after" (defArgs (top 52)) (defBody (top 52)) (defScope (top 52)) [] [("again", .bl false)] f fd ∧ mg "places_after" = some (.ref f)
  dbear : ∃ f fd, FunD K "bear" "bear" (defArgs (top 53)) (defBody (top 53)) (defScope (top 53)) [] [("again", .bl false)] f fd ∧ mg "bear" = some (.ref f)
  d_law_number : DefAt K mg "_law_number" (top 55)
  d_law_words : DefAt K mg "_law_words" (top 56)
  d_law_made : DefAt K mg "_law_made" (top 57)
  d_law_marked : DefAt K mg "_law_marked" (top 58)
  d_law_begun : DefAt K mg "_law_begun" (top 59)
  d_law_read : DefAt K mg "_law_read" (top 60)
  d_law_written : DefAt K mg "_law_written" (top 61)
  d_law_moves : DefAt K mg "_law_moves" (top 62)
  d_law_bad : DefAt K mg "_law_bad" (top 63)
  d_law_is_left : DefAt K mg "_law_is_left" (top 64)
  d_law_kept_write : DefAt K mg "_law_kept_write" (top 69)
  d_law_lose_moves : DefAt K mg "_law_lose_moves" (top 70)
  d_law_lose_bad : DefAt K mg "_law_lose_bad" (top 71)
  d_law_lose_walk : DefAt K mg "_law_lose_walk" (top 72)
  d_law_is_calm : DefAt K mg "_law_is_calm" (top 73)
  d_law_lose_row : DefAt K mg "_law_lose_row" (top 74)
  d_law_is_upset : DefAt K mg "_law_is_upset" (top 75)
  d_law_wish_right : DefAt K mg "_law_wish_right" (top 76)
  d_law_copies_right : DefAt K mg "_law_copies_right" (top 77)
  dlaw : DefAt K mg "law" (top 78)
  gPARTS : GlobAt K mg "PARTS" dPARTS
  gCAN_BE : GlobAt K mg "CAN_BE" dCAN_BE
  gDEEDS : GlobAt K mg "DEEDS" dDEEDS
  gWAITING : GlobAt K mg "WAITING" dWAITING
  gSTART : GlobAt K mg "START" dSTART
  gWISHES : GlobAt K mg "WISHES" dWISHES
  gBEGIN : GlobAt K mg "BEGIN" dBEGIN
  gRESTING : GlobAt K mg "RESTING" dRESTING
  gBARE : GlobAt K mg "BARE" dBARE
  xPARTS : ∃ a o, mg "PARTS" = some (.ref a) ∧ K.lookup a = some o ∧ o.cls = .type "tuple" ∧ o.dict = none ∧ ∀ H, SqT K H a ((["record", "guard", "first", "mark", "clear", "order"] : List Str).map V.str)
  fisinstance : mg "isinstance" = none
  fstr : mg "str" = none
  fbool : mg "bool" = none
  flist : mg "list" = none
  ftuple : mg "tuple" = none
  fdict : mg "dict" = none
  flen : mg "len" = none
  fall : mg "all" = none
  fzip : mg "zip" = none
  fenumerate : mg "enumerate" = none
  fint : mg "int" = none
  fsum : mg "sum" = none
  oRules : Own K mg "Rules"
  mkRules : PySem.W.makesIn K (He.ga K "Rules") = true ∧ PySem.W.keepIn K (.ref (He.ga K "Rules")) = true
  oCalm : Own K mg "Calm"
  mkCalm : PySem.W.makesIn K (He.ga K "Calm") = true ∧ PySem.W.keepIn K (.ref (He.ga K "Calm")) = true
  oUpset : Own K mg "Upset"
  mkUpset : PySem.W.makesIn K (He.ga K "Upset") = true ∧ PySem.W.keepIn K (.ref (He.ga K "Upset")) = true
  aRow : NoAttr K (He.ga K "Rules") "row"
  aPlaces : NoAttr K (He.ga K "Calm") "places"
  aHistory : NoAttr K (He.ga K "Upset") "history"
  mRinit : MethAt K "Rules" "__init__" (inClass (top 11) 0) [("guard", .str "no"), ("first", .str "no"), ("mark", .str "ahead"), ("clear", .str "ahead"), ("order", .str "first")]
  mRword : MethAt K "Rules" "word" (inClass (top 11) 3) []
  mCalminit : MethAt K "Calm" "__init__" (inClass (top 38) 0) []
  mCalmeq : MethAt K "Calm" "__eq__" (inClass (top 38) 1) []
  mCalmshows : MethAt K "Calm" "shows" (inClass (top 38) 2) [("again", .bl false)]
  mUpsetinit : MethAt K "Upset" "__init__" (inClass (top 39) 0) []
  mUpseteq : MethAt K "Upset" "__eq__" (inClass (top 39) 1) []
  mUpsetshows : MethAt K "Upset" "shows" (inClass (top 39) 2) [("again", .bl false)]
  kCU : PySem.W.kitOne K (.ref (He.ga K "Calm")) (.ref (He.ga K "Upset")) = some false
  kUC : PySem.W.kitOne K (.ref (He.ga K "Upset")) (.ref (He.ga K "Calm")) = some false
  neCalm : PySem.W.findIn K (.ref (He.ga K "Calm")) "__ne__" = some (some (.builtin "object.__ne__"))
  neUpset : PySem.W.findIn K (.ref (He.ga K "Upset")) "__ne__" = some (some (.builtin "object.__ne__"))
  nfCU : PySem.W.notFirst K (He.ga K "Calm") (.ref (He.ga K "Upset")) = true
  wWRITTEN : ∃ a es n, mg "WRITTEN" = some (.ref a) ∧ KDict K w a es n ∧ (∀ d : Deed, isWr d = true → ∃ u v, PySem.W.nsIn K a d.str = some (some u) ∧ RelV v u ∧ ∀ H, At K H (.tup [.bl (wr1 d), .bl (wr2 d)]) v) ∧ ∀ d : Deed, isWr d = false → PySem.W.nsIn K a d.str = some none

section
variable {X : Cx} {ρ : Kn} {e a b : Expr} {es : List Expr} {d d1 d2 : D} {ds : List D} {pos p p2 : Pos} {k : Nat} {x : Str}
theorem pd_gl (h : GlobAt X.K X.mg x d) (hg : Gl X x := by exact rfl) (hd : (x == ("__debug__" : Str)) = false := by decide) : PD X ρ (.Name x pos) d := by
  obtain ⟨a, hm, h⟩ := h
  exact pd_glob hg hm h hd
/-- isinstance(x, T) of data and a built-in type -/
theorem pd_isiB {T : String} {t : Value} {r : Bool} (fi : X.mg "isinstance" = none) (ft : X.mg x = none) (hv : bootBuiltins x = some (.type T)) (ha : PD X ρ a d)
    (hty : ∀ H v, At X.K H d v → TyX X.K H v t) (hk : PySem.W.kitOne X.K t (.type T) = some r) (hgi : Gl X "isinstance" := by exact rfl) (hg : Gl X x := by exact rfl)
    (hn : x ≠ "__name__" := by decide) (hdb : (x == ("__debug__" : Str)) = false := by decide)
    (h1 : starEach [a, .Name x p2] X.env = (false, eval a X.env) :: starEach [.Name x p2] X.env := by rfl) (h2 : starEach [Expr.Name x p2] X.env = (false, eval (Expr.Name x p2) X.env) :: starEach [] X.env := by rfl)
    (hpl : (backTo pos (starEach [Expr.Name x p2] X.env)).any (·.1) = false := by rfl) : PD X ρ (.Call (.Name "isinstance" p) [a, .Name x p2] [] pos) (.bl r) :=
  pe_w (pe_callB call_isi hgi fi (by decide +kernel) (pa_cons ha (pa_cons (pe_bltn (v := .ty T) hg ft hv rfl hn hdb) pa_nil h2) h1) (by decide) (by decide) h1 hpl) fun σ H Q q => ⟨q.1, fun v H1 e1 a1 =>
    ⟨v, .ty T, t, .type T, r, rfl, .ty T, hty H1 v a1, hk, q.2 _ H1 e1 (by simp only [At])⟩⟩
/-- isinstance(x, C), C a class of the text -/
theorem pd_isiC {C : Str} {t : Value} {r : Bool} (fi : X.mg "isinstance" = none) (O : Own X.K X.mg C) (ha : PD X ρ a d)
    (hty : ∀ H v, At X.K H d v → TyX X.K H v t) (hk : PySem.W.kitOne X.K t (.ref (He.ga X.K C)) = some r) (hgi : Gl X "isinstance" := by exact rfl) (hg : Gl X C := by exact rfl) (hdb : (C == ("__debug__" : Str)) = false := by decide)
    (h1 : starEach [a, .Name C p2] X.env = (false, eval a X.env) :: starEach [.Name C p2] X.env := by rfl) (h2 : starEach [Expr.Name C p2] X.env = (false, eval (Expr.Name C p2) X.env) :: starEach [] X.env := by rfl)
    (hpl : (backTo pos (starEach [Expr.Name C p2] X.env)).any (·.1) = false := by rfl) : PD X ρ (.Call (.Name "isinstance" p) [a, .Name C p2] [] pos) (.bl r) :=
  pe_w (pe_callB call_isi hgi fi (by decide +kernel) (pa_cons ha (pa_cons (pe_glob (v := .ref (He.ga X.K C)) hg O.mg rfl hdb) pa_nil h2) h1) (by decide) (by decide) h1 hpl) fun σ H Q q => ⟨q.1, fun v H1 e1 a1 =>
    ⟨v, _, t, _, r, rfl, .own _, hty H1 v a1, hk, q.2 _ H1 e1 (by simp only [At])⟩⟩
theorem tyStr {K : PySem.W.Frag} {x : Str} : ∀ H v, At K H (.str x) v → TyX K H v (.type "str") := fun H v h => by
  simp only [At] at h; subst h; exact .base (.str _)
theorem tyBl {K : PySem.W.Frag} {x : Bool} : ∀ H v, At K H (.bl x) v → TyX K H v (.type "bool") := fun H v h => by
  simp only [At] at h; subst h; exact .base (.bl _)
theorem tyRul {K : PySem.W.Frag} {mg : Str → Option Value} {ws : List Str} (O : Own K mg "Rules") : ∀ H v, At K H (.rul ws) v → TyX K H v (.ref (He.ga K "Rules")) := fun H v h => by
  simp only [At] at h
  obtain ⟨a, dx, t, rfl, h, _⟩ := h
  exact .base (.ins h O.cl O.ha O.hn O.htk O.hm)
theorem kitSelf {K : PySem.W.Frag} {C : Addr} : PySem.W.kitOne K (.ref C) (.ref C) = some true := by
  unfold PySem.W.kitOne
  rw [if_pos (by simp)]
theorem pdt_is {c : Expr} {k k' : Bool} (h : PDT X ρ c k) (q : k = k') : PDT X ρ c k' := q ▸ h
/-- a test known to fail, with what never runs behind it -/
theorem sr_skip {st : List Stmt} {rest : List Stmt} {c : Expr} (hc : PDT X ρ c false) (h : SR X ρ rest d) : SR X ρ (.If c st [] pos :: rest) d :=
  sr_if (k := false) hc (fun e => by cases e) fun _ => h
theorem sn_skip {st : List Stmt} {c : Expr} (hc : PDT X ρ c false) : SN1 X ρ (.If c st [] pos) ρ :=
  sn_if (k := false) hc (fun e => by cases e) fun _ => sn_nil
/-- a statement that is a call -/
theorem sn_exp (h : PD X ρ e d) (hs : swapsWith e none pos.line X.env = pure false := by rfl) : SN1 X ρ (.Expr e pos) ρ :=
  ps_w (ps_expr h hs) fun D σ H q => ⟨q.1, fun v H1 e1 a1 => q.2 σ H1 e1 (q.1.same e1)⟩
/-- falls through: None -/
theorem sr_end {st : List Stmt} {t : TS} (h : SN X ρ st ρ) : PSs X st (fun D σ H => EA X.K H σ ρ ∧ ∀ σ' H', Same H H' → EA X.K H' σ' ρ → D.nx σ' H') := h
end
section
variable {P : Program} {w : World} {K : PySem.W.Frag} {mg : Str → Option Value} {base : Heap}
/-- a def that falls off its end: None -/
theorem dokN {x : Str} {st : Stmt} {N ps : List Str} {k : Nat} {R : List D → Prop} (T : DefAt K mg x st) (S : FnScope N ps (defScope st)) (hR : ∀ ds, R ds → ds.length = ps.length)
    (hb : ∀ (kV doc pm : Value) (an : Option Addr) (cdv ct : Value) (us : List Value), us.length = ps.length → bindArgs (PySem.W.fnOf x x (defArgs st) (defBody st) (defScope st) .none kV doc pm an cdv ct) ⟨us, []⟩ = pure (ps.zip us))
    (h : ∀ ds, R ds → ∀ (f : Addr) (cdv : Value) (A : Around) (outer : List Env) (s : Shared) (H : Hp) (E : XK), Room k (A.deeper (envOfC x (defScope st) s.heap.objs.size f cdv)) →
      SN (CxD P w K mg base N x st f cdv A outer s H E) (kn0 N ds) (defBody st) (kn0 N ds)) : Dok P w K mg base (k + 1) x ps (spD K fun ds d => R ds ∧ d = .non) :=
  dok T S (fun vs H Q E ⟨ds, d, r, al, _⟩ => by rw [al.length]; exact hR ds r.1) hb fun f cdv A outer s H vs Q E hr ⟨ds, d, r, al, q⟩ =>
    ⟨_, h ds r.1 f cdv A outer s H E hr, EA.start al, fun σ' H' e ea => q _ H' e (by obtain ⟨_, rfl⟩ := r; simp only [At])⟩
theorem sc_check_name : FnScope ["name"] ["name"] (defScope (top 12)) := ⟨rfl, rfl, rfl, by decide +kernel, rfl, by decide +kernel, by decide +kernel⟩
theorem ok_check_name (T : Top K w mg) : Dok P w K mg base 1 "check_name" ["name"] (spD K fun ds d => (∃ x, ds = [.str x] ∧ inD (.str x) [.str "record", .str "guard", .str "first", .str "mark", .str "clear", .str "order"] = true) ∧ d = .non) :=
  dokN T.dcheck_name sc_check_name (fun ds ⟨x, e, _⟩ => by subst e; rfl) (fun _ _ _ _ _ _ us hl => match us, hl with | [_], _ => rfl) fun ds ⟨x, e, hx⟩ f cdv A outer s H E hr => by
    subst e
    exact sn_seq (sn_skip (pdt_is (PW.pt (pdw_or (pdt_not (pdt_val (pd_isiB (T := "str") (r := true) T.fisinstance T.fstr (by decide +kernel) (pd_var 0) tyStr (kit_ty (by decide +kernel))))) (pdw_or1 (pdt_cmp (pd_var 0) (pd_gl T.gPARTS) cmp_niT)))) (by simp only [hx, Bool.not_true, Bool.or_self]))) sn_nil

/-! ### Rules.word -/
def partsL : List Str := ["record", "guard", "first", "mark", "clear", "order"]
structure PartIx (nm : Str) (j : Nat) : Prop where
  at_ : partsL[j]? = some nm
  first : ∀ m, m < j → partsL[m]? ≠ some nm
theorem pix_record : PartIx "record" 0 := ⟨rfl, fun m h => by omega⟩
theorem pix_guard : PartIx "guard" 1 := ⟨rfl, fun m h => by have : m = 0 := by omega
                                                            subst this; decide +kernel⟩
theorem pix_first : PartIx "first" 2 := ⟨rfl, fun m h => by rcases (by omega : m = 0 ∨ m = 1) with e | e <;> subst e <;> decide +kernel⟩
theorem pix_mark : PartIx "mark" 3 := ⟨rfl, fun m h => by rcases (by omega : m = 0 ∨ m = 1 ∨ m = 2) with e | e | e <;> subst e <;> decide +kernel⟩
theorem pix_clear : PartIx "clear" 4 := ⟨rfl, fun m h => by rcases (by omega : m = 0 ∨ m = 1 ∨ m = 2 ∨ m = 3) with e | e | e | e <;> subst e <;> decide +kernel⟩
theorem pix_order : PartIx "order" 5 := ⟨rfl, fun m h => by rcases (by omega : m = 0 ∨ m = 1 ∨ m = 2 ∨ m = 3 ∨ m = 4) with e | e | e | e | e <;> subst e <;> decide +kernel⟩
theorem PartIx.inParts {nm : Str} {j : Nat} (h : PartIx nm j) : inD (.str nm) [.str "record", .str "guard", .str "first", .str "mark", .str "clear", .str "order"] = true := by
  have e : ([.str "record", .str "guard", .str "first", .str "mark", .str "clear", .str "order"] : List D) = partsL.map D.str := rfl
  rw [e]
  unfold inD inV
  rw [List.any_map, List.any_map, List.any_eq_true]
  exact ⟨nm, List.mem_of_getElem? h.at_, by simp [vD, eqV]⟩
def rWord (ds : List D) (d : D) : Prop := ∃ ws nm j x, ds = [.rul ws, .str nm] ∧ PartIx nm j ∧ ws[j]? = some x ∧ d = .str x
/-- a method behind the top -/
structure Mok (P : Program) (w : World) (K : PySem.W.Frag) (mg : Str → Option Value) (base : Heap) (k : Nat) (C m : Str) (ps : List Str) (sp : Sp) : Prop where
  ex : ∃ f fd, FnOk P w K mg base CX0 k f fd ps sp ∧ Meth K (He.ga K C) m f ∧ Binds K fd ps []
theorem pd_row {X : Cx} {ρ : Kn} {o : Expr} {pos : Pos} {ws : List Str} (O : Own X.K X.mg "Rules") (na : NoAttr X.K (He.ga X.K "Rules") "row") (h : PD X ρ o (.rul ws)) (hb : attributeBase o "row" X.env (eval o X.env) = eval o X.env := by rfl) :
    PD X ρ (.Attribute o "row" pos) (.tup (ws.map D.str)) :=
  pe_w (pe_fld h hb) fun σ H Q q => ⟨q.1, fun v H1 e1 a1 => by
    simp only [At] at a1
    obtain ⟨a, dx, t, rfl, h1, h2⟩ := a1
    exact ⟨a, _, dx, _, .ref t, rfl, h1, O.cl, na, by simp [List.lookup], q.2 _ H1 e1 (at_tup h2 AtL.strs)⟩⟩
theorem sc_word : FnScope ["self", "name"] ["self", "name"] (defScope (inClass (top 11) 3)) := ⟨rfl, rfl, rfl, by decide +kernel, rfl, by decide +kernel, by decide +kernel⟩
theorem pd_pidx {X : Cx} {ρ : Kn} {a : Expr} {p apos cpos : Pos} {nm : Str} {j : Nat} (T : Top X.K X.w X.mg) (ha : PD X ρ a (.str nm)) (hx : PartIx nm j) (hg : Gl X "PARTS" := by exact rfl)
    (hbase : attributeBase (.Name "PARTS" p) "index" X.env (eval (.Name "PARTS" p) X.env) = eval (.Name "PARTS" p) X.env := by rfl)
    (hfew : ((backTo cpos (starEach [a] X.env)).all (fun x => !x.1) && (backToKw cpos (keywordEach [] X.env)).all (fun x => x.1.isSome)
      && decide ([a].length + ([] : List Keyword).length + (if ([] : List Keyword).isEmpty then 0 else 1) < 30)) = true := by rfl)
    (hline : (apos.endLine == cpos.line) = true := by rfl) (hs : starEach [a] X.env = (false, eval a X.env) :: starEach [] X.env := by rfl) (hplain : (backTo cpos (starEach [] X.env)).any (·.1) = false := by rfl) :
    PD X ρ (.Call (.Attribute (.Name "PARTS" p) "index" apos) [a] [] cpos) (.int (j : Int)) := by
  obtain ⟨A, o, hm, hl, hc, hd, hs'⟩ := T.xPARTS
  exact pe_w (pe_bm PySem.F.plainAttrs_tuple PySem.F.slot_tuple_index PySem.F.type_tuple_index mt_tup_index (pe_glob (v := .ref A) hg hm rfl) (pa_cons ha pa_nil hs) hbase hfew hline hs hplain) fun σ H Q q =>
    ⟨.inr (.inl ⟨rfl, o, hl, hc, hd⟩), q.1, fun v H1 e1 a1 => by
      simp only [At] at a1
      exact ⟨A, partsL, nm, j, rfl, by rw [a1], hs' H1, hx.at_, hx.first, q.2 _ H1 e1 (by simp only [At])⟩⟩
theorem atI_nn {α : Type} {xs : List α} {j : Nat} {v : α} (h : xs[j]? = some v) : L2.atI xs (j : Int) = some v := L2.atI_nat h
theorem ok_word (T : Top K w mg) : Mok P w K mg base 2 "Rules" "word" ["self", "name"] (spD K rWord) := by
  obtain ⟨fd, F, h1, h2⟩ := T.mRword
  refine ⟨_, fd, F.ok sc_word (fun vs H Q E ⟨ds, d, ⟨ws, nm, j, x, e, _⟩, al, _⟩ => by subst e; rw [al.length]; rfl) fun cdv A outer s H vs Q E hr ⟨ds, d, ⟨ws, nm, j, x, e, hp, hx, ed⟩, al, q⟩ => ?_, ⟨h1, h2, F.kp⟩, F.bindsN fun _ _ _ _ _ _ us hl => match us, hl with | [_, _], _ => rfl⟩
  subst e ed
  refine ⟨_, PSs.nox (t := tR K (kn0 ["self", "name"] [.rul ws, .str nm]) (.str x)) ?_, EA.start al, q⟩
  exact sr_seq (sn_exp (pd_call (ok_check_name T) hr (pds_cons (pd_var 1) pds_nil) ⟨⟨nm, rfl, hp.inParts⟩, rfl⟩))
    (sr_ret (pd_ix (pd_row T.oRules T.aRow (pd_var 0)) (pd_pidx T (pd_var 1) hp) (atI_nn (by rw [List.getElem?_map, hx]; rfl))))
theorem nrow : (("word" : Str) == "row") = false := by decide +kernel
theorem look_row (t : Addr) : ([(("row" : Str), V.ref t)] : List (Str × V)).lookup ("word" : Str) = none := by
  simp only [List.lookup, nrow]
theorem pd_word {X : Cx} {ρ : Kn} {o a : Expr} {apos pos : Pos} {ws : List Str} {nm x : Str} {pl : Sem Bool} (j : Nat) (T : Top X.K X.w X.mg) (hr : Room 2 X.A) (ho : PD X ρ o (.rul ws)) (ha : PD X ρ a (.str nm)) (hx : PartIx nm j) (hw : ws[j]? = some x := by rfl)
    (hst : starEach [a] X.env = (false, eval a X.env) :: starEach [] X.env := by rfl) (hpl : (backTo pos (starEach [] X.env)).any (·.1) = false := by rfl)
    (ht : eval (.Call (.Attribute o "word" apos) [a] [] pos) X.env = (do
      let ov ← eval o X.env
      standAt apos.atName
      let (f, first) ← holding [ov] (getMethod ov "word" pl)
      callWith pos f first (backTo pos (starEach [a] X.env)) (backToKw pos (keywordEach [] X.env))) := by rfl) : PD X ρ (.Call (.Attribute o "word" apos) [a] [] pos) (.str x) := by
  obtain ⟨f, fd, F, hm, hb⟩ := (ok_word (P := X.prog) (base := X.base) T).ex
  exact pe_w (pe_meth ho T.oRules.cl hm F hr hb .nil pass0 (pa_cons ha pa_nil hst) hst hpl ht) fun σ H Q q => ⟨q.1, fun v H1 e1 a1 => by
    have a1' := a1
    simp only [At] at a1
    obtain ⟨c, dx, t, rfl, h1, h2⟩ := a1
    exact ⟨c, dx, _, rfl, h1, look_row t, q.1.same e1, fun u H2 e2 a2 => ⟨[.rul ws, .str nm], .str x, ⟨ws, nm, j, x, rfl, hx, hw, rfl⟩, AtL.cons (a1'.same e2) (AtL.cons a2 AtL.nil), fun v' H3 e3 a3 => q.2 v' H3 ((e1.trans e2).trans e3) a3⟩⟩⟩
end
end CM

set_option Elab.async false
set_option linter.all false
set_option maxRecDepth 100000
set_option maxHeartbeats 4000000
/-! CM5: the program's small defs, by data. -/
namespace CM
open PySem L2
open PyProof.Rows (envOfC)

section
variable {X : Cx} {ρ ρ1 ρ2 : Kn} {st : List Stmt} {s1 : Stmt} {e : Expr} {d d1 : D} {k k' : Bool}
theorem sr_to (h : SR X ρ st d) (q : d = d1) : SR X ρ st d1 := q ▸ h
theorem sn_to (h : SN1 X ρ s1 ρ1) (q : ρ1 = ρ2) : SN1 X ρ s1 ρ2 := q ▸ h
theorem sns_to (h : SN X ρ st ρ1) (q : ρ1 = ρ2) : SN X ρ st ρ2 := q ▸ h
theorem pd_isb (h : PD X ρ e (.bl k)) (q : k = k') : PD X ρ e (.bl k') := q ▸ h
theorem pds_two {e1 e2 : Expr} {d1 d2 : D} (h1 : PD X ρ e1 d1) (h2 : PD X ρ e2 d2) (hs : starEach [e1, e2] X.env = (false, eval e1 X.env) :: starEach [e2] X.env := by rfl) (hs2 : starEach [e2] X.env = (false, eval e2 X.env) :: starEach [] X.env := by rfl) : PDs X ρ [e1, e2] [d1, d2] :=
  pds_cons h1 (pds_cons h2 pds_nil hs2) hs
theorem cmp_eqF {f : Option Fate} {x : Str} : CmpD X .Eq (dF f) (.str x) (eqD (dF f) (.str x)) := cmp_eq (fl_dF f) rfl (by cases f <;> rfl)
theorem cmp_neFF {f g : Option Fate} : CmpD X .NotEq (dF f) (dF g) (!eqD (dF f) (dF g)) := cmp_ne (fl_dF f) (fl_dF g) (scal_dF f g)
theorem cmp_inF {f : Option Fate} {ds : List D} (f2 : ds.all fl = true := by rfl) : CmpD X .In (dF f) (.tup ds) (inD (dF f) ds) := cmp_inT (fl_dF f) f2
end
section
variable {P : Program} {w : World} {K : PySem.W.Frag} {mg : Str → Option Value} {base : Heap}

/-! ### can_be_done, deeds_in -/
theorem sc_can : FnScope ["rules", "state", "deed"] ["rules", "state", "deed"] (defScope (top 19)) := ⟨rfl, rfl, rfl, by decide +kernel, rfl, by decide +kernel, by decide +kernel⟩
def rCan (ds : List D) (d : D) : Prop := ∃ w s x, ds = [dW w, dS s, .str (Deed.str x)] ∧ x ≠ .lose ∧ d = .bl (canDo s.s x)
theorem ok_can (T : Top K w mg) : Dok P w K mg base 1 "can_be_done" ["rules", "state", "deed"] (spD K rCan) :=
  dokD T.dcan_be_done sc_can (fun ds d ⟨w, s, x, e, _⟩ => by subst e; rfl) (fun _ _ _ _ _ _ us hl => match us, hl with | [_, _, _], _ => rfl) fun ds d ⟨w, s, x, e, hx, ed⟩ f cdv A outer s' H E hr => by
    subst e ed
    refine sr_to (sr_ifC (pdt_is (pdt_cmp (pd_var 2) pd_str cmp_eq) (eq_Deed_begin x)) (sr_ret (pd_isb (pd_cmp (pd_ix (pd_var 1) pd_int rfl) (pd_tup (pds_two pd_str pd_str)) cmp_inT) (in_nk s.s)))
      (sr_ifC (pdt_is (pdt_cmp (pd_var 2) pd_str cmp_eq) (eq_Deed_read x)) (sr_ret (pd_isb (pd_cmp (pd_ix (pd_var 1) pd_int rfl) (pd_tup (pds_two pd_str pd_str)) cmp_inT) (in_oh s.s)))
      (sr_ifC (pdt_is (pdt_cmp (pd_var 2) pd_str cmp_eq) (eq_Deed_clear x)) (sr_ret (pd_isb (pd_cmp (pd_ix (pd_var 1) pd_int rfl) pd_str cmp_eq) (eq_Step_read s.s)))
      (sr_ret (pd_or (pd_isb (pd_cmp (pd_var 2) pd_str cmp_ne) (congrArg Bool.not (eq_Deed_end_ x))) (pd_one (pd_isb (pd_cmp (pd_ix (pd_var 1) pd_int rfl) pd_str cmp_eq) (eq_Step_done s.s)))))))) ?_
    cases x <;> first | rfl | exact absurd rfl hx
theorem sc_din : FnScope ["rules", "state", "deed"] ["rules", "state"] (defScope (top 20)) := ⟨rfl, rfl, rfl, by decide +kernel, rfl, by decide +kernel, by decide +kernel⟩
def dDeed (x : Deed) : D := .str x.str
def rDin (ds : List D) (es : List D) : Prop := ∃ w s, ds = [dW w, dS s] ∧ es = (deedsIn s.s).map dDeed
theorem deeds_eq : dDEEDS = .tup (deeds7.map dDeed) := rfl
theorem ok_din (T : Top K w mg) : Dok P w K mg base 2 "deeds_in" ["rules", "state"] (spDL K rDin) :=
  dokL T.ddeeds_in sc_din (fun ds d ⟨w, s, e, _⟩ => by subst e; rfl) (fun _ _ _ _ _ _ us hl => match us, hl with | [_, _], _ => rfl) fun ds d ⟨w, s, e, ed⟩ f cdv A outer s' H E hr => by
    subst e ed
    exact srl_ret (pdl_lcN (own := [("deed", 2)]) 2 deeds7 dDeed dDeed (canDo s.s) rfl sc_din.nd (pd_gl T.gDEEDS) (blkOk_by (N := ["rules", "state", "deed"]) (sc := defScope (top 20)) (own := [("deed", 2)]) (by decide +kernel))
      (fun _ _ _ _ _ => pg_name (i := 2) sc_din.nd rfl (Or.inl rfl)) (fun x hx _ _ _ _ _ => pdts_one (pdt_val (pd_call (ok_can T) (hr.mono (by decide)) (pds_cons (pd_var 0) (pds_cons (pd_var 1) (pds_cons (pd_var 2) pds_nil))) ⟨w, s, x, rfl, by intro z; subst z; revert hx; decide, rfl⟩)))
      (fun x hx _ _ _ _ _ _ => pd_var 2) (fun _ _ => rfl) (fun σ v => by simp [wipe, List.set_set]))

/-! ### is_to_be_read, settled, begun -/
theorem sc_tbr : FnScope ["rules", "state"] ["rules", "state"] (defScope (top 21)) := ⟨rfl, rfl, rfl, by decide +kernel, rfl, by decide +kernel, by decide +kernel⟩
def rTbr (ds : List D) (d : D) : Prop := ∃ w s, ds = [dW w, dS s] ∧ d = .bl (toRead w s)
theorem ok_tbr (T : Top K w mg) : Dok P w K mg base 3 "is_to_be_read" ["rules", "state"] (spD K rTbr) :=
  dokD T.dis_to_be_read sc_tbr (fun ds d ⟨w, s, e, _⟩ => by subst e; rfl) (fun _ _ _ _ _ _ us hl => match us, hl with | [_, _], _ => rfl) fun ds d ⟨w, s, e, ed⟩ f cdv A outer s' H E hr => by
    subst e ed
    exact sr_to (sr_ret (pd_or (pd_isb (pd_cmp (pd_ix (pd_var 1) pd_int rfl) pd_str cmp_eq) (eq_Step_none s.s)) (pd_or (pd_ix (pd_var 1) pd_int rfl) (pd_one (pd_isb (pd_cmp (pd_word 4 T (hr.mono (by decide)) (pd_var 0) pd_str pix_clear) pd_str cmp_eq) (eq_Clr_never w.cl))))))
      (by rw [toRead, Bool.or_assoc])
theorem sc_set : FnScope ["halves", "half"] ["halves"] (defScope (top 22)) := ⟨rfl, rfl, rfl, by decide +kernel, rfl, by decide +kernel, by decide +kernel⟩
def rSet (ds : List D) (d : D) : Prop := ∃ a b, ds = [dHs a b] ∧ d = dHs a.settled b.settled
theorem ok_set (T : Top K w mg) : Dok P w K mg base 1 "settled" ["halves"] (spD K rSet) :=
  dokD T.dsettled sc_set (fun ds d ⟨a, b, e, _⟩ => by subst e; rfl) (fun _ _ _ _ _ _ us hl => match us, hl with | [_], _ => rfl) fun ds d ⟨a, b, e, ed⟩ f cdv A outer s' H E hr => by
    subst e ed
    refine sr_to (sr_ret (pd_tuple T.ftuple (pd_l (pdl_lcN (own := [("half", 1)]) 1 [a, b] dH (fun h => .tup [.bl h.c, cond h.c (.str "right") (.str "elder")]) (fun _ => true) rfl sc_set.nd (pd_var 0)
      (blkOk_by (N := ["halves", "half"]) (sc := defScope (top 22)) (own := [("half", 1)]) (by decide +kernel)) (fun _ _ _ _ _ => pg_name (i := 1) sc_set.nd rfl (Or.inl rfl)) (fun _ _ _ _ _ _ _ => pdts_nil)
      (fun h _ _ _ _ _ _ _ => pd_tup (pds_two (pd_ix (pd_var 1) pd_int rfl) (pd_ifC (pdt_val (pd_ix (pd_var 1) pd_int rfl)) pd_str pd_str))) (fun h _ => by cases h with | mk c f => cases c <;> rfl) (fun σ v => by simp [wipe, List.set_set]))))) ?_
    cases a with | mk c f => cases b with | mk c' f' => cases c <;> cases c' <;> rfl
theorem sc_beg : FnScope ["rules", "state", "step", "sign", "was_written", "halves", "is_read", "half"] ["rules", "state"] (defScope (top 23)) := ⟨rfl, rfl, rfl, by decide +kernel, rfl, by decide +kernel, by decide +kernel⟩
def rBeg (ds : List D) (d : D) : Prop := ∃ w s, ds = [dW w, dS s] ∧ d = dS (begun w s)
theorem ok_beg (T : Top K w mg) : Dok P w K mg base 4 "begun" ["rules", "state"] (spD K rBeg) :=
  dokD T.dbegun sc_beg (fun ds d ⟨w, s, e, _⟩ => by subst e; rfl) (fun _ _ _ _ _ _ us hl => match us, hl with | [_, _], _ => rfl) fun ds d ⟨w, s, e, ed⟩ f cdv A outer s' H E hr => by
    subst e ed
    have w0 := w
    refine sr_to (sr_seq (sn_unp [2, 3, 4, 5] (pd_var 1) rfl (pgs_cons (pg_name (i := 2) sc_beg.nd rfl (Or.inl rfl)) (pgs_cons (pg_name (i := 3) sc_beg.nd rfl (Or.inl rfl)) (pgs_cons (pg_name (i := 4) sc_beg.nd rfl (Or.inl rfl)) (pgs_cons (pg_name (i := 5) sc_beg.nd rfl (Or.inl rfl)) pgs_nil)))))
      (sr_seq (sn_asg 6 (pd_call (ok_tbr T) (hr.mono (by decide)) (pds_two (pd_var 0) (pd_var 1)) ⟨w, s, rfl, rfl⟩) sc_beg.nd)
      (sr_seq (sn_if (ρ1 := List.set _ 5 (some (dHs (s.a.begun w (toRead w s)) (s.b.begun w (toRead w s))))) (pdt_is (pdt_cmp (pd_word 3 T (hr.mono (by decide)) (pd_var 0) pd_str pix_mark) pd_str cmp_eq) (eq_ab w.mb))
        (fun h1 => sn_seq (sn_asg 5 (pd_to (pd_tuple T.ftuple (pd_l (pdl_lcN (own := [("half", 7)]) 7 [s.a, s.b] dH (fun h => .tup [.bl h.c, .non]) (fun _ => true) rfl sc_beg.nd (pd_var 5)
      (blkOk_by (N := ["rules", "state", "step", "sign", "was_written", "halves", "is_read", "half"]) (sc := defScope (top 23)) (own := [("half", 7)]) (by decide +kernel)) (fun _ _ _ _ _ => pg_name (i := 7) sc_beg.nd rfl (Or.inl rfl)) (fun _ _ _ _ _ _ _ => pdts_nil)
      (fun h _ _ _ _ _ _ _ => pd_tup (pds_two (pd_ix (pd_var 7) pd_int rfl) pd_non)) (fun h _ => rfl) (fun σ v => by simp [wipe, List.set_set])))) (by simp only [Hf.begun, h1, cond_true]; rfl)) sc_beg.nd) sn_nil)
        (fun h1 => sn_seq (sn_if (pdt_val (pd_var 6))
          (fun h2 => sn_seq (sn_asg 5 (pd_to (pd_tuple T.ftuple (pd_l (pdl_lcN (own := [("half", 7)]) 7 [s.a, s.b] dH (fun h => .tup [.bl h.c, .str "due"]) (fun _ => true) rfl sc_beg.nd (pd_var 5)
      (blkOk_by (N := ["rules", "state", "step", "sign", "was_written", "halves", "is_read", "half"]) (sc := defScope (top 23)) (own := [("half", 7)]) (by decide +kernel)) (fun _ _ _ _ _ => pg_name (i := 7) sc_beg.nd rfl (Or.inl rfl)) (fun _ _ _ _ _ _ _ => pdts_nil)
      (fun h _ _ _ _ _ _ _ => pd_tup (pds_two (pd_ix (pd_var 7) pd_int rfl) pd_str)) (fun h _ => rfl) (fun σ v => by simp [wipe, List.set_set])))) (by simp only [Hf.begun, h1, h2, cond_true, cond_false]; rfl)) sc_beg.nd) sn_nil)
          (fun h2 => sn_seq (sn_asg 5 (pd_to (pd_call (ok_set T) (hr.mono (by decide)) (pds_cons (pd_var 5) pds_nil) ⟨s.a, s.b, rfl, rfl⟩) (by simp only [Hf.begun, h1, h2, cond_false])) sc_beg.nd) sn_nil)) sn_nil))
      (sr_seq (sn_if (ρ1 := List.set _ 3 (some (.bl (cond (toRead w s && decide (w.cl = .ahead)) false s.g)))) (PW.pt (pdw_and (pdt_val (pd_var 6)) (pdw_and1 (pdt_is (pdt_cmp (pd_word 4 T (hr.mono (by decide)) (pd_var 0) pd_str pix_clear) pd_str cmp_eq) (eq_Clr_ahead w.cl)))))
        (fun h1 => sn_seq (sn_asg 3 (pd_to pd_bl (by rw [h1]; rfl)) sc_beg.nd) sn_nil)
        (fun h1 => sns_to sn_nil (by rw [h1]; rfl)))
      (sr_ret (pd_tup (pds_cons (pd_ifC (pdt_val (pd_var 6)) pd_str pd_str) (pds_cons (pd_var 3) (pds_cons pd_bl (pds_cons (pd_var 5) pds_nil)))))))))) ?_
    unfold begun dS
    cases toRead w s <;> rfl
end
end CM
set_option Elab.async false
set_option linter.all false
set_option maxRecDepth 100000
set_option maxHeartbeats 4000000
/-! CM6: read_half, fate_behind, written, done. -/
namespace CM
open PySem L2
open PyProof.Rows (envOfC)

/-! ### a dict display asked for a fate -/
def dueK : List (L2.Key × V) := mergeK [] [(.inr "due", .str "right"), (.inr "doubled", .str "twice")]
theorem due_val (f : Fate) (z : V) (hz : z = .str f.str) : (valV dueK (.inr f.str)).getD z = vD (dF (readF (some f))) := by
  subst hz
  cases f <;> decide +kernel
theorem pd_readF {X : Cx} {ρ : Kn} {e e2 : Expr} {f : Option Fate} {j1 j2 j3 j4 : Nat} {q1 q2 q3 q4 p ap cp : Pos} (hu : X.A.units + 1 < cLine) (h1 : PD X ρ e (dF f)) (h2 : PD X ρ e2 (dF f))
    (m : M2 X (.Dict [some (.Constant (.str "due") j1 q1), some (.Constant (.str "doubled") j2 q2)] [.Constant (.str "right") j3 q3, .Constant (.str "twice") j4 q4] p) "get" ap e e2 cp := by exact ⟨rfl, rfl, rfl, rfl⟩) :
    PD X ρ (.Call (.Attribute (.Dict [some (.Constant (.str "due") j1 q1), some (.Constant (.str "doubled") j2 q2)] [.Constant (.str "right") j3 q3, .Constant (.str "twice") j4 q4] p) "get" ap) [e, e2] [] cp) (dF (readF f)) :=
  pe_w (pe_dget2N hu (pe_disp (pps_cons pe_str pe_str (pps_cons pe_str pe_str pps_nil)) rfl rfl (by simp) (by exact Nat.le_of_ble_eq_true rfl)) h1 h2 m) fun σ H Q q => by
    intro p hp
    refine ⟨upd_same, [(.inr "due", .str "right"), (.inr "doubled", .str "twice")], rfl, by decide, ?_⟩
    have e0 : Same H (upd (upd H p (.dK [])) p (.dK dueK)) := fun b o h => by
      rw [upd_ne (ne_of_none h hp), upd_ne (ne_of_none h hp)]; exact h
    refine ⟨p, rfl, .inl ⟨dueK, .inl upd_same⟩, q.1.same e0, fun y H2 e2 a2 => ⟨q.1.same (e0.trans e2), fun z H3 e3 a3 => ?_⟩⟩
    have hd : H3 p = some (.dK dueK) := e3 _ _ (e2 _ _ upd_same)
    cases f with
    | none =>
      simp only [dF, At] at a2 a3
      exact .inr ⟨a2, ⟨dueK, .inl hd⟩, q.2 _ _ (e0.trans (e2.trans e3)) (by rw [a3]; simp only [readF, dF, At])⟩
    | some f =>
      simp only [dF, At] at a2 a3
      refine .inl ⟨_, by rw [a2]; exact DGet.k (k := .inr f.str) hd, ?_⟩
      rw [due_val f z a3]
      exact q.2 _ _ (e0.trans (e2.trans e3)) (at_vD (fl_dF _))
section
variable {P : Program} {w : World} {K : PySem.W.Frag} {mg : Str → Option Value} {base : Heap}
theorem sc_rdh : FnScope ["rules", "state", "step", "sign", "was_written", "halves", "at", "fate", "late"] ["rules", "state"] (defScope (top 24)) := ⟨rfl, rfl, rfl, by decide +kernel, rfl, by decide +kernel, by decide +kernel⟩
def rRdh (ds : List D) (d : D) : Prop := ∃ w s, ds = [dW w, dS s] ∧ d = dS (readHalf w s)
theorem eqD_bl (a b : Bool) : eqD (.bl a) (.bl b) = (a == b) := by cases a <;> cases b <;> decide +kernel
theorem eqD_int (a b : Int) : eqD (.int a) (.int b) = decide (a = b) := by
  unfold eqD vD
  by_cases h : a = b
  · subst h; rw [decide_eq_true rfl, decide_eq_true rfl]
  · rw [decide_eq_false h, decide_eq_false (fun z => h (V.int.inj z))]
theorem hb1 (s : Sta) (w : Wd) : (cond (decide (s.s = .opened) == !w.o2) (D.int 0) (D.int 1)) = cond (at2 w s) (.int 1) (.int 0) := by
  unfold at2
  cases decide (s.s = .opened) <;> cases w.o2 <;> rfl
theorem ok_rdh (T : Top K w mg) : Dok P w K mg base 3 "read_half" ["rules", "state"] (spD K rRdh) :=
  dokD T.dread_half sc_rdh (fun ds d ⟨w, s, e, _⟩ => by subst e; rfl) (fun _ _ _ _ _ _ us hl => match us, hl with | [_, _], _ => rfl) fun ds d ⟨w, s, e, ed⟩ f cdv A outer s' H E hr => by
    subst e ed
    have hu := hu_of hr
    cases hat : at2 w s
    · exact sr_seq (sn_unp [2, 3, 4, 5] (pd_var 1) rfl (pgs_cons (pg_name (i := 2) sc_rdh.nd rfl (Or.inl rfl)) (pgs_cons (pg_name (i := 3) sc_rdh.nd rfl (Or.inl rfl)) (pgs_cons (pg_name (i := 4) sc_rdh.nd rfl (Or.inl rfl)) (pgs_cons (pg_name (i := 5) sc_rdh.nd rfl (Or.inl rfl)) pgs_nil))))) (sr_seq (sn_asg 6 (pd_to (pd_ifC (pdt_is (pdt_cmp (pd_isb (pd_cmp (pd_var 2) pd_str cmp_eq) (eq_Step_opened s.s)) (pd_isb (pd_cmp (pd_word 5 T (hr.mono (by decide)) (pd_var 0) pd_str pix_order) pd_str cmp_eq) (eq_fs2 w.o2)) cmp_eq) (eqD_bl _ _)) pd_int pd_int)
          (show _ = D.int 0 by rw [hb1 s w, hat]; rfl)) sc_rdh.nd)
        (sr_seq (sn_asg 7 (pd_readF (f := s.a.f) hu (pd_ix (pd_ix (pd_var 5) (pd_var 6) rfl) pd_int rfl) (pd_ix (pd_ix (pd_var 5) (pd_var 6) rfl) pd_int rfl)) sc_rdh.nd)
        (sr_seq (sn_asg 8 (pd_to (pd_ifC (pdt_is (pdt_cmp (pd_var 6) pd_int cmp_eq) (eqD_int _ _)) (pd_tup (pds_two (pd_ix (pd_var 5) pd_int rfl) (pd_tup (pds_two pd_bl (pd_var 7))))) (pd_tup (pds_two (pd_tup (pds_two pd_bl (pd_var 7))) (pd_ix (pd_var 5) pd_int rfl))))
          (show _ = dHs (cond (at2 w s) s.a ⟨true, readF s.a.f⟩) (cond (at2 w s) ⟨true, readF s.b.f⟩ s.b) by rw [hat]; rfl)) sc_rdh.nd)
        (sr_if (pdt_is (pdt_cmp (pd_var 2) pd_str cmp_eq) (eq_Step_opened s.s)) (fun h1 => sr_ret (pd_to (pd_tup (pds_cons pd_str (pds_cons (pd_var 3) (pds_cons (pd_var 4) (pds_cons (pd_var 8) pds_nil))))) (by rw [dS, readHalf, h1]; rfl)))
          (fun h1 => sr_ret (pd_to (pd_tup (pds_cons (pd_ifC (pdt_is (pdt_cmp (pd_word 4 T (hr.mono (by decide)) (pd_var 0) pd_str pix_clear) pd_str cmp_eq) (eq_Clr_behind w.cl)) pd_str pd_str) (pds_cons (pd_var 3) (pds_cons (pd_var 4) (pds_cons (pd_var 8) pds_nil))))) (by rw [dS, readHalf, h1]; cases decide (w.cl = .behind) <;> rfl)))))))
    · exact sr_seq (sn_unp [2, 3, 4, 5] (pd_var 1) rfl (pgs_cons (pg_name (i := 2) sc_rdh.nd rfl (Or.inl rfl)) (pgs_cons (pg_name (i := 3) sc_rdh.nd rfl (Or.inl rfl)) (pgs_cons (pg_name (i := 4) sc_rdh.nd rfl (Or.inl rfl)) (pgs_cons (pg_name (i := 5) sc_rdh.nd rfl (Or.inl rfl)) pgs_nil))))) (sr_seq (sn_asg 6 (pd_to (pd_ifC (pdt_is (pdt_cmp (pd_isb (pd_cmp (pd_var 2) pd_str cmp_eq) (eq_Step_opened s.s)) (pd_isb (pd_cmp (pd_word 5 T (hr.mono (by decide)) (pd_var 0) pd_str pix_order) pd_str cmp_eq) (eq_fs2 w.o2)) cmp_eq) (eqD_bl _ _)) pd_int pd_int)
          (show _ = D.int 1 by rw [hb1 s w, hat]; rfl)) sc_rdh.nd)
        (sr_seq (sn_asg 7 (pd_readF (f := s.b.f) hu (pd_ix (pd_ix (pd_var 5) (pd_var 6) rfl) pd_int rfl) (pd_ix (pd_ix (pd_var 5) (pd_var 6) rfl) pd_int rfl)) sc_rdh.nd)
        (sr_seq (sn_asg 8 (pd_to (pd_ifC (pdt_is (pdt_cmp (pd_var 6) pd_int cmp_eq) (eqD_int _ _)) (pd_tup (pds_two (pd_ix (pd_var 5) pd_int rfl) (pd_tup (pds_two pd_bl (pd_var 7))))) (pd_tup (pds_two (pd_tup (pds_two pd_bl (pd_var 7))) (pd_ix (pd_var 5) pd_int rfl))))
          (show _ = dHs (cond (at2 w s) s.a ⟨true, readF s.a.f⟩) (cond (at2 w s) ⟨true, readF s.b.f⟩ s.b) by rw [hat]; rfl)) sc_rdh.nd)
        (sr_if (pdt_is (pdt_cmp (pd_var 2) pd_str cmp_eq) (eq_Step_opened s.s)) (fun h1 => sr_ret (pd_to (pd_tup (pds_cons pd_str (pds_cons (pd_var 3) (pds_cons (pd_var 4) (pds_cons (pd_var 8) pds_nil))))) (by rw [dS, readHalf, h1]; rfl)))
          (fun h1 => sr_ret (pd_to (pd_tup (pds_cons (pd_ifC (pdt_is (pdt_cmp (pd_word 4 T (hr.mono (by decide)) (pd_var 0) pd_str pix_clear) pd_str cmp_eq) (eq_Clr_behind w.cl)) pd_str pd_str) (pds_cons (pd_var 3) (pds_cons (pd_var 4) (pds_cons (pd_var 8) pds_nil))))) (by rw [dS, readHalf, h1]; cases decide (w.cl = .behind) <;> rfl)))))))

/-! ### fate_behind, written -/
theorem sr_norm {X : Cx} {ρ : Kn} {rest : List Stmt} {d : D} (ρ' : Kn) (h : SR X ρ' rest d) (e : ρ = ρ' := by rfl) : SR X ρ rest d := e ▸ h
theorem sc_fat : FnScope ["rules", "fate", "is_written", "has_whole", "is_out"] ["rules", "fate", "is_written", "has_whole", "is_out"] (defScope (top 25)) := ⟨rfl, rfl, rfl, by decide +kernel, rfl, by decide +kernel, by decide +kernel⟩
def rFat (ds : List D) (d : D) : Prop := ∃ w f x wh out, ds = [dW w, dF f, .bl x, .bl wh, .bl out] ∧ d = dF (fateB w f x wh out)
theorem dF_cond (k : Bool) (a b : Option Fate) : cond k (dF a) (dF b) = dF (cond k a b) := by cases k <;> rfl
theorem ok_fat (T : Top K w mg) : Dok P w K mg base 3 "fate_behind" ["rules", "fate", "is_written", "has_whole", "is_out"] (spD K rFat) :=
  dokD T.dfate_behind sc_fat (fun ds d ⟨w, f, x, wh, out, e, _⟩ => by subst e; rfl) (fun _ _ _ _ _ _ us hl => match us, hl with | [_, _, _, _, _], _ => rfl) fun ds d ⟨w, f, x, wh, out, e, ed⟩ fa cdv A outer s' H E hr => by
    subst e ed
    refine sr_to (sr_ifC (pdt_val (pd_var 4)) (sr_ret (pd_to (pd_ifC (PW.pt (pdw_and (pdt_val (pd_var 2)) (pdw_and1 (pdt_is (pdt_cmp (pd_var 1) pd_str cmp_eqF) (eq_F_right f))))) pd_str (pd_var 1)) (show _ = dF (cond (x && decide (f = some .right)) (some .elder) f) from dF_cond _ (some .elder) f)))
      (sr_ifC (pdt_val (pd_var 3)) (sr_ret (pd_to pd_str (show _ = dF (some .right) from rfl)))
      (sr_ifC (pdt_not (pdt_val (pd_var 2))) (sr_ret (pd_var 1))
      (sr_ifC (pdt_is (pdt_cmp (pd_word 0 T (hr.mono (by decide)) (pd_var 0) pd_str pix_record) pd_str cmp_eq) (eq_Rec_part w.rc)) (sr_ret (pd_to pd_str (show _ = dF (some .right) from rfl)))
      (sr_ret (pd_to (pd_ifC (pdt_is (pdt_cmp (pd_var 1) pd_str cmp_eqF) (eq_F_due f)) pd_str (pd_var 1)) (show _ = dF (cond (decide (f = some .due)) (some .doubled) f) from dF_cond _ (some .doubled) f))))))) ?_
    rw [dF_cond, dF_cond, dF_cond, dF_cond]
    rfl
theorem sc_wri : FnScope ["rules", "state", "deed", "step", "sign", "was_written", "halves", "both", "late", "half", "is_written", "is_first", "has_whole", "is_out", "found"] ["rules", "state", "deed"] (defScope (top 26)) := ⟨rfl, rfl, rfl, by decide +kernel, rfl, by decide +kernel, by decide +kernel⟩
def rWri (ds : List D) (d : D) : Prop := ∃ w s x, ds = [dW w, dS s, .str (Deed.str x)] ∧ isWr x = true ∧ d = dS (written w s (wr1 x) (wr2 x))
/-- WRITTEN[deed] -/
theorem pd_wrt {X : Cx} {ρ : Kn} {a : Expr} {p pos : Pos} {x : Deed} (T : Top X.K X.w X.mg) (ha : PD X ρ a (.str x.str)) (hx : isWr x = true) (hg : Gl X "WRITTEN" := by exact rfl) (hp : PlainIx a := by exact fun _ _ => rfl) :
    PD X ρ (.Subscript (.Name "WRITTEN" p) a pos) (.tup [.bl (wr1 x), .bl (wr2 x)]) := by
  obtain ⟨A, es, n, hm, kd, hw, _⟩ := T.wWRITTEN
  obtain ⟨u, v, h1, h2, h3⟩ := hw x hx
  exact pe_w (pe_ix ix_kdict (pe_glob (v := .ref A) hg hm rfl) ha hp) fun σ H Q q => ⟨q.1, fun y H1 e1 a1 => by
    simp only [At] at a1
    exact ⟨A, x.str, v, rfl, a1, ⟨es, n, u, kd.at_, kd.lit, h1, h2⟩, q.2 v H1 e1 (h3 H1)⟩⟩
theorem ok_wri (T : Top K w mg) : Dok P w K mg base 4 "written" ["rules", "state", "deed"] (spD K rWri) :=
  dokD T.dwritten sc_wri (fun ds d ⟨w, s, x, e, _⟩ => by subst e; rfl) (fun _ _ _ _ _ _ us hl => match us, hl with | [_, _, _], _ => rfl) fun ds d ⟨w, s, x, e, hx, ed⟩ f cdv A outer s' H E hr => by
    subst e ed
    refine sr_seq (sn_unp [3, 4, 5, 6] (pd_var 1) rfl (pgs_cons (pg_name (i := 3) sc_wri.nd rfl (Or.inl rfl)) (pgs_cons (pg_name (i := 4) sc_wri.nd rfl (Or.inl rfl)) (pgs_cons (pg_name (i := 5) sc_wri.nd rfl (Or.inl rfl)) (pgs_cons (pg_name (i := 6) sc_wri.nd rfl (Or.inl rfl)) pgs_nil)))))
      (sr_seq (sn_asg 7 (pd_wrt T (pd_var 2) hx) sc_wri.nd)
      (sr_seq (sn_lcZ (own := [("half", 9), ("is_written", 10)]) 8 9 10 [(s.a, wr1 x), (s.b, wr2 x)] (fun p => dH p.1) (fun p => .bl p.2) (fun p => .tup [.bl (p.1.c && !p.2), dF p.1.f]) rfl sc_wri.nd T.fzip (pd_var 6) (pd_var 7)
        (blkOk_by (N := ["rules", "state", "deed", "step", "sign", "was_written", "halves", "both", "late", "half", "is_written", "is_first", "has_whole", "is_out", "found"]) (sc := defScope (top 26)) (own := [("half", 9), ("is_written", 10)]) (by decide +kernel))
        (fun _ _ _ _ _ => pg_tup rfl (pgs_cons (pg_name (i := 9) sc_wri.nd rfl (Or.inl rfl)) (pgs_cons (pg_name (i := 10) sc_wri.nd rfl (Or.inl rfl)) pgs_nil)))
        (fun p _ _ _ _ _ _ => pd_tup (pds_two (pd_and (pd_ix (pd_var 9) pd_int rfl) (pd_one (pd_not (pd_var 10)))) (pd_ix (pd_var 9) pd_int rfl))) (fun p _ => by simp [noL, noLs, noL_dF]) (fun σ v u => by simp [wipe, List.set_set, List.set_comm]))
      (sr_if (pdt_is (pdt_cmp (pd_ix (pd_ix (pd_var 6) pd_int rfl) pd_int rfl) pd_non cmp_isN) (isNon_dF s.a.f)) (fun h => sr_ret (pd_to (pd_tup (pds_cons (pd_var 3) (pds_cons pd_bl (pds_cons (pd_var 5) (pds_cons (pd_tuple T.ftuple (pd_var 8)) pds_nil))))) (by rw [written, h]; rfl)))
      (fun h => sr_seq (sn_asg 11 (pd_isb (k' := isFi w s) (pd_and (pd_isb (pd_cmp (pd_word 2 T (hr.mono (by decide)) (pd_var 0) pd_str pix_first) pd_str cmp_eq) (eq_yn w.fi)) (pd_one (pd_not (pd_var 5)))) rfl) sc_wri.nd)
      (sr_seq (sn_asg 12 (pd_isb (k' := isWh w s) (pd_or (pd_var 11) (pd_one (pd_isb (pd_cmp (pd_word 0 T (hr.mono (by decide)) (pd_var 0) pd_str pix_record) pd_str cmp_eq) (eq_Rec_whole w.rc)))) rfl) sc_wri.nd)
      (sr_seq (sn_asg 13 (pd_isb (k' := isOut w s) (pd_and (pd_isb (pd_cmp (pd_word 1 T (hr.mono (by decide)) (pd_var 0) pd_str pix_guard) pd_str cmp_eq) (eq_yn w.gu)) (pd_and (pd_isb (pd_cmp (pd_ix (pd_ix (pd_var 6) pd_int rfl) pd_int rfl) (pd_gl T.gWAITING) cmp_inF) (in_wait s.a.f)) (pd_one (pd_not (pd_var 11))))) rfl) sc_wri.nd)
      (sr_norm [some (dW w), some (dS s), some (.str x.str), some (.str s.s.str), some (.bl s.g), some (.bl s.wb), some (dHs s.a s.b), some (.tup [.bl (wr1 x), .bl (wr2 x)]), some (.lst [.tup [.bl (s.a.c && !wr1 x), dF s.a.f], .tup [.bl (s.b.c && !wr2 x), dF s.b.f]]), none, none, some (.bl (isFi w s)), some (.bl (isWh w s)), some (.bl (isOut w s)), none]
      (sr_own 14 sc_wri.nd fun l => so_seqR (so_forZ 8 7 9 10 [(s.a, wr1 x), (s.b, wr2 x)] (fun p => .tup [.bl (p.1.c && !p.2), dF p.1.f]) (fun p => .bl p.2) (fun n => (([(s.a, wr1 x), (s.b, wr2 x)] : List (Hf × Bool)).take n).map fun p => .tup [.bl (p.1.c && !p.2), dF (fateB w p.1.f p.2 (isWh w s) (isOut w s))])
          (fun n p => K2 _ 9 10 (.tup [.bl (p.1.c && !p.2), dF p.1.f]) (.bl p.2)) rfl T.fzip PassesOwn.never (pg_tup rfl (pgs_cons (pg_name (i := 9) sc_wri.nd rfl (Or.inl rfl)) (pgs_cons (pg_name (i := 10) sc_wri.nd rfl (Or.inl rfl)) pgs_nil)))
          (fun n p _ => by repeat (first | exact Le.nil | refine Le.no ?_ | refine Le.yes ?_))
          (fun n p hp => so_toS (so_seq (so_app 14 (pd_tup (pds_two (pd_ix (pd_var 9) pd_int rfl) (pd_call (ok_fat T) (hr.mono (by decide)) (pds_cons (pd_var 0) (pds_cons (pd_ix (pd_var 9) pd_int rfl) (pds_cons (pd_var 10) (pds_cons (pd_var 12) (pds_cons (pd_var 13) pds_nil))))) ⟨w, p.1.f, p.2, isWh w s, isOut w s, rfl, rfl⟩)))
            (by simp [noL, noLs, noL_dF]) (by simp only [List.length_map, List.length_take, List.length_cons, List.length_nil]; omega)) so_nil) (by rw [filter_snoc hp, List.map_append]; rfl)))
        (so_endR 14 (sr_ret (pd_to (pd_tup (pds_cons (pd_var 3) (pds_cons pd_bl (pds_cons (pd_or (pd_var 5) (pd_one (pd_var 11))) (pds_cons (pd_tuple T.ftuple (pd_var 14)) pds_nil))))) (by rw [written, h]; rfl))))))))))))
end
end CM
set_option Elab.async false
set_option linter.all false
set_option maxRecDepth 100000
set_option maxHeartbeats 4000000
/-! CM7: done, stands_broken, goes_wrong, begins_wrong, deeds_at, past_behind, lost_from, place_behind, the checks. -/
namespace CM
open PySem L2
open PyProof.Rows (envOfC)
section
variable {P : Program} {w : World} {K : PySem.W.Frag} {mg : Str → Option Value} {base : Heap}

/-! ### done -/
theorem sc_don : FnScope ["rules", "state", "deed"] ["rules", "state", "deed"] (defScope (top 27)) := ⟨rfl, rfl, rfl, by decide +kernel, rfl, by decide +kernel, by decide +kernel⟩
def rDon (ds : List D) (d : D) : Prop := ∃ w s x, ds = [dW w, dS s, .str (Deed.str x)] ∧ x ≠ .lose ∧ d = dS (doneBy w s x)
theorem isWr_of {x : Deed} (h0 : x ≠ .lose) (h1 : decide (x = .begin) = false) (h2 : decide (x = .read) = false) (h3 : decide (x = .clear) = false) (h4 : decide (x = .end_) = false) : isWr x = true := by
  cases x <;> first | rfl | (revert h1 h2 h3 h4 h0; decide)
theorem done_wr {w : Wd} {s : Sta} {x : Deed} (h : isWr x = true) : doneBy w s x = written w s (wr1 x) (wr2 x) := by
  cases x <;> first | rfl | cases h
theorem ok_don (T : Top K w mg) : Dok P w K mg base 5 "done" ["rules", "state", "deed"] (spD K rDon) :=
  dokD T.ddone sc_don (fun ds d ⟨w, s, x, e, _⟩ => by subst e; rfl) (fun _ _ _ _ _ _ us hl => match us, hl with | [_, _, _], _ => rfl) fun ds d ⟨w, s, x, e, hx, ed⟩ f cdv A outer s' H E hr => by
    subst e ed
    exact sr_if (pdt_is (pdt_cmp (pd_var 2) pd_str cmp_eq) (eq_Deed_begin x)) (fun h => sr_ret (pd_to (pd_call (ok_beg T) (hr.mono (by decide)) (pds_two (pd_var 0) (pd_var 1)) ⟨w, s, rfl, rfl⟩) (by rw [of_decide_eq_true h]; rfl)))
      (fun h1 => sr_if (pdt_is (pdt_cmp (pd_var 2) pd_str cmp_eq) (eq_Deed_read x)) (fun h => sr_ret (pd_to (pd_call (ok_rdh T) (hr.mono (by decide)) (pds_two (pd_var 0) (pd_var 1)) ⟨w, s, rfl, rfl⟩) (by rw [of_decide_eq_true h]; rfl)))
      (fun h2 => sr_if (pdt_is (pdt_cmp (pd_var 2) pd_str cmp_eq) (eq_Deed_clear x)) (fun h => sr_ret (pd_to (pd_tup (pds_cons pd_str (pds_cons pd_bl (pds_cons (pd_ix (pd_var 1) pd_int rfl) (pds_cons (pd_ix (pd_var 1) pd_int rfl) pds_nil))))) (by rw [of_decide_eq_true h]; rfl)))
      (fun h3 => sr_if (pdt_is (pdt_cmp (pd_var 2) pd_str cmp_eq) (eq_Deed_end_ x)) (fun h => sr_if (pdt_is (pdt_cmp (pd_word 3 T (hr.mono (by decide)) (pd_var 0) pd_str pix_mark) pd_str cmp_eq) (eq_ab w.mb))
          (fun hm => sr_ret (pd_to (pd_tup (pds_cons pd_str (pds_cons (pd_ix (pd_var 1) pd_int rfl) (pds_cons pd_bl (pds_cons (pd_call (ok_set T) (hr.mono (by decide)) (pds_cons (pd_ix (pd_var 1) pd_int rfl) pds_nil) ⟨s.a, s.b, rfl, rfl⟩) pds_nil))))) (by rw [of_decide_eq_true h]; show _ = dS (ended w s); rw [ended, hm]; rfl)))
          (fun hm => sr_ret (pd_to (pd_tup (pds_cons pd_str (pds_cons (pd_ix (pd_var 1) pd_int rfl) (pds_cons (pd_ix (pd_var 1) pd_int rfl) (pds_cons (pd_ix (pd_var 1) pd_int rfl) pds_nil))))) (by rw [of_decide_eq_true h]; show _ = dS (ended w s); rw [ended, hm]; rfl))))
      (fun h4 => sr_ret (pd_to (pd_call (ok_wri T) (hr.mono (by decide)) (pds_cons (pd_var 0) (pds_cons (pd_var 1) (pds_cons (pd_var 2) pds_nil))) ⟨w, s, x, rfl, isWr_of hx h1 h2 h3 h4, rfl⟩) (by rw [done_wr (isWr_of hx h1 h2 h3 h4)]))))))

/-! ### stands_broken, goes_wrong, begins_wrong -/
theorem sc_sta : FnScope ["state", "wish", "fates", "half"] ["state", "wish"] (defScope (top 32)) := ⟨rfl, rfl, rfl, by decide +kernel, rfl, by decide +kernel, by decide +kernel⟩
def rSta (ds : List D) (d : D) : Prop := ∃ s x, ds = [dS s, .str (Wish.str x)] ∧ d = .bl (standsBad s x)
theorem eqV_none (f : Option Fate) : eqV (vD (dF f)) .non = f.isNone := by cases f with | none => rfl | some f => cases f <;> rfl
theorem in_none (f g : Option Fate) : inD .non [dF f, dF g] = (f.isNone || g.isNone) := by
  show (eqV (vD (dF f)) .non || (eqV (vD (dF g)) .non || false)) = _
  rw [eqV_none, eqV_none, Bool.or_false]
theorem eqV_elder (f : Option Fate) : eqV (vD (dF f)) (.str Wish.elder.str) = decide (f = some .elder) := by cases f with | none => decide +kernel | some f => cases f <;> decide +kernel
theorem eqV_twice (f : Option Fate) : eqV (vD (dF f)) (.str Wish.twice.str) = decide (f = some .twice) := by cases f with | none => decide +kernel | some f => cases f <;> decide +kernel
theorem in_fates (x : Wish) (f g : Option Fate) : (decide (x = .elder ∨ x = .twice) && inD (.str x.str) [dF f, dF g]) = (cond (decide (x = .elder)) (decide (f = some .elder) || decide (g = some .elder)) (cond (decide (x = .twice)) (decide (f = some .twice) || decide (g = some .twice)) false)) := by
  have e : inD (.str x.str) [dF f, dF g] = (eqV (vD (dF f)) (.str x.str) || (eqV (vD (dF g)) (.str x.str) || false)) := rfl
  rw [e, Bool.or_false]
  cases x
  · rw [eqV_elder, eqV_elder]; rfl
  · rfl
  · rfl
  · rw [eqV_twice, eqV_twice]; rfl
theorem ok_sta (T : Top K w mg) : Dok P w K mg base 1 "stands_broken" ["state", "wish"] (spD K rSta) :=
  dokD T.dstands_broken sc_sta (fun ds d ⟨s, x, e, _⟩ => by subst e; rfl) (fun _ _ _ _ _ _ us hl => match us, hl with | [_, _], _ => rfl) fun ds d ⟨s, x, e, ed⟩ f cdv A outer s' H E hr => by
    subst e ed
    exact sr_seq (sn_lcN (own := [("half", 3)]) 2 3 [s.a, s.b] dH (fun h => dF h.f) (fun _ => true) rfl sc_sta.nd (pd_ix (pd_var 0) pd_int rfl) (blkOk_by (N := ["state", "wish", "fates", "half"]) (sc := defScope (top 32)) (own := [("half", 3)]) (by decide +kernel))
        (fun _ _ _ _ _ => pg_name (i := 3) sc_sta.nd rfl (Or.inl rfl)) (fun _ _ _ _ _ _ _ => pdts_nil) (fun h _ _ _ _ _ _ _ => pd_ix (pd_var 3) pd_int rfl) (fun h _ => noL_dF _) (fun σ v => by simp [wipe, List.set_set]))
      (sr_norm [some (dS s), some (.str x.str), some (.lst [dF s.a.f, dF s.b.f]), none]
      (sr_if (PW.pt (pdw_or (pdt_is (pdt_cmp (pd_ix (pd_var 0) pd_int rfl) pd_str cmp_ne) (congrArg Bool.not (eq_Step_kept s.s))) (pdw_or1 (pdt_is (pdt_cmp pd_non (pd_var 2) (cmp_inL rfl (by simp only [List.all_cons, fl_dF, List.all_nil, Bool.and_self]))) (in_none s.a.f s.b.f)))))
        (fun h => sr_ret (pd_to pd_bl (by rw [standsBad, h]; rfl)))
        (fun h => sr_if (pdt_is (pdt_cmp (pd_var 1) pd_str cmp_eq) (eq_Wish_torn x)) (fun h2 => sr_ret (pd_to (pd_cmp (pd_ixL (pd_var 2) pd_int rfl) (pd_ixL (pd_var 2) pd_int rfl) cmp_neFF) (by rw [standsBad, h, h2, eq_FF]; rfl)))
        (fun h2 => sr_ret (pd_to (pd_and (pd_isb (pd_cmp (pd_var 1) (pd_tup (pds_two pd_str pd_str)) cmp_inT) (in_et x)) (pd_one (pd_cmp (pd_var 1) (pd_var 2) (cmp_inL rfl (by simp only [List.all_cons, fl_dF, List.all_nil, Bool.and_self]))))) (by rw [standsBad, h, h2, in_fates]; rfl))))))
theorem sc_goe : FnScope ["rules", "state", "deed", "wish", "half"] ["rules", "state", "deed", "wish"] (defScope (top 33)) := ⟨rfl, rfl, rfl, by decide +kernel, rfl, by decide +kernel, by decide +kernel⟩
def rGoe (ds : List D) (d : D) : Prop := ∃ w s x, ds = [dW w, dS s, .str "begin", .str (Wish.str x)] ∧ d = .bl (goesBad w s x)
theorem eq_beg : eqD (.str "begin") (.str "begin") = true := by decide +kernel
theorem ok_goe (T : Top K w mg) : Dok P w K mg base 4 "goes_wrong" ["rules", "state", "deed", "wish"] (spD K rGoe) :=
  dokD T.dgoes_wrong sc_goe (fun ds d ⟨w, s, x, e, _⟩ => by subst e; rfl) (fun _ _ _ _ _ _ us hl => match us, hl with | [_, _, _, _], _ => rfl) fun ds d ⟨w, s, x, e, ed⟩ f cdv A outer s' H E hr => by
    subst e ed
    exact sr_if (PW.pt (pdw_or (pdt_is (pdt_cmp (pd_var 3) pd_str cmp_ne) (congrArg Bool.not (eq_Wish_left x))) (pdw_or (pdt_is (pdt_cmp (pd_var 2) pd_str cmp_ne) (congrArg Bool.not eq_beg)) (pdw_or1 (pdt_val (pd_call (ok_tbr T) (hr.mono (by decide)) (pds_two (pd_var 0) (pd_var 1)) ⟨w, s, rfl, rfl⟩))))))
      (fun h => sr_ret (pd_to pd_bl (by rw [goesBad]; rw [show (!decide (x = .left) || toRead w s) = true from h]; rfl)))
      (fun h => sr_ret (pd_to (pd_not (pd_all (bs := [s.a.c, s.b.c]) rfl T.fall (pd_to (pd_l (pdl_lcN (own := [("half", 4)]) 4 [s.a, s.b] dH (fun h => .bl h.c) (fun _ => true) rfl sc_goe.nd (pd_ix (pd_var 1) pd_int rfl) (blkOk_by (N := ["rules", "state", "deed", "wish", "half"]) (sc := defScope (top 33)) (own := [("half", 4)]) (by decide +kernel))
        (fun _ _ _ _ _ => pg_name (i := 4) sc_goe.nd rfl (Or.inl rfl)) (fun _ _ _ _ _ _ _ => pdts_nil) (fun h _ _ _ _ _ _ _ => pd_ix (pd_var 4) pd_int rfl) (fun h _ => rfl) (fun σ v => by simp [wipe, List.set_set]))) rfl)))
        (by rw [goesBad]; rw [show (!decide (x = .left) || toRead w s) = false from h]; simp)))
theorem sc_bgw : FnScope ["rules", "place", "wish"] ["rules", "place", "wish"] (defScope (top 48)) := ⟨rfl, rfl, rfl, by decide +kernel, rfl, by decide +kernel, by decide +kernel⟩
def rBgw (ds : List D) (d : D) : Prop := ∃ w p x, ds = [dW w, dL p, .str (Wish.str x)] ∧ d = .bl (beginsBad w p x)
theorem ok_bgw (T : Top K w mg) : Dok P w K mg base 5 "begins_wrong" ["rules", "place", "wish"] (spD K rBgw) :=
  dokD T.dbegins_wrong sc_bgw (fun ds d ⟨w, s, x, e, _⟩ => by subst e; rfl) (fun _ _ _ _ _ _ us hl => match us, hl with | [_, _, _], _ => rfl) fun ds d ⟨w, p, x, e, ed⟩ f cdv A outer s' H E hr => by
    subst e ed
    exact sr_ret (pd_and (pd_isb (pd_cmp (pd_ix (pd_ix (pd_var 1) pd_int rfl) pd_int rfl) pd_str cmp_eq) (eq_Step_kept p.st.s)) (pd_one (pd_call (ok_goe T) (hr.mono (by decide)) (pds_cons (pd_var 0) (pds_cons (pd_ix (pd_var 1) pd_int rfl) (pds_cons pd_str (pds_cons (pd_var 2) pds_nil)))) ⟨w, p.st, x, rfl, rfl⟩)))

/-! ### deeds_at -/
theorem sc_dat : FnScope ["rules", "place", "state", "past", "found"] ["rules", "place"] (defScope (top 42)) := ⟨rfl, rfl, rfl, by decide +kernel, rfl, by decide +kernel, by decide +kernel⟩
def rDat (ds : List D) (es : List D) : Prop := ∃ w p, ds = [dW w, dL p] ∧ es = (deedsAt p).map dDeed
theorem deedsIn_len (s : Step) : (deedsIn s).length ≤ 7 := List.length_filter_le _ _
theorem ok_dat (T : Top K w mg) : Dok P w K mg base 3 "deeds_at" ["rules", "place"] (spDL K rDat) :=
  dokL T.ddeeds_at sc_dat (fun ds d ⟨w, p, e, _⟩ => by subst e; rfl) (fun _ _ _ _ _ _ us hl => match us, hl with | [_, _], _ => rfl) fun ds d ⟨wd, p, e, ed⟩ f cdv A outer s' H E hr => by
    subst e ed
    refine srl_seq (sn_unp [2, 3] (pd_var 1) rfl (pgs_cons (pg_name (i := 2) sc_dat.nd rfl (Or.inl rfl)) (pgs_cons (pg_name (i := 3) sc_dat.nd rfl (Or.inl rfl)) pgs_nil))) ?_
    refine pss_w (pss_cons (ps_asg (pdl_call (ρ := [some (dW wd), some (dL p), some (dS p.st), some (dP p.pa), none]) (ok_din T) (hr.mono (by decide)) (pds_two (pd_var 0) (pd_var 2)) ⟨wd, p.st, rfl, rfl⟩) (pg_name (i := 4) sc_dat.nd rfl (Or.inl rfl))) (pss_one (ps_ret (pe_ifExp
      (pdt_is (k' := canLose p) (ρ := [some (dW wd), some (dL p), some (dS p.st), some (dP p.pa), some (.lst ((deedsIn p.st.s).map dDeed))]) (PW.pt (pdw_or (pdt_is (pdt_cmp (pd_ix (pd_var 2) pd_int rfl) (pd_gl T.gRESTING) cmp_niT) (congrArg Bool.not (in_nk p.st.s))) (pdw_or1 (PW.pt (pdw_and (pdt_is (pdt_cmp (pd_ix (pd_var 2) pd_int rfl) pd_str cmp_eq) (eq_Step_kept p.st.s)) (pdw_and1 (pdt_is (pdt_cmp (pd_var 3) pd_non cmp_notN) (congrArg Bool.not (isNon_dP p.pa))))))))) rfl)
      (pdl_lst (ρ := [some (dW wd), some (dL p), some (dS p.st), some (dP p.pa), some (.lst ((deedsIn p.st.s).map dDeed))]) (ds := (deedsIn p.st.s).map dDeed ++ [.str "lose"]) (pds_star (pd_var 4) (pds_cons pd_str pds_nil)) (by rw [List.length_append, List.length_map]; exact Nat.le_trans (Nat.add_le_add_right (deedsIn_len _) 1) (by decide))) (pv 4))))) fun D σ H q => ?_
    refine ⟨q.1, fun l xs H1 n e1 hl al => ?_⟩
    have ea : EA K H1 (σ.set 4 (some (.ref l))) [some (dW wd), some (dL p), some (dS p.st), some (dP p.pa), some (.lst ((deedsIn p.st.s).map dDeed))] := (q.1.same e1).set (i := 4) (at_lst (SqL.of hl) al)
    refine ⟨ea, fun H2 e2 => ?_⟩
    cases hk : canLose p with
    | true => exact iteT ⟨ea.same e2, fun l2 ys H3 n3 e3 hl3 al3 => q.2 l2 ys H3 (Same.free (e1.trans e2) n3) ((e1.trans e2).trans e3) hl3 (by rw [deedsAt, hk, cond_true, List.map_append]; exact al3)⟩
    | false =>
      obtain ⟨v, hv1, hv2⟩ := ea.2 4 _ rfl
      have hlen : 4 < σ.length := by rw [q.1.1]; exact Nat.lt_of_lt_of_le (by decide : 4 < 5) (Nat.le_of_ble_eq_true rfl)
      rw [List.getElem?_set_self hlen] at hv1
      exact iteF ⟨_, List.getElem?_set_self hlen, q.2 l xs H2 n (e1.trans e2) (e2 _ _ hl) (by rw [deedsAt, hk, cond_false]; exact al.same e2)⟩

/-! ### past_behind, lost_from, place_behind -/
theorem sc_pas : FnScope ["rules", "place", "deed", "state", "past", "late"] ["rules", "place", "deed"] (defScope (top 43)) := ⟨rfl, rfl, rfl, by decide +kernel, rfl, by decide +kernel, by decide +kernel⟩
def rPas (ds : List D) (d : D) : Prop := ∃ w p x, ds = [dW w, dL p, .str (Deed.str x)] ∧ x ≠ .lose ∧ d = dP (pastBy w p x)
theorem pdt_inW {X : Cx} {ρ : Kn} {a : Expr} {p pos : Pos} {x : Deed} (T : Top X.K X.w X.mg) (ha : PD X ρ a (.str x.str)) (hg : Gl X "WRITTEN" := by exact rfl) (hm : behindInMarks .In (.Name "WRITTEN" p) = false := by rfl) :
    PDT X ρ (.Compare a [.In] [.Name "WRITTEN" p] pos) (isWr x) := by
  obtain ⟨A, es, n, hg2, kd, hw, hn⟩ := T.wWRITTEN
  refine pt_w (pt_cmpR (op_in_kd kd) ha (pe_glob (v := .ref A) hg hg2 rfl) hm) fun σ H Q q => ⟨q.1, fun y H1 e1 a1 => ?_⟩
  simp only [At] at a1
  cases hx : isWr x with
  | true =>
    obtain ⟨u, v, h1, _⟩ := hw x hx
    exact ⟨x.str, some u, a1, rfl, h1, true, rfl, by rw [← hx]; exact q.2 H1 e1⟩
  | false => exact ⟨x.str, none, a1, rfl, hn x hx, false, rfl, by rw [← hx]; exact q.2 H1 e1⟩
theorem pastBy_some {w : Wd} {s : Sta} {q : Pst} {x : Deed} (hb : decide (x = .begin) = false) : pastBy w ⟨s, some q⟩ x = cond (decide (x = .end_) && w.mb) (some ⟨false, q.a, q.b⟩)
    (cond (isWr x) (some ⟨(written w ⟨.kept, true, q.wb, q.a, q.b⟩ (wr1 x) (wr2 x)).wb, (written w ⟨.kept, true, q.wb, q.a, q.b⟩ (wr1 x) (wr2 x)).a, (written w ⟨.kept, true, q.wb, q.a, q.b⟩ (wr1 x) (wr2 x)).b⟩) (some q)) := by
  cases x <;> first | rfl | cases hb
theorem ok_pas (T : Top K w mg) : Dok P w K mg base 5 "past_behind" ["rules", "place", "deed"] (spD K rPas) :=
  dokD T.dpast_behind sc_pas (fun ds d ⟨w, p, x, e, _⟩ => by subst e; rfl) (fun _ _ _ _ _ _ us hl => match us, hl with | [_, _, _], _ => rfl) fun ds d ⟨w, p, x, e, hx, ed⟩ f cdv A outer s' H E hr => by
    subst e ed
    obtain ⟨s, pa⟩ := p
    refine sr_seq (sn_unp [3, 4] (pd_var 1) rfl (pgs_cons (pg_name (i := 3) sc_pas.nd rfl (Or.inl rfl)) (pgs_cons (pg_name (i := 4) sc_pas.nd rfl (Or.inl rfl)) pgs_nil)))
      (sr_if (pdt_is (pdt_cmp (pd_var 2) pd_str cmp_eq) (eq_Deed_begin x)) (fun h => sr_if (pdt_is (pdt_cmp (pd_ix (pd_var 3) pd_int rfl) pd_str cmp_eq) (eq_Step_none s.s)) (fun h2 => sr_ret (pd_to pd_non (by rw [of_decide_eq_true h, pastBy, h2]; rfl)))
        (fun h2 => sr_ret (pd_to (pd_tup (pds_two (pd_and (pd_ix (pd_var 3) pd_int rfl) (pd_one (pd_isb (pd_cmp (pd_word 3 T (hr.mono (by decide)) (pd_var 0) pd_str pix_mark) pd_str cmp_eq) (eq_ab w.mb)))) (pd_ix (pd_var 3) pd_int rfl))) (by rw [of_decide_eq_true h, pastBy, h2]; rfl))))
      (fun hb => ?_))
    cases pa with
    | none => exact sr_if (k := true) (pdt_cmp (pd_var 4) pd_non cmp_isN) (fun _ => sr_ret (pd_to pd_non (by cases x <;> first | rfl | cases hb))) (fun h => nomatch h)
    | some q =>
      refine sr_if (k := false) (pdt_cmp (pd_var 4) pd_non cmp_isN) (fun h => nomatch h) fun _ =>
        sr_norm [some (dW w), some (dL ⟨s, some q⟩), some (.str x.str), some (dS s), some (.tup [.bl q.wb, dHs q.a q.b]), none]
        (sr_if (PW.pt (pdw_and (pdt_is (pdt_cmp (pd_var 2) pd_str cmp_eq) (eq_Deed_end_ x)) (pdw_and1 (pdt_is (pdt_cmp (pd_word 3 T (hr.mono (by decide)) (pd_var 0) pd_str pix_mark) pd_str cmp_eq) (eq_ab w.mb)))))
          (fun h => sr_ret (pd_to (pd_tup (pds_two pd_bl (pd_ix (pd_var 4) pd_int rfl))) ?_))
        (fun h => sr_if (pdt_inW T (pd_var 2)) (fun h2 => sr_seq (sn_asg 5 (pd_call (ok_wri T) (hr.mono (by decide)) (pds_cons (pd_var 0) (pds_cons (pd_tup (pds_cons pd_str (pds_cons pd_bl (pds_cons (pd_ix (pd_var 4) pd_int rfl) (pds_cons (pd_ix (pd_var 4) pd_int rfl) pds_nil))))) (pds_cons (pd_var 2) pds_nil))) ⟨w, ⟨.kept, true, q.wb, q.a, q.b⟩, x, rfl, h2, rfl⟩) sc_pas.nd)
            (sr_ret (pd_to (pd_tup (pds_two (pd_ix (pd_var 5) pd_int rfl) (pd_ix (pd_var 5) pd_int rfl))) ?_)))
        (fun h2 => sr_ret (pd_to (pd_var 4) ?_))))
      · rw [pastBy_some hb, h]; rfl
      · rw [pastBy_some hb, h, h2]; rfl
      · rw [pastBy_some hb, h, h2]; rfl
theorem sc_los : FnScope ["place", "again", "state", "past", "sign"] ["place", "again"] (defScope (top 44)) := ⟨rfl, rfl, rfl, by decide +kernel, rfl, by decide +kernel, by decide +kernel⟩
def rLos (ds : List D) (d : D) : Prop := ∃ p ag, ds = [dL p, .bl ag] ∧ d = dL (lostBy p ag)
theorem ok_los (T : Top K w mg) : Dok P w K mg base 1 "lost_from" ["place", "again"] (spD K rLos) :=
  dokD T.dlost_from sc_los (fun ds d ⟨p, x, e, _⟩ => by subst e; rfl) (fun _ _ _ _ _ _ us hl => match us, hl with | [_, _], _ => rfl) fun ds d ⟨p, ag, e, ed⟩ f cdv A outer s' H E hr => by
    subst e ed
    obtain ⟨s, pa⟩ := p
    cases pa with
    | none =>
      exact sr_seq (sn_unp [2, 3] (pd_var 0) rfl (pgs_cons (pg_name (i := 2) sc_los.nd rfl (Or.inl rfl)) (pgs_cons (pg_name (i := 3) sc_los.nd rfl (Or.inl rfl)) pgs_nil)))
        (sr_seq (sn_asg 4 (pd_or (pd_ix (pd_var 2) pd_int rfl) (pd_one (pd_var 1))) sc_los.nd)
        (sr_if (k := true) (pdt_cmp (pd_var 3) pd_non cmp_isN) (fun _ => sr_ret (pd_to (pd_tup (pds_two (pd_tup (pds_cons pd_str (pds_cons (pd_var 4) (pds_cons pd_bl (pds_cons (pd_gl T.gBARE) pds_nil))))) pd_non)) rfl)) (fun h => nomatch h)))
    | some q =>
      exact sr_seq (sn_unp [2, 3] (pd_var 0) rfl (pgs_cons (pg_name (i := 2) sc_los.nd rfl (Or.inl rfl)) (pgs_cons (pg_name (i := 3) sc_los.nd rfl (Or.inl rfl)) pgs_nil)))
        (sr_seq (sn_asg 4 (pd_or (pd_ix (pd_var 2) pd_int rfl) (pd_one (pd_var 1))) sc_los.nd)
        (sr_if (k := false) (pdt_cmp (pd_var 3) pd_non cmp_isN) (fun h => nomatch h) (fun _ => sr_ret (pd_to (pd_tup (pds_two (pd_tup (pds_cons pd_str (pds_cons (pd_var 4) (pds_cons (pd_ix (pd_var 3) pd_int rfl) (pds_cons (pd_ix (pd_var 3) pd_int rfl) pds_nil))))) pd_non)) rfl))))
theorem sc_plb : FnScope ["rules", "place", "deed", "again"] ["rules", "place", "deed", "again"] (defScope (top 45)) := ⟨rfl, rfl, rfl, by decide +kernel, rfl, by decide +kernel, by decide +kernel⟩
def rPlb (ds : List D) (d : D) : Prop := ∃ w p x ag, ds = [dW w, dL p, .str (Deed.str x), .bl ag] ∧ d = dL (plBy w p ag x)
theorem ok_plb (T : Top K w mg) : Dok P w K mg base 6 "place_behind" ["rules", "place", "deed", "again"] (spD K rPlb) :=
  dokD T.dplace_behind sc_plb (fun ds d ⟨w, p, x, ag, e, _⟩ => by subst e; rfl) (fun _ _ _ _ _ _ us hl => match us, hl with | [_, _, _, _], _ => rfl) fun ds d ⟨w, p, x, ag, e, ed⟩ f cdv A outer s' H E hr => by
    subst e ed
    exact sr_if (pdt_is (pdt_cmp (pd_var 2) pd_str cmp_eq) (eq_Deed_lose x)) (fun h => sr_ret (pd_to (pd_call (ok_los T) (hr.mono (by decide)) (pds_two (pd_var 1) (pd_var 3)) ⟨p, ag, rfl, rfl⟩) (by rw [of_decide_eq_true h]; rfl)))
      (fun h => sr_ret (pd_to (pd_tup (pds_two (pd_call (ok_don T) (hr.mono (by decide)) (pds_cons (pd_var 0) (pds_cons (pd_ix (pd_var 1) pd_int rfl) (pds_cons (pd_var 2) pds_nil))) ⟨w, p.st, x, rfl, of_decide_eq_false h, rfl⟩)
        (pd_call (ok_pas T) (hr.mono (by decide)) (pds_cons (pd_var 0) (pds_cons (pd_var 1) (pds_cons (pd_var 2) pds_nil))) ⟨w, p, x, rfl, of_decide_eq_false h, rfl⟩))) (by cases x <;> first | rfl | cases h)))

/-! ### the checks -/
theorem sc_crl : FnScope ["value"] ["value"] (defScope (top 13)) := ⟨rfl, rfl, rfl, by decide +kernel, rfl, by decide +kernel, by decide +kernel⟩
theorem ok_crl (T : Top K w mg) : Dok P w K mg base 1 "check_rules" ["value"] (spD K fun ds d => (∃ w, ds = [dW w]) ∧ d = .non) :=
  dokN T.dcheck_rules sc_crl (fun ds ⟨x, e⟩ => by subst e; rfl) (fun _ _ _ _ _ _ us hl => match us, hl with | [_], _ => rfl) fun ds ⟨w, e⟩ f cdv A outer s H E hr => by
    subst e
    exact sn_seq (sn_skip (pdt_not (k := true) (pdt_val (pd_isiC T.fisinstance T.oRules (pd_var 0) (tyRul T.oRules) kitSelf)))) sn_nil
theorem sc_cwi : FnScope ["rules", "wish"] ["rules", "wish"] (defScope (top 31)) := ⟨rfl, rfl, rfl, by decide +kernel, rfl, by decide +kernel, by decide +kernel⟩
theorem in_wishes (x : Wish) : inD (.str x.str) [.str "elder", .str "left", .str "torn", .str "twice"] = true := by cases x <;> decide +kernel
theorem ok_cwi (T : Top K w mg) : Dok P w K mg base 2 "check_wish" ["rules", "wish"] (spD K fun ds d => (∃ w x, ds = [dW w, .str (Wish.str x)]) ∧ d = .non) :=
  dokN T.dcheck_wish sc_cwi (fun ds ⟨w, x, e⟩ => by subst e; rfl) (fun _ _ _ _ _ _ us hl => match us, hl with | [_, _], _ => rfl) fun ds ⟨w, x, e⟩ f cdv A outer s H E hr => by
    subst e
    exact sn_seq (sn_exp (pd_call (ok_crl T) (hr.mono (by decide)) (pds_cons (pd_var 0) pds_nil) ⟨⟨w, rfl⟩, rfl⟩))
      (sn_seq (sn_skip (pdt_is (PW.pt (pdw_or (pdt_not (pdt_val (pd_isiB (T := "str") (r := true) T.fisinstance T.fstr (by decide +kernel) (pd_var 1) tyStr (kit_ty (by decide +kernel))))) (pdw_or1 (pdt_cmp (pd_var 1) (pd_gl T.gWISHES) cmp_niT)))) (by simp only [in_wishes, Bool.not_true, Bool.or_self]))) sn_nil)
theorem sc_cag : FnScope ["again"] ["again"] (defScope (top 40)) := ⟨rfl, rfl, rfl, by decide +kernel, rfl, by decide +kernel, by decide +kernel⟩
theorem ok_cag (T : Top K w mg) : Dok P w K mg base 1 "check_again" ["again"] (spD K fun ds d => (∃ ag, ds = [.bl ag]) ∧ d = .non) :=
  dokN T.dcheck_again sc_cag (fun ds ⟨x, e⟩ => by subst e; rfl) (fun _ _ _ _ _ _ us hl => match us, hl with | [_], _ => rfl) fun ds ⟨x, e⟩ f cdv A outer s H E hr => by
    subst e
    exact sn_seq (sn_skip (pdt_not (k := true) (pdt_val (pd_isiB (T := "bool") (r := true) T.fisinstance T.fbool (by decide +kernel) (pd_var 0) tyBl (kit_ty (by decide +kernel)))))) sn_nil
theorem sc_clo : FnScope ["rules", "wish", "again"] ["rules", "wish", "again"] (defScope (top 41)) := ⟨rfl, rfl, rfl, by decide +kernel, rfl, by decide +kernel, by decide +kernel⟩
theorem ok_clo (T : Top K w mg) : Dok P w K mg base 3 "check_loss" ["rules", "wish", "again"] (spD K fun ds d => (∃ w x ag, ds = [dW w, .str (Wish.str x), .bl ag]) ∧ d = .non) :=
  dokN T.dcheck_loss sc_clo (fun ds ⟨w, x, ag, e⟩ => by subst e; rfl) (fun _ _ _ _ _ _ us hl => match us, hl with | [_, _, _], _ => rfl) fun ds ⟨w, x, ag, e⟩ f cdv A outer s H E hr => by
    subst e
    exact sn_seq (sn_exp (pd_call (ok_cwi T) (hr.mono (by decide)) (pds_two (pd_var 0) (pd_var 1)) ⟨⟨w, x, rfl⟩, rfl⟩)) (sn_seq (sn_exp (pd_call (ok_cag T) (hr.mono (by decide)) (pds_cons (pd_var 2) pds_nil) ⟨⟨ag, rfl⟩, rfl⟩)) sn_nil)
end
end CM
set_option Elab.async false
set_option linter.all false
set_option maxRecDepth 100000
set_option maxHeartbeats 4000000
/-! CM8: the law's small defs. -/
namespace CM
open PySem L2
open PyProof.Rows (envOfC)

/-- (a, b, ..).index(e), the tuple written there -/
theorem pe_tupIndex {X : Cx} {es : List Expr} {e : Expr} {k1 : Nat} {tp apos cpos : Pos} {tes : TA} {te : TE} (hes : PA X es tes) (he : PE X e te)
    (hbase : attributeBase (.Tuple es k1 tp) "index" X.env (eval (.Tuple es k1 tp) X.env) = eval (.Tuple es k1 tp) X.env := by rfl)
    (hfew : ((backTo cpos (starEach [e] X.env)).all (fun x => !x.1) && (backToKw cpos (keywordEach [] X.env)).all (fun x => x.1.isSome)
      && decide ([e].length + ([] : List Keyword).length + (if ([] : List Keyword).isEmpty then 0 else 1) < 30)) = true := by rfl)
    (hline : (apos.endLine == cpos.line) = true := by rfl) (hs : starEach [e] X.env = (false, eval e X.env) :: starEach [] X.env := by rfl) (hplain : (backTo cpos (starEach [] X.env)).any (·.1) = false := by rfl) :
    PE X (.Call (.Attribute (.Tuple es k1 tp) "index" apos) [e] [] cpos) (fun σ H Q => tes σ H fun xs H1 => xs.length ≤ sizeLine ∧ ∀ p, H1 p = none → te σ (upd H1 p (.tup xs)) fun y H2 => ∃ (ys : List Str) (z : Str) (j : Nat), xs = ys.map V.str ∧ [y] = [.str z] ∧ H2 p = some (.tup xs) ∧ ys[j]? = some z ∧ (∀ m, m < j → ys[m]? ≠ some z) ∧ Q (.int (j : Nat)) H2) := by
  refine ⟨fun pins s σ H Q I h => ?_⟩
  refine wpAny_Call_method_late hbase hfew hline rfl ?_
  refine wpAny_Tuple_spliced (thn (hes.run tp pins s σ H _ I h) fun us s1 ⟨xs, H1, I1, r, z, q⟩ => ⟨by rw [← r.length]; exact z, ?_⟩)
  have hf : H1 s1.heap.objs.size = none := I1.hok.fresh (Nat.le_refl _)
  have hg : (s1.heap.push { cls := .type "tuple", data := .seq us.toArray }).get? s1.heap.objs.size = some { cls := .type "tuple", data := .seq us.toArray } := Heap.get?_push_size _ rfl
  have I2 : Inv X pins σ (upd H1 s1.heap.objs.size (.tup xs)) { s1 with heap := s1.heap.push { cls := .type "tuple", data := .seq us.toArray } } :=
    I1.laid (t' := s1.toks) (fun b u e => Heap.get?_push_of_some _ e) (Nat.le_refl _) ⟨z, us, r, ⟨_, hg, rfl, _, rfl⟩⟩
  refine ⟨"tuple", "tuple.index", PySem.F.plainAttrs_tuple, PySem.F.slot_tuple_index, PySem.F.type_tuple_index, ⟨_, hg, rfl⟩, fun a ea => ?_, ?_⟩
  · cases ea
    exact ⟨_, hg, rfl⟩
  have hA := (pa_cons he pa_nil hs).run cpos pins _ σ _ _ I2 (show tCons te tNil σ (upd H1 s1.heap.objs.size (.tup xs)) (fun vs H2 => ∃ (ys : List Str) (z : Str) (j : Nat), xs = ys.map V.str ∧ vs = [.str z] ∧ H2 s1.heap.objs.size = some (.tup xs) ∧ ys[j]? = some z ∧ (∀ m, m < j → ys[m]? ≠ some z) ∧ Q (.int (j : Nat)) H2) from q s1.heap.objs.size hf)
  rw [hs] at hA ⊢
  refine Calls.callWith_builtin (by show (false || (backTo cpos (starEach [] X.env)).any (·.1)) = false; rw [hplain] <;> rfl) (Calls.evalArgs_plain ?_)
  exact thn hA fun us2 s2 ⟨vs, H2, I3, r2, ys, z, j, e1, e2, e3, e4, e5, q2⟩ => mt_tup_index pins s2 σ H2 (.ref s1.heap.objs.size) vs _ us2 Q I3 rfl r2 ⟨_, ys, z, j, rfl, e2, by rw [← e1]; exact SqT.of e3, e4, e5, q2⟩
theorem pd_tupIndex {X : Cx} {ρ : Kn} {es : List Expr} {e : Expr} {k1 : Nat} {tp apos cpos : Pos} {ys : List Str} {z : Str} {j : Nat} (hes : PDs X ρ es (ys.map D.str)) (he : PD X ρ e (.str z)) (h1 : ys[j]? = some z) (h2 : ∀ m, m < j → ys[m]? ≠ some z) (hl : ys.length ≤ 100)
    (hbase : attributeBase (.Tuple es k1 tp) "index" X.env (eval (.Tuple es k1 tp) X.env) = eval (.Tuple es k1 tp) X.env := by rfl)
    (hfew : ((backTo cpos (starEach [e] X.env)).all (fun x => !x.1) && (backToKw cpos (keywordEach [] X.env)).all (fun x => x.1.isSome)
      && decide ([e].length + ([] : List Keyword).length + (if ([] : List Keyword).isEmpty then 0 else 1) < 30)) = true := by rfl)
    (hline : (apos.endLine == cpos.line) = true := by rfl) (hs : starEach [e] X.env = (false, eval e X.env) :: starEach [] X.env := by rfl) (hplain : (backTo cpos (starEach [] X.env)).any (·.1) = false := by rfl) :
    PD X ρ (.Call (.Attribute (.Tuple es k1 tp) "index" apos) [e] [] cpos) (.int (j : Int)) :=
  pe_w (pe_tupIndex hes he hbase hfew hline hs hplain) fun σ H Q q => ⟨q.1, fun xs H1 e1 al => by
    have ex : xs = ys.map V.str := by
      rw [atL_fl al (by rw [List.all_map]; exact List.all_eq_true.mpr fun _ _ => rfl), List.map_map]; rfl
    refine ⟨by rw [ex, List.length_map]; exact Nat.le_trans hl (by decide), fun p hp => ?_⟩
    have e2 : Same H1 (upd H1 p (.tup xs)) := same_new hp
    refine ⟨q.1.same (e1.trans e2), fun y H2 e3 a3 => ?_⟩
    simp only [At] at a3
    subst a3
    exact ⟨ys, z, j, ex, rfl, e3 _ _ upd_same, h1, h2, q.2 _ H2 (e1.trans (e2.trans e3)) (by simp only [At])⟩⟩

section
variable {P : Program} {w : World} {K : PySem.W.Frag} {mg : Str → Option Value} {base : Heap}
theorem sc_lma : FnScope ["_law_halves", "_law_is_even", "_law_fate"] ["_law_halves"] (defScope (top 58)) := ⟨rfl, rfl, rfl, by decide +kernel, rfl, by decide +kernel, by decide +kernel⟩
theorem pair_settled (h : Hf) : (D.tup [.bl h.c, cond h.c (.str "right") (.str "elder")]) = dH h.settled := by cases h with | mk c f => cases c <;> rfl
theorem ok_lma (T : Top K w mg) : Dok P w K mg base 1 "_law_marked" ["_law_halves"] (spD K rSet) :=
  dokD T.d_law_marked sc_lma (fun ds d ⟨a, b, e, _⟩ => by subst e; rfl) (fun _ _ _ _ _ _ us hl => match us, hl with | [_], _ => rfl) fun ds d ⟨a, b, e, ed⟩ f cdv A outer s' H E hr => by
    subst e ed
    refine sr_to (sr_ret (pd_tuple T.ftuple (pd_l (pdl_lc2 (own := [("_law_is_even", 1), ("_law_fate", 2)]) 1 2 [a, b] (fun h => .bl h.c) (fun h => dF h.f) (fun h => .tup [.bl h.c, cond h.c (.str "right") (.str "elder")]) (fun _ => true) rfl sc_lma.nd (pd_var 0)
      (blkOk_by (N := ["_law_halves", "_law_is_even", "_law_fate"]) (sc := defScope (top 58)) (own := [("_law_is_even", 1), ("_law_fate", 2)]) (by decide +kernel)) (fun _ _ _ _ _ => pg_tup rfl (pgs_cons (pg_name (i := 1) sc_lma.nd rfl (Or.inl rfl)) (pgs_cons (pg_name (i := 2) sc_lma.nd rfl (Or.inl rfl)) pgs_nil))) (fun _ _ _ _ _ _ _ => pdts_nil)
      (fun h _ _ _ _ _ _ _ => pd_tup (pds_two (pd_var 1) (pd_ifC (pdt_val (pd_var 1)) pd_str pd_str))) (fun h _ => by rw [pair_settled]; exact noL_dH _) (fun σ v u => by simp [wipe, List.set_set, List.set_comm]))))) ?_
    show D.tup [D.tup [.bl a.c, cond a.c (.str "right") (.str "elder")], D.tup [.bl b.c, cond b.c (.str "right") (.str "elder")]] = _
    rw [pair_settled, pair_settled]; rfl
theorem sc_lbe : FnScope ["_law_words_here", "_law_state", "_law_step", "_law_sign", "_law_is_known", "_law_halves", "_law_is_read", "_law_late", "_law_half"] ["_law_words_here", "_law_state"] (defScope (top 59)) := ⟨rfl, rfl, rfl, by decide +kernel, rfl, by decide +kernel, by decide +kernel⟩
def rLbe (ds : List D) (d : D) : Prop := ∃ w s, ds = [dWs w, dS s] ∧ d = .tup [dS (begun w s), .bl (toRead w s)]
theorem begun_hb (w : Wd) (s : Sta) (h : Hf) (hk : (w.mb || toRead w s) = true) : (D.tup [.bl h.c, cond w.mb .non (.str "due")]) = dH (h.begun w (toRead w s)) := by
  unfold Hf.begun
  cases hm : w.mb with
  | true => rfl
  | false =>
    rw [hm, Bool.false_or] at hk
    rw [hk]; rfl
theorem begun_h0 (w : Wd) (s : Sta) (h : Hf) (hk : (w.mb || toRead w s) = false) : h.settled = h.begun w (toRead w s) := by
  unfold Hf.begun
  rw [Bool.or_eq_false_iff] at hk
  rw [hk.1, hk.2]; rfl
theorem ok_lbe (T : Top K w mg) : Dok P w K mg base 2 "_law_begun" ["_law_words_here", "_law_state"] (spD K rLbe) :=
  dokD T.d_law_begun sc_lbe (fun ds d ⟨w, s, e, _⟩ => by subst e; rfl) (fun _ _ _ _ _ _ us hl => match us, hl with | [_, _], _ => rfl) fun ds d ⟨w, s, e, ed⟩ f cdv A outer s' H E hr => by
    subst e ed
    refine sr_seq (sn_unp [2, 3, 4, 5] (pd_var 1) rfl (pgs_cons (pg_name (i := 2) sc_lbe.nd rfl (Or.inl rfl)) (pgs_cons (pg_name (i := 3) sc_lbe.nd rfl (Or.inl rfl)) (pgs_cons (pg_name (i := 4) sc_lbe.nd rfl (Or.inl rfl)) (pgs_cons (pg_name (i := 5) sc_lbe.nd rfl (Or.inl rfl)) pgs_nil)))))
      (sr_seq (sn_asg 6 (pd_isb (k' := toRead w s) (pd_or (pd_isb (pd_cmp (pd_var 2) pd_str cmp_eq) (eq_Step_none s.s)) (pd_or (pd_var 3) (pd_one (pd_isb (pd_cmp (pd_ix (pd_var 0) pd_int rfl) pd_str cmp_eq) (eq_Clr_never w.cl))))) (by rw [toRead, Bool.or_assoc])) sc_lbe.nd)
      (sr_seq (sn_asg 7 (pd_call (ok_lma T) (hr.mono (by decide)) (pds_cons (pd_var 5) pds_nil) ⟨s.a, s.b, rfl, rfl⟩) sc_lbe.nd)
      (sr_norm [some (dWs w), some (dS s), some (.str s.s.str), some (.bl s.g), some (.bl s.wb), some (dHs s.a s.b), some (.bl (toRead w s)), some (dHs s.a.settled s.b.settled), none]
      (sr_seq (sn_if (ρ1 := [some (dWs w), some (dS s), some (.str s.s.str), some (.bl s.g), some (.bl s.wb), some (dHs s.a s.b), some (.bl (toRead w s)), some (dHs (s.a.begun w (toRead w s)) (s.b.begun w (toRead w s))), none]) (PW.pt (pdw_or (pdt_is (pdt_cmp (pd_ix (pd_var 0) pd_int rfl) pd_str cmp_eq) (eq_ab w.mb)) (pdw_or1 (pdt_val (pd_var 6)))))
        (fun hk => sn_seq (sn_to (sn_asg 7 (pd_tuple T.ftuple (pd_l (pdl_lcN (own := [("_law_half", 8)]) 8 [s.a, s.b] dH (fun h => .tup [.bl h.c, cond w.mb .non (.str "due")]) (fun _ => true) rfl sc_lbe.nd (pd_var 5)
          (blkOk_by (N := ["_law_words_here", "_law_state", "_law_step", "_law_sign", "_law_is_known", "_law_halves", "_law_is_read", "_law_late", "_law_half"]) (sc := defScope (top 59)) (own := [("_law_half", 8)]) (by decide +kernel)) (fun _ _ _ _ _ => pg_name (i := 8) sc_lbe.nd rfl (Or.inl rfl)) (fun _ _ _ _ _ _ _ => pdts_nil)
          (fun h _ _ _ _ _ _ _ => pd_tup (pds_two (pd_ix (pd_var 8) pd_int rfl) (pd_ifC (pdt_is (pdt_cmp (pd_ix (pd_var 0) pd_int rfl) pd_str cmp_eq) (eq_ab w.mb)) pd_non pd_str))) (fun h _ => by rw [begun_hb w s h hk]; exact noL_dH _) (fun σ v => by simp [wipe, List.set_set])))) sc_lbe.nd)
          (show [some (dWs w), some (dS s), some (.str s.s.str), some (.bl s.g), some (.bl s.wb), some (dHs s.a s.b), some (.bl (toRead w s)), some (D.tup [D.tup [.bl s.a.c, cond w.mb .non (.str "due")], D.tup [.bl s.b.c, cond w.mb .non (.str "due")]]), none] = _ by rw [begun_hb w s _ hk, begun_hb w s _ hk]; rfl)) sn_nil)
        (fun hk => sns_to sn_nil (by rw [begun_h0 w s s.a hk, begun_h0 w s s.b hk])))
      (sr_seq (sn_asg 3 (pd_isb (k' := cond (toRead w s && decide (w.cl = .ahead)) false s.g) (pd_and (pd_var 3) (pd_one (pd_not (pd_and (pd_var 6) (pd_one (pd_isb (pd_cmp (pd_ix (pd_var 0) pd_int rfl) pd_str cmp_eq) (eq_Clr_ahead w.cl))))))) (by cases (toRead w s && decide (w.cl = .ahead)) <;> cases s.g <;> rfl)) sc_lbe.nd)
      (sr_ret (pd_to (pd_tup (pds_two (pd_tup (pds_cons (pd_ifC (pdt_val (pd_var 6)) pd_str pd_str) (pds_cons (pd_var 3) (pds_cons pd_bl (pds_cons (pd_var 7) pds_nil))))) (pd_var 6))) ?_)))))))
    unfold begun dS
    cases toRead w s <;> rfl

/-! ### _law_read -/
theorem sc_lre : FnScope ["_law_words_here", "_law_state", "_law_step", "_law_sign", "_law_is_known", "_law_halves", "_law_at", "_law_fate", "_law_late", "_law_place"] ["_law_words_here", "_law_state"] (defScope (top 60)) := ⟨rfl, rfl, rfl, by decide +kernel, rfl, by decide +kernel, by decide +kernel⟩
def rLre (ds : List D) (d : D) : Prop := ∃ w s, ds = [dWs w, dS s] ∧ d = dS (readHalf w s)
theorem at_int (s : Sta) (w : Wd) : (cond (decide (s.s = .opened)) (D.int ((cond w.o2 1 0 : Nat) : Int)) (D.int (1 - ((cond w.o2 1 0 : Nat) : Int)))) = .int (cond (at2 w s) 1 0) := by
  unfold at2
  cases decide (s.s = .opened) <;> cases w.o2 <;> rfl
theorem readF_eq (f : Option Fate) : (cond (decide (f = some .due)) (D.str "right") (cond (decide (f = some .doubled)) (.str "twice") (dF f))) = dF (readF f) := by
  cases f with
  | none => rfl
  | some f => cases f <;> rfl
theorem ok_lre (T : Top K w mg) : Dok P w K mg base 1 "_law_read" ["_law_words_here", "_law_state"] (spD K rLre) :=
  dokD T.d_law_read sc_lre (fun ds d ⟨w, s, e, _⟩ => by subst e; rfl) (fun _ _ _ _ _ _ us hl => match us, hl with | [_, _], _ => rfl) fun ds d ⟨w, s, e, ed⟩ f cdv A outer s' H E hr => by
    subst e ed
    refine sr_seq (sn_unp [2, 3, 4, 5] (pd_var 1) rfl (pgs_cons (pg_name (i := 2) sc_lre.nd rfl (Or.inl rfl)) (pgs_cons (pg_name (i := 3) sc_lre.nd rfl (Or.inl rfl)) (pgs_cons (pg_name (i := 4) sc_lre.nd rfl (Or.inl rfl)) (pgs_cons (pg_name (i := 5) sc_lre.nd rfl (Or.inr rfl)) pgs_nil))))) ?_
    cases hat : at2 w s
    · exact (sr_seq (sn_asg 6 (pd_to (pd_tupIndex (ys := ["first", "second"]) (z := fs2 w.o2) (j := cond w.o2 1 0) (pds_two pd_str pd_str) (pd_ix (pd_var 0) pd_int rfl) (by cases w.o2 <;> rfl) (by cases w.o2 with
          | false => intro m hm; exact absurd hm (Nat.not_lt_zero _)
          | true => intro m hm; have : m = 0 := Nat.lt_one_iff.mp hm
                    subst this; decide +kernel) (by decide)) rfl) sc_lre.nd)
      (sr_seq (sn_asg 6 (pd_to (pd_ifC (pdt_is (pdt_cmp (pd_var 2) pd_str cmp_eq) (eq_Step_opened s.s)) (pd_var 6) (pd_sub pd_int (pd_var 6))) (show _ = D.int 0 by rw [at_int s w, hat]; rfl)) sc_lre.nd)
      (sr_seq (sn_asg 7 (pd_ix (pd_ix (pd_var 5) (pd_var 6) rfl) pd_int rfl) sc_lre.nd)
      (sr_seq (sn_asg 7 (pd_to (pd_ifC (pdt_is (pdt_cmp (pd_var 7) pd_str cmp_eqF) (eq_F_due s.a.f)) pd_str (pd_ifC (pdt_is (pdt_cmp (pd_var 7) pd_str cmp_eqF) (eq_F_doubled s.a.f)) pd_str (pd_var 7))) (readF_eq s.a.f)) sc_lre.nd)
      (sr_norm [some (dWs w), some (dS s), some (.str s.s.str), some (.bl s.g), some (.bl s.wb), some (dHs s.a s.b), some (.int 0), some (dF (readF s.a.f)), none, none]
      (sr_seq (sn_asg 8 (pd_tuple T.ftuple (pd_l (pdl_lcN (own := [("_law_place", 9)]) 9 [false, true] (fun b => .int (cond b 1 0)) (fun b => cond b (dH s.b) (.tup [.bl true, dF (readF s.a.f)])) (fun _ => true) rfl sc_lre.nd (pd_to (pd_tup (pds_two pd_int pd_int)) rfl)
          (blkOk_by (N := ["_law_words_here", "_law_state", "_law_step", "_law_sign", "_law_is_known", "_law_halves", "_law_at", "_law_fate", "_law_late", "_law_place"]) (sc := defScope (top 60)) (own := [("_law_place", 9)]) (by decide +kernel)) (fun _ _ _ _ _ => pg_name (i := 9) sc_lre.nd rfl (Or.inl rfl)) (fun _ _ _ _ _ _ _ => pdts_nil)
          (fun b _ _ _ _ _ _ _ => by
            cases b
            · exact pd_to (pd_ifC (pdt_is (pdt_cmp (pd_var 9) (pd_var 6) cmp_eq) (eqD_int _ _)) (pd_tup (pds_two pd_bl (pd_var 7))) (pd_ix (pd_var 5) (pd_var 9) rfl)) rfl
            · exact pd_to (pd_ifC (pdt_is (pdt_cmp (pd_var 9) (pd_var 6) cmp_eq) (eqD_int _ _)) (pd_tup (pds_two pd_bl (pd_var 7))) (pd_ix (pd_var 5) (pd_var 9) rfl)) rfl)
          (fun b _ => by cases b <;> simp [noL, noLs, noL_dF, noL_dH]) (fun σ v => by simp [wipe, List.set_set])))) sc_lre.nd)
      (sr_seq (sn_asg 2 (pd_ifC (pdt_is (pdt_cmp (pd_var 2) pd_str cmp_eq) (eq_Step_opened s.s)) pd_str (pd_ifC (pdt_is (pdt_cmp (pd_ix (pd_var 0) pd_int rfl) pd_str cmp_eq) (eq_Clr_behind w.cl)) pd_str pd_str)) sc_lre.nd)
      (sr_ret (pd_to (pd_tup (pds_cons (pd_var 2) (pds_cons (pd_var 3) (pds_cons (pd_var 4) (pds_cons (pd_var 8) pds_nil))))) (by
        rw [dS, readHalf, hat]
        cases decide (s.s = .opened) <;> cases decide (w.cl = .behind) <;> rfl))))))))))
    · exact (sr_seq (sn_asg 6 (pd_to (pd_tupIndex (ys := ["first", "second"]) (z := fs2 w.o2) (j := cond w.o2 1 0) (pds_two pd_str pd_str) (pd_ix (pd_var 0) pd_int rfl) (by cases w.o2 <;> rfl) (by cases w.o2 with
          | false => intro m hm; exact absurd hm (Nat.not_lt_zero _)
          | true => intro m hm; have : m = 0 := Nat.lt_one_iff.mp hm
                    subst this; decide +kernel) (by decide)) rfl) sc_lre.nd)
      (sr_seq (sn_asg 6 (pd_to (pd_ifC (pdt_is (pdt_cmp (pd_var 2) pd_str cmp_eq) (eq_Step_opened s.s)) (pd_var 6) (pd_sub pd_int (pd_var 6))) (show _ = D.int 1 by rw [at_int s w, hat]; rfl)) sc_lre.nd)
      (sr_seq (sn_asg 7 (pd_ix (pd_ix (pd_var 5) (pd_var 6) rfl) pd_int rfl) sc_lre.nd)
      (sr_seq (sn_asg 7 (pd_to (pd_ifC (pdt_is (pdt_cmp (pd_var 7) pd_str cmp_eqF) (eq_F_due s.b.f)) pd_str (pd_ifC (pdt_is (pdt_cmp (pd_var 7) pd_str cmp_eqF) (eq_F_doubled s.b.f)) pd_str (pd_var 7))) (readF_eq s.b.f)) sc_lre.nd)
      (sr_norm [some (dWs w), some (dS s), some (.str s.s.str), some (.bl s.g), some (.bl s.wb), some (dHs s.a s.b), some (.int 1), some (dF (readF s.b.f)), none, none]
      (sr_seq (sn_asg 8 (pd_tuple T.ftuple (pd_l (pdl_lcN (own := [("_law_place", 9)]) 9 [false, true] (fun b => .int (cond b 1 0)) (fun b => cond b (.tup [.bl true, dF (readF s.b.f)]) (dH s.a)) (fun _ => true) rfl sc_lre.nd (pd_to (pd_tup (pds_two pd_int pd_int)) rfl)
          (blkOk_by (N := ["_law_words_here", "_law_state", "_law_step", "_law_sign", "_law_is_known", "_law_halves", "_law_at", "_law_fate", "_law_late", "_law_place"]) (sc := defScope (top 60)) (own := [("_law_place", 9)]) (by decide +kernel)) (fun _ _ _ _ _ => pg_name (i := 9) sc_lre.nd rfl (Or.inl rfl)) (fun _ _ _ _ _ _ _ => pdts_nil)
          (fun b _ _ _ _ _ _ _ => by
            cases b
            · exact pd_to (pd_ifC (pdt_is (pdt_cmp (pd_var 9) (pd_var 6) cmp_eq) (eqD_int _ _)) (pd_tup (pds_two pd_bl (pd_var 7))) (pd_ix (pd_var 5) (pd_var 9) rfl)) rfl
            · exact pd_to (pd_ifC (pdt_is (pdt_cmp (pd_var 9) (pd_var 6) cmp_eq) (eqD_int _ _)) (pd_tup (pds_two pd_bl (pd_var 7))) (pd_ix (pd_var 5) (pd_var 9) rfl)) rfl)
          (fun b _ => by cases b <;> simp [noL, noLs, noL_dF, noL_dH]) (fun σ v => by simp [wipe, List.set_set])))) sc_lre.nd)
      (sr_seq (sn_asg 2 (pd_ifC (pdt_is (pdt_cmp (pd_var 2) pd_str cmp_eq) (eq_Step_opened s.s)) pd_str (pd_ifC (pdt_is (pdt_cmp (pd_ix (pd_var 0) pd_int rfl) pd_str cmp_eq) (eq_Clr_behind w.cl)) pd_str pd_str)) sc_lre.nd)
      (sr_ret (pd_to (pd_tup (pds_cons (pd_var 2) (pds_cons (pd_var 3) (pds_cons (pd_var 4) (pds_cons (pd_var 8) pds_nil))))) (by
        rw [dS, readHalf, hat]
        cases decide (s.s = .opened) <;> cases decide (w.cl = .behind) <;> rfl))))))))))

/-! ### _law_written -/
theorem sc_lwr : FnScope ["_law_words_here", "_law_state", "_law_both", "_law_step", "_law_sign", "_law_is_known", "_law_halves", "_law_late", "_law_half", "_law_hit", "_law_is_early", "_law_is_out", "_law_found", "_law_is_even", "_law_fate"] ["_law_words_here", "_law_state", "_law_both"] (defScope (top 61)) := ⟨rfl, rfl, rfl, by decide +kernel, rfl, by decide +kernel, by decide +kernel⟩
def rLwr (ds : List D) (d : D) : Prop := ∃ w s x y, ds = [dWs w, dS s, .tup [.bl x, .bl y]] ∧ d = dS (written w s x y)
theorem fe1 (w : Wd) (s : Sta) (f : Option Fate) (hit : Bool) (h : isOut w s = true) : (cond (hit && decide (f = some .right)) (D.str "elder") (dF f)) = dF (fateB w f hit (isWh w s) (isOut w s)) := by
  rw [h]
  unfold fateB
  rw [cond_true, ← dF_cond]; rfl
theorem fe2 (w : Wd) (s : Sta) (f : Option Fate) (hit : Bool) (h : isOut w s = false) (h2 : (isFi w s || (decide (w.rc = .whole) || (hit && decide (w.rc = .part)))) = true) : (D.str "right") = dF (fateB w f hit (isWh w s) (isOut w s)) := by
  rw [h]
  unfold fateB isWh
  cases hf : isFi w s with
  | true => rfl
  | false =>
    rw [hf] at h2
    cases hr : w.rc with
    | whole => rfl
    | part =>
      rw [hr] at h2
      cases hit with
      | true => rfl
      | false => exact absurd h2 (by decide)
    | step =>
      rw [hr] at h2
      cases hit <;> exact absurd h2 (by decide)
theorem fe3 (w : Wd) (s : Sta) (f : Option Fate) (hit : Bool) (h : isOut w s = false) (h2 : (isFi w s || (decide (w.rc = .whole) || (hit && decide (w.rc = .part)))) = false) (h3 : (hit && decide (f = some .due)) = true) : (D.str "doubled") = dF (fateB w f hit (isWh w s) (isOut w s)) := by
  rw [h]
  unfold fateB isWh
  rw [Bool.or_eq_false_iff, Bool.or_eq_false_iff] at h2
  rw [h2.1, h2.2.1]
  rw [Bool.and_eq_true] at h3
  have h4 := h2.2.2
  rw [h3.1, Bool.true_and] at h4
  rw [h3.1, h4, h3.2]; rfl
theorem fe4 (w : Wd) (s : Sta) (f : Option Fate) (hit : Bool) (h : isOut w s = false) (h2 : (isFi w s || (decide (w.rc = .whole) || (hit && decide (w.rc = .part)))) = false) (h3 : (hit && decide (f = some .due)) = false) : dF f = dF (fateB w f hit (isWh w s) (isOut w s)) := by
  rw [h]
  unfold fateB isWh
  rw [Bool.or_eq_false_iff, Bool.or_eq_false_iff] at h2
  rw [h2.1, h2.2.1]
  cases hit with
  | false => rfl
  | true =>
    have h4 := h2.2.2
    rw [Bool.true_and] at h4 h3
    rw [h4, h3]; rfl
section
variable {X : Cx} {ρ ρ1 ρ2 : Kn} {l : Addr} {ds ds1 : List D} {st : List Stmt}
theorem so_toK (h : PSs X st (tO X.K l ρ ds ρ1 ds1)) (q : ρ1 = ρ2) : PSs X st (tO X.K l ρ ds ρ2 ds1) := q ▸ h
end
theorem ok_lwr (T : Top K w mg) : Dok P w K mg base 1 "_law_written" ["_law_words_here", "_law_state", "_law_both"] (spD K rLwr) :=
  dokD T.d_law_written sc_lwr (fun ds d ⟨w, s, x, y, e, _⟩ => by subst e; rfl) (fun _ _ _ _ _ _ us hl => match us, hl with | [_, _, _], _ => rfl) fun ds d ⟨w, s, x, y, e, ed⟩ f cdv A outer s' H E hr => by
    subst e ed
    refine sr_seq (sn_unp [3, 4, 5, 6] (pd_var 1) rfl (pgs_cons (pg_name (i := 3) sc_lwr.nd rfl (Or.inl rfl)) (pgs_cons (pg_name (i := 4) sc_lwr.nd rfl (Or.inl rfl)) (pgs_cons (pg_name (i := 5) sc_lwr.nd rfl (Or.inl rfl)) (pgs_cons (pg_name (i := 6) sc_lwr.nd rfl (Or.inl rfl)) pgs_nil)))))
      (sr_seq (sn_lcZ (own := [("_law_half", 8), ("_law_hit", 9)]) 7 8 9 [(s.a, x), (s.b, y)] (fun p => dH p.1) (fun p => .bl p.2) (fun p => .tup [.bl (p.1.c && !p.2), dF p.1.f]) rfl sc_lwr.nd T.fzip (pd_var 6) (pd_var 2)
        (blkOk_by (N := ["_law_words_here", "_law_state", "_law_both", "_law_step", "_law_sign", "_law_is_known", "_law_halves", "_law_late", "_law_half", "_law_hit", "_law_is_early", "_law_is_out", "_law_found", "_law_is_even", "_law_fate"]) (sc := defScope (top 61)) (own := [("_law_half", 8), ("_law_hit", 9)]) (by decide +kernel))
        (fun _ _ _ _ _ => pg_tup rfl (pgs_cons (pg_name (i := 8) sc_lwr.nd rfl (Or.inl rfl)) (pgs_cons (pg_name (i := 9) sc_lwr.nd rfl (Or.inl rfl)) pgs_nil)))
        (fun p _ _ _ _ _ _ => pd_tup (pds_two (pd_and (pd_ix (pd_var 8) pd_int rfl) (pd_one (pd_not (pd_var 9)))) (pd_ix (pd_var 8) pd_int rfl))) (fun p _ => by simp [noL, noLs, noL_dF]) (fun σ v u => by simp [wipe, List.set_set, List.set_comm]))
      (sr_if (pdt_is (pdt_cmp (pd_ix (pd_ix (pd_var 6) pd_int rfl) pd_int rfl) pd_non cmp_isN) (isNon_dF s.a.f)) (fun h => sr_ret (pd_to (pd_tup (pds_cons (pd_var 3) (pds_cons pd_bl (pds_cons (pd_var 5) (pds_cons (pd_tuple T.ftuple (pd_var 7)) pds_nil))))) (by rw [written, h]; rfl)))
      (fun h => sr_seq (sn_asg 10 (pd_isb (k' := isFi w s) (pd_and (pd_isb (pd_cmp (pd_ix (pd_var 0) pd_int rfl) pd_str cmp_eq) (eq_yn w.fi)) (pd_one (pd_not (pd_var 5)))) rfl) sc_lwr.nd)
      (sr_seq (sn_asg 11 (pd_isb (k' := isOut w s) (pd_and (pd_isb (pd_cmp (pd_ix (pd_var 0) pd_int rfl) pd_str cmp_eq) (eq_yn w.gu)) (pd_and (pd_not (pd_var 10)) (pd_one (pd_isb (pd_cmp (pd_ix (pd_ix (pd_var 6) pd_int rfl) pd_int rfl) (pd_tup (pds_two pd_str pd_str)) cmp_inF) (in_wait s.a.f))))) (by rw [isOut, Bool.and_comm (!isFi w s)])) sc_lwr.nd)
      (sr_norm [some (dWs w), some (dS s), some (.tup [.bl x, .bl y]), some (.str s.s.str), some (.bl s.g), some (.bl s.wb), some (dHs s.a s.b), some (.lst [.tup [.bl (s.a.c && !x), dF s.a.f], .tup [.bl (s.b.c && !y), dF s.b.f]]), none, none, some (.bl (isFi w s)), some (.bl (isOut w s)), none, none, none]
      (sr_own 12 sc_lwr.nd fun l => so_seqR (so_forZ3 7 2 13 14 9 [(s.a, x), (s.b, y)] (fun p => .bl (p.1.c && !p.2)) (fun p => dF p.1.f) (fun p => .bl p.2) (fun n => (([(s.a, x), (s.b, y)] : List (Hf × Bool)).take n).map fun p => .tup [.bl (p.1.c && !p.2), dF (fateB w p.1.f p.2 (isWh w s) (isOut w s))])
          (fun n p => [some (dWs w), some (dS s), some (.tup [.bl x, .bl y]), some (.str s.s.str), some (.bl s.g), some (.bl s.wb), some (dHs s.a s.b), some (.lst [.tup [.bl (s.a.c && !x), dF s.a.f], .tup [.bl (s.b.c && !y), dF s.b.f]]), none, some (.bl p.2), some (.bl (isFi w s)), some (.bl (isOut w s)), some (.adr l), some (.bl (p.1.c && !p.2)), some (dF (fateB w p.1.f p.2 (isWh w s) (isOut w s)))]) rfl T.fzip PassesOwn.never
          (pg_tup rfl (pgs_cons (pg_tup rfl (pgs_cons (pg_name (i := 13) sc_lwr.nd rfl (Or.inl rfl)) (pgs_cons (pg_name (i := 14) sc_lwr.nd rfl (Or.inl rfl)) pgs_nil))) (pgs_cons (pg_name (i := 9) sc_lwr.nd rfl (Or.inl rfl)) pgs_nil)))
          (fun n p _ => by repeat (first | exact Le.nil | refine Le.no ?_ | refine Le.yes ?_))
          (fun n p hp => by
            show PSs _ _ (tO _ l [some (dWs w), some (dS s), some (.tup [.bl x, .bl y]), some (.str s.s.str), some (.bl s.g), some (.bl s.wb), some (dHs s.a s.b), some (.lst [.tup [.bl (s.a.c && !x), dF s.a.f], .tup [.bl (s.b.c && !y), dF s.b.f]]), none, some (.bl p.2), some (.bl (isFi w s)), some (.bl (isOut w s)), some (.adr l), some (.bl (p.1.c && !p.2)), some (dF p.1.f)] _ _ _)
            exact so_toS (so_seq (so_if (ρ1 := [some (dWs w), some (dS s), some (.tup [.bl x, .bl y]), some (.str s.s.str), some (.bl s.g), some (.bl s.wb), some (dHs s.a s.b), some (.lst [.tup [.bl (s.a.c && !x), dF s.a.f], .tup [.bl (s.b.c && !y), dF s.b.f]]), none, some (.bl p.2), some (.bl (isFi w s)), some (.bl (isOut w s)), some (.adr l), some (.bl (p.1.c && !p.2)), some (dF (fateB w p.1.f p.2 (isWh w s) (isOut w s)))]) (pdt_val (pd_var 11))
                (fun k1 => so_seq (so_asg 14 (pd_to (pd_ifC (PW.pt (pdw_and (pdt_val (pd_var 9)) (pdw_and1 (pdt_is (pdt_cmp (pd_var 14) pd_str cmp_eqF) (eq_F_right p.1.f))))) pd_str (pd_var 14)) (fe1 w s p.1.f p.2 k1)) (noL_dF _) sc_lwr.nd) so_nil)
                (fun k1 => so_seq (so_if (ρ1 := [some (dWs w), some (dS s), some (.tup [.bl x, .bl y]), some (.str s.s.str), some (.bl s.g), some (.bl s.wb), some (dHs s.a s.b), some (.lst [.tup [.bl (s.a.c && !x), dF s.a.f], .tup [.bl (s.b.c && !y), dF s.b.f]]), none, some (.bl p.2), some (.bl (isFi w s)), some (.bl (isOut w s)), some (.adr l), some (.bl (p.1.c && !p.2)), some (dF (fateB w p.1.f p.2 (isWh w s) (isOut w s)))]) (PW.pt (pdw_or (pdt_val (pd_var 10)) (pdw_or (pdt_is (pdt_cmp (pd_ix (pd_var 0) pd_int rfl) pd_str cmp_eq) (eq_Rec_whole w.rc)) (pdw_or1 (PW.pt (pdw_and (pdt_val (pd_var 9)) (pdw_and1 (pdt_is (pdt_cmp (pd_ix (pd_var 0) pd_int rfl) pd_str cmp_eq) (eq_Rec_part w.rc)))))))))
                  (fun k2 => so_seq (so_asg 14 (pd_to pd_str (fe2 w s p.1.f p.2 k1 k2)) (noL_dF _) sc_lwr.nd) so_nil)
                  (fun k2 => so_seq (so_if (ρ1 := [some (dWs w), some (dS s), some (.tup [.bl x, .bl y]), some (.str s.s.str), some (.bl s.g), some (.bl s.wb), some (dHs s.a s.b), some (.lst [.tup [.bl (s.a.c && !x), dF s.a.f], .tup [.bl (s.b.c && !y), dF s.b.f]]), none, some (.bl p.2), some (.bl (isFi w s)), some (.bl (isOut w s)), some (.adr l), some (.bl (p.1.c && !p.2)), some (dF (fateB w p.1.f p.2 (isWh w s) (isOut w s)))]) (PW.pt (pdw_and (pdt_val (pd_var 9)) (pdw_and1 (pdt_is (pdt_cmp (pd_var 14) pd_str cmp_eqF) (eq_F_due p.1.f)))))
                    (fun k3 => so_seq (so_asg 14 (pd_to pd_str (fe3 w s p.1.f p.2 k1 k2 k3)) (noL_dF _) sc_lwr.nd) so_nil)
                    (fun k3 => so_toK so_nil (by rw [fe4 w s p.1.f p.2 k1 k2 k3]))) so_nil)) so_nil))
              (so_seq (so_app 12 (pd_tup (pds_two (pd_var 13) (pd_var 14))) (by simp [noL, noLs, noL_dF]) (by simp only [List.length_map, List.length_take, List.length_cons, List.length_nil]; omega)) so_nil)) (by rw [filter_snoc hp, List.map_append]; rfl)))
        (so_endR 12 (sr_ret (pd_to (pd_tup (pds_cons (pd_var 3) (pds_cons pd_bl (pds_cons (pd_or (pd_var 5) (pd_one (pd_var 10))) (pds_cons (pd_tuple T.ftuple (pd_var 12)) pds_nil))))) (by rw [written, h]; rfl))))))))))
end
end CM
set_option Elab.async false
set_option linter.all false
set_option maxRecDepth 100000
set_option maxHeartbeats 0
/-! CMH: the head. Printed by gen_head.py. -/
namespace CM
open PySem L2
open PyProof.Rows (envOfC)

/-! ### data of the written part -/
mutual
def datB (K : PySem.W.Frag) : D → Value → Bool
  | .tup ds, .ref a => (match K.lookup a with
    | some ⟨.type c, _, .seq its _, _⟩ => decide (c = "tuple") && (decide (its.size ≤ sizeLine) && datBL K ds its.toList)
    | _ => false)
  | d, v => fl d && He.relB (vD d) v
def datBL (K : PySem.W.Frag) : List D → List Value → Bool
  | [], [] => true
  | d :: ds, v :: vs => datB K d v && datBL K ds vs
  | _, _ => false
end
theorem flat_dat {K : PySem.W.Frag} {d : D} {v : Value} (h : (fl d && He.relB (vD d) v) = true) : ∃ u : V, RelV u v ∧ ∀ H, At K H d u := by
  obtain ⟨h1, h2⟩ := He.ba h
  exact ⟨vD d, He.relB_ok h2, fun H => at_vD h1⟩
mutual
theorem datB_ok {K : PySem.W.Frag} : ∀ {d : D} {v : Value}, datB K d v = true → ∃ u : V, RelV u v ∧ ∀ H, At K H d u
  | .tup ds, .ref a, h => by
    unfold datB at h
    cases q : K.lookup a with
    | none => rw [q] at h; cases h
    | some o =>
      obtain ⟨oc, od, dt, osl⟩ := o
      rw [q] at h
      cases oc with
      | type c =>
        cases dt with
        | seq its n =>
          obtain ⟨h1, h2⟩ := He.ba (show (decide (c = "tuple") && (decide (its.size ≤ sizeLine) && datBL K ds its.toList)) = true from h)
          obtain ⟨h3, h4⟩ := He.ba h2
          obtain ⟨us, hu, hat⟩ := datBL_ok h4
          exact ⟨.ref a, rfl, fun H => at_tup (.inr ⟨_, its, n, q, congrArg Value.type (of_decide_eq_true h1), rfl, of_decide_eq_true h3, hu⟩) (hat H)⟩
        | _ => cases h
      | _ => cases dt <;> cases h
  | .tup ds, .none, h => by unfold datB at h; exact flat_dat h
  | .tup ds, .bool _, h => by unfold datB at h; exact flat_dat h
  | .tup ds, .int _ _, h => by unfold datB at h; exact flat_dat h
  | .tup ds, .str _ _, h => by unfold datB at h; exact flat_dat h
  | .tup ds, .bytes _ _, h => by unfold datB at h; exact flat_dat h
  | .tup ds, .float _ _, h => by unfold datB at h; exact flat_dat h
  | .non, _, h => by unfold datB at h; exact flat_dat h
  | .bl _, _, h => by unfold datB at h; exact flat_dat h
  | .int _, _, h => by unfold datB at h; exact flat_dat h
  | .str _, _, h => by unfold datB at h; exact flat_dat h
  | .lst _, _, h => by unfold datB at h; exact flat_dat h
  | .rul _, _, h => by unfold datB at h; exact flat_dat h
  | .adr _, _, h => by unfold datB at h; exact flat_dat h
  | .tup ds, .type _, h => by unfold datB at h; exact flat_dat h
  | .tup ds, .builtin _, h => by unfold datB at h; exact flat_dat h
  | .tup ds, .notImplemented, h => by unfold datB at h; exact flat_dat h
  | .tup ds, .ellipsis, h => by unfold datB at h; exact flat_dat h
theorem datBL_ok {K : PySem.W.Frag} : ∀ {ds : List D} {vs : List Value}, datBL K ds vs = true → ∃ us : List V, Vals us vs ∧ ∀ H, AtL K H ds us
  | [], [], _ => ⟨[], .nil, fun H => AtL.nil⟩
  | [], _ :: _, h => by unfold datBL at h; cases h
  | _ :: _, [], h => by unfold datBL at h; cases h
  | d :: ds, v :: vs, h => by
    unfold datBL at h
    obtain ⟨h1, h2⟩ := He.ba h
    obtain ⟨u, ru, hu⟩ := datB_ok h1
    obtain ⟨us, rus, hus⟩ := datBL_ok h2
    exact ⟨u :: us, .cons ru rus, fun H => AtL.cons (hu H) (hus H)⟩
end
def gloB (K : PySem.W.Frag) (x : Str) (d : D) : Bool := datB K d (.ref (He.ga K x))
theorem globAt {K : PySem.W.Frag} {h : Heap} {mg : Str → Option Value} {x : Str} {d : D} (X : K.In h) (G : h.Ns mainGlobals mg) (c : (He.Fa.glo x).ok K = true) (e : gloB K x d = true) : GlobAt K mg x d := by
  obtain ⟨u, ru, hu⟩ := datB_ok e
  refine ⟨_, He.glo_ok X G c, ?_⟩
  cases u with
  | ref a =>
    have e2 : a = He.ga K x := by
      have : (Value.ref (He.ga K x)) = Value.ref a := ru
      injection this with z
      exact z.symm
    rw [← e2]; exact hu
  | _ => first | (exfalso; obtain ⟨_, e3⟩ := ru; cases e3; done) | cases ru
/-! ### more of the written part -/
def ownB (K : PySem.W.Frag) (x : Str) : Bool := He.eqO (PySem.W.findIn K (.ref (He.ga K x)) "__class__") (some (some (.builtin "object.__class__"))) && (He.eqO (PySem.W.specialIn K (.builtin "object.__class__") "__get__") (some (some (.builtin "getset_descriptor.__get__"))) &&
  (decide (PySem.W.takesIn K (.builtin "object.__class__") = some true) && decide (PySem.W.mroIn K (He.ga K x) (.type "object") = some true)))
theorem own_of {K : PySem.W.Frag} {h : Heap} {mg : Str → Option Value} {x : Str} (X : K.In h) (G : h.Ns mainGlobals mg) (c : (He.Fa.glo x).ok K = true) (c2 : (He.Fa.cls x).ok K = true) (e : ownB K x = true) : Own K mg x := by
  obtain ⟨e1, e⟩ := He.ba e
  obtain ⟨e2, e⟩ := He.ba e
  obtain ⟨e3, e4⟩ := He.ba e
  exact ⟨He.glo_ok X G c, He.cls_ok c2, He.eqO_ok e1, He.eqO_ok e2, of_decide_eq_true e3, of_decide_eq_true e4⟩
def neB (K : PySem.W.Frag) (x : Str) : Bool := He.eqO (PySem.W.findIn K (.ref (He.ga K x)) "__ne__") (some (some (.builtin "object.__ne__")))
def partsB (K : PySem.W.Frag) : Bool := match K.lookup (He.ga K "PARTS") with
  | some ⟨.type c, none, .seq its _, _⟩ => decide (c = "tuple") && (decide (its.size ≤ sizeLine) && He.relAll ((["record", "guard", "first", "mark", "clear", "order"] : List Str).map V.str) its.toList)
  | _ => false
theorem parts_of {K : PySem.W.Frag} (h : partsB K = true) : ∃ o, K.lookup (He.ga K "PARTS") = some o ∧ o.cls = .type "tuple" ∧ o.dict = none ∧ ∀ H, SqT K H (He.ga K "PARTS") ((["record", "guard", "first", "mark", "clear", "order"] : List Str).map V.str) := by
  unfold partsB at h
  cases q : K.lookup (He.ga K "PARTS") with
  | none => rw [q] at h; cases h
  | some o =>
    obtain ⟨oc, od, dt, osl⟩ := o
    rw [q] at h
    cases oc with
    | type c =>
      cases od with
      | none =>
        cases dt with
        | seq its n =>
          obtain ⟨h1, h2⟩ := He.ba (show (decide (c = "tuple") && (decide (its.size ≤ sizeLine) && He.relAll ((["record", "guard", "first", "mark", "clear", "order"] : List Str).map V.str) its.toList)) = true from h)
          obtain ⟨h3, h4⟩ := He.ba h2
          exact ⟨_, rfl, congrArg Value.type (of_decide_eq_true h1), rfl, fun H => .inr ⟨_, its, n, q, congrArg Value.type (of_decide_eq_true h1), rfl, of_decide_eq_true h3, He.relAll_ok h4⟩⟩
        | _ => cases h
      | some d => cases dt <;> cases h
    | _ => cases od <;> cases dt <;> cases h
def wrB (K : PySem.W.Frag) (d : Deed) : Bool := match PySem.W.nsIn K (He.ga K "WRITTEN") d.str with
  | some (some u) => isWr d && datB K (.tup [.bl (wr1 d), .bl (wr2 d)]) u
  | some none => !isWr d
  | _ => false
def allDeeds : List Deed := [.begin, .read, .clear, .end_, .wboth, .wfirst, .wsecond, .lose]
theorem mem_allDeeds (d : Deed) : d ∈ allDeeds := by cases d <;> simp [allDeeds]
theorem wr_of {K : PySem.W.Frag} (h : allDeeds.all (wrB K) = true) : (∀ d : Deed, isWr d = true → ∃ u v, PySem.W.nsIn K (He.ga K "WRITTEN") d.str = some (some u) ∧ RelV v u ∧ ∀ H, At K H (.tup [.bl (wr1 d), .bl (wr2 d)]) v) ∧ ∀ d : Deed, isWr d = false → PySem.W.nsIn K (He.ga K "WRITTEN") d.str = some none := by
  refine ⟨fun d hd => ?_, fun d hd => ?_⟩
  · have h2 := List.all_eq_true.mp h d (mem_allDeeds d)
    unfold wrB at h2
    split at h2
    · rename_i u q
      obtain ⟨_, h3⟩ := He.ba h2
      obtain ⟨v, rv, hv⟩ := datB_ok h3
      exact ⟨u, v, q, rv, hv⟩
    · rw [hd] at h2; cases h2
    · cases h2
  · have h2 := List.all_eq_true.mp h d (mem_allDeeds d)
    unfold wrB at h2
    split at h2
    · rw [hd] at h2; cases h2
    · rename_i q; exact q
    · cases h2

def hfn0 : List He.DefD := [⟨("words_for", none), "words_for", "words_for", defArgs (top 10), defBody (top 10), defScope (top 10), [], []⟩, ⟨("check_name", none), "check_name", "check_name", defArgs (top 12), defBody (top 12), defScope (top 12), [], []⟩, ⟨("check_rules", none), "check_rules", "check_rules", defArgs (top 13), defBody (top 13), defScope (top 13), [], []⟩, ⟨("can_be_done", none), "can_be_done", "can_be_done", defArgs (top 19), defBody (top 19), defScope (top 19), [], []⟩, ⟨("deeds_in", none), "deeds_in", "deeds_in", defArgs (top 20), defBody (top 20), defScope (top 20), [], []⟩, ⟨("is_to_be_read", none), "is_to_be_read", "is_to_be_read", defArgs (top 21), defBody (top 21), defScope (top 21), [], []⟩, ⟨("settled", none), "settled", "settled", defArgs (top 22), defBody (top 22), defScope (top 22), [], []⟩, ⟨("begun", none), "begun", "begun", defArgs (top 23), defBody (top 23), defScope (top 23), [], []⟩, ⟨("read_half", none), "read_half", "read_half", defArgs (top 24), defBody (top 24), defScope (top 24), [], []⟩, ⟨("fate_behind", none), "fate_behind", "fate_behind", defArgs (top 25), defBody (top 25), defScope (top 25), [], []⟩, ⟨("written", none), "written", "written", defArgs (top 26), defBody (top 26), defScope (top 26), [], []⟩, ⟨("done", none), "done", "done", defArgs (top 27), defBody (top 27), defScope (top 27), [], []⟩, ⟨("way_to", none), "way_to", "way_to", defArgs (top 28), defBody (top 28), defScope (top 28), [], []⟩, ⟨("check_wish", none), "check_wish", "check_wish", defArgs (top 31), defBody (top 31), defScope (top 31), [], []⟩, ⟨("stands_broken", none), "stands_broken", "stands_broken", defArgs (top 32), defBody (top 32), defScope (top 32), [], []⟩, ⟨("goes_wrong", none), "goes_wrong", "goes_wrong", defArgs (top 33), defBody (top 33), defScope (top 33), [], []⟩, ⟨("check_again", none), "check_again", "check_again", defArgs (top 40), defBody (top 40), defScope (top 40), [], []⟩, ⟨("check_loss", none), "check_loss", "check_loss", defArgs (top 41), defBody (top 41), defScope (top 41), [], []⟩, ⟨("deeds_at", none), "deeds_at", "deeds_at", defArgs (top 42), defBody (top 42), defScope (top 42), [], []⟩, ⟨("past_behind", none), "past_behind", "past_behind", defArgs (top 43), defBody (top 43), defScope (top 43), [], []⟩]
def hfn1 : List He.DefD := [⟨("lost_from", none), "lost_from", "lost_from", defArgs (top 44), defBody (top 44), defScope (top 44), [], []⟩, ⟨("place_behind", none), "place_behind", "place_behind", defArgs (top 45), defBody (top 45), defScope (top 45), [], []⟩, ⟨("places_on", none), "places_on", "places_on", defArgs (top 46), defBody (top 46), defScope (top 46), [], []⟩, ⟨("all_places", none), "all_places", "all_places", defArgs (top 47), defBody (top 47), defScope (top 47), [], []⟩, ⟨("begins_wrong", none), "begins_wrong", "begins_wrong", defArgs (top 48), defBody (top 48), defScope (top 48), [], []⟩, ⟨("are_calm", none), "are_calm", "are_calm", defArgs (top 49), defBody (top 49), defScope (top 49), [], []⟩, ⟨("is_upset", none), "is_upset", "is_upset", defArgs (top 50), defBody (top 50), defScope (top 50), [], []⟩, ⟨("borne", none), "borne", "borne", defArgs (top 51), defBody (top 51), defScope (top 51), [], []⟩, ⟨("places_after", none), "places_after", "places_after", defArgs (top 52), defBody (top 52), defScope (top 52), [], [("again", .bl false)]⟩, ⟨("bear", none), "bear", "bear", defArgs (top 53), defBody (top 53), defScope (top 53), [], [("again", .bl false)]⟩, ⟨("_law_number", none), "_law_number", "_law_number", defArgs (top 55), defBody (top 55), defScope (top 55), [], []⟩, ⟨("_law_words", none), "_law_words", "_law_words", defArgs (top 56), defBody (top 56), defScope (top 56), [], []⟩, ⟨("_law_made", none), "_law_made", "_law_made", defArgs (top 57), defBody (top 57), defScope (top 57), [], []⟩, ⟨("_law_marked", none), "_law_marked", "_law_marked", defArgs (top 58), defBody (top 58), defScope (top 58), [], []⟩, ⟨("_law_begun", none), "_law_begun", "_law_begun", defArgs (top 59), defBody (top 59), defScope (top 59), [], []⟩, ⟨("_law_read", none), "_law_read", "_law_read", defArgs (top 60), defBody (top 60), defScope (top 60), [], []⟩, ⟨("_law_written", none), "_law_written", "_law_written", defArgs (top 61), defBody (top 61), defScope (top 61), [], []⟩, ⟨("_law_moves", none), "_law_moves", "_law_moves", defArgs (top 62), defBody (top 62), defScope (top 62), [], []⟩, ⟨("_law_bad", none), "_law_bad", "_law_bad", defArgs (top 63), defBody (top 63), defScope (top 63), [], []⟩, ⟨("_law_is_left", none), "_law_is_left", "_law_is_left", defArgs (top 64), defBody (top 64), defScope (top 64), [], []⟩]
def hfn2 : List He.DefD := [⟨("_law_kept_write", none), "_law_kept_write", "_law_kept_write", defArgs (top 69), defBody (top 69), defScope (top 69), [], []⟩, ⟨("_law_lose_moves", none), "_law_lose_moves", "_law_lose_moves", defArgs (top 70), defBody (top 70), defScope (top 70), [], []⟩, ⟨("_law_lose_bad", none), "_law_lose_bad", "_law_lose_bad", defArgs (top 71), defBody (top 71), defScope (top 71), [], []⟩, ⟨("_law_lose_walk", none), "_law_lose_walk", "_law_lose_walk", defArgs (top 72), defBody (top 72), defScope (top 72), [], []⟩, ⟨("_law_is_calm", none), "_law_is_calm", "_law_is_calm", defArgs (top 73), defBody (top 73), defScope (top 73), [], []⟩, ⟨("_law_lose_row", none), "_law_lose_row", "_law_lose_row", defArgs (top 74), defBody (top 74), defScope (top 74), [], []⟩, ⟨("_law_is_upset", none), "_law_is_upset", "_law_is_upset", defArgs (top 75), defBody (top 75), defScope (top 75), [], []⟩, ⟨("_law_wish_right", none), "_law_wish_right", "_law_wish_right", defArgs (top 76), defBody (top 76), defScope (top 76), [], []⟩, ⟨("_law_copies_right", none), "_law_copies_right", "_law_copies_right", defArgs (top 77), defBody (top 77), defScope (top 77), [], []⟩, ⟨("law", none), "law", "law", defArgs (top 78), defBody (top 78), defScope (top 78), [], []⟩, ⟨("Rules", some "__init__"), "__init__", "Rules.__init__", defArgs (inClass (top 11) 0), defBody (inClass (top 11) 0), defScope (inClass (top 11) 0), [], [("guard", .str "no"), ("first", .str "no"), ("mark", .str "ahead"), ("clear", .str "ahead"), ("order", .str "first")]⟩, ⟨("Rules", some "word"), "word", "Rules.word", defArgs (inClass (top 11) 3), defBody (inClass (top 11) 3), defScope (inClass (top 11) 3), [], []⟩, ⟨("Calm", some "__init__"), "__init__", "Calm.__init__", defArgs (inClass (top 38) 0), defBody (inClass (top 38) 0), defScope (inClass (top 38) 0), [], []⟩, ⟨("Calm", some "__eq__"), "__eq__", "Calm.__eq__", defArgs (inClass (top 38) 1), defBody (inClass (top 38) 1), defScope (inClass (top 38) 1), [], []⟩, ⟨("Calm", some "shows"), "shows", "Calm.shows", defArgs (inClass (top 38) 2), defBody (inClass (top 38) 2), defScope (inClass (top 38) 2), [], [("again", .bl false)]⟩, ⟨("Upset", some "__init__"), "__init__", "Upset.__init__", defArgs (inClass (top 39) 0), defBody (inClass (top 39) 0), defScope (inClass (top 39) 0), [], []⟩, ⟨("Upset", some "__eq__"), "__eq__", "Upset.__eq__", defArgs (inClass (top 39) 1), defBody (inClass (top 39) 1), defScope (inClass (top 39) 1), [], []⟩, ⟨("Upset", some "shows"), "shows", "Upset.shows", defArgs (inClass (top 39) 2), defBody (inClass (top 39) 2), defScope (inClass (top 39) 2), [], [("again", .bl false)]⟩]
def hfn : List He.DefD := hfn0 ++ hfn1 ++ hfn2
def hfa0 : List He.Fa := [.glo "words_for", .glo "check_name", .glo "check_rules", .glo "can_be_done", .glo "deeds_in", .glo "is_to_be_read", .glo "settled", .glo "begun", .glo "read_half", .glo "fate_behind", .glo "written", .glo "done", .glo "way_to", .glo "check_wish", .glo "stands_broken", .glo "goes_wrong", .glo "check_again", .glo "check_loss", .glo "deeds_at", .glo "past_behind"]
def hfa1 : List He.Fa := [.glo "lost_from", .glo "place_behind", .glo "places_on", .glo "all_places", .glo "begins_wrong", .glo "are_calm", .glo "is_upset", .glo "borne", .glo "places_after", .glo "bear", .glo "_law_number", .glo "_law_words", .glo "_law_made", .glo "_law_marked", .glo "_law_begun", .glo "_law_read", .glo "_law_written", .glo "_law_moves", .glo "_law_bad", .glo "_law_is_left"]
def hfa2 : List He.Fa := [.glo "_law_kept_write", .glo "_law_lose_moves", .glo "_law_lose_bad", .glo "_law_lose_walk", .glo "_law_is_calm", .glo "_law_lose_row", .glo "_law_is_upset", .glo "_law_wish_right", .glo "_law_copies_right", .glo "law", .glo "PARTS", .glo "CAN_BE", .glo "DEEDS", .glo "WAITING", .glo "START", .glo "WISHES", .glo "BEGIN", .glo "RESTING", .glo "BARE", .glo "WRITTEN"]
def hfa3 : List He.Fa := [.free "isinstance", .free "str", .free "bool", .free "list", .free "tuple", .free "dict", .free "len", .free "all", .free "zip", .free "enumerate", .free "int", .free "sum", .glo "Rules", .cls "Rules", .mkr "Rules", .glo "Calm", .cls "Calm", .mkr "Calm", .glo "Upset", .cls "Upset"]
def hfa4 : List He.Fa := [.mkr "Upset", .noat "Rules" "row", .noat "Calm" "places", .noat "Upset" "history", .meth "Rules" "__init__", .meth "Rules" "word", .meth "Calm" "__init__", .meth "Calm" "__eq__", .meth "Calm" "shows", .meth "Upset" "__init__", .meth "Upset" "__eq__", .meth "Upset" "shows"]
def hfa : List He.Fa := hfa0 ++ hfa1 ++ hfa2 ++ hfa3 ++ hfa4
def hex : PySem.W.Frag → Bool := fun K => [gloB K "PARTS" dPARTS, gloB K "CAN_BE" dCAN_BE, gloB K "DEEDS" dDEEDS, gloB K "WAITING" dWAITING, gloB K "START" dSTART, gloB K "WISHES" dWISHES, gloB K "BEGIN" dBEGIN, gloB K "RESTING" dRESTING, gloB K "BARE" dBARE, ownB K "Rules", ownB K "Calm", ownB K "Upset", neB K "Calm", neB K "Upset", partsB K, allDeeds.all (wrB K), decide (PySem.W.kitOne K (.ref (He.ga K "Calm")) (.ref (He.ga K "Upset")) = some false), decide (PySem.W.kitOne K (.ref (He.ga K "Upset")) (.ref (He.ga K "Calm")) = some false), PySem.W.notFirst K (He.ga K "Calm") (.ref (He.ga K "Upset"))].all id
def hts : List He.Tab := [(fun K => He.ga K "WRITTEN", ["write both", "write first", "write second"])]
def hnames0 : List PySem.Str := ["_wall", "MarkError", "BadRules", "BadHistory", "BadWish", "BadFlag", "PARTS", "CAN_BE", "words_for", "Rules", "check_name", "check_rules", "DEEDS", "WAITING", "WRITTEN", "START", "can_be_done", "deeds_in", "is_to_be_read", "settled"]
def hnames1 : List PySem.Str := ["begun", "read_half", "fate_behind", "written", "done", "way_to", "WISHES", "check_wish", "stands_broken", "goes_wrong", "BEGIN", "RESTING", "BARE", "Calm", "Upset", "check_again", "check_loss", "deeds_at", "past_behind", "lost_from"]
def hnames2 : List PySem.Str := ["place_behind", "places_on", "all_places", "begins_wrong", "are_calm", "is_upset", "borne", "places_after", "bear", "_law_number", "_law_words", "_law_made", "_law_marked", "_law_begun", "_law_read", "_law_written", "_law_moves", "_law_bad", "_law_is_left", "_law_open"]
def hnames3 : List PySem.Str := ["_law_reach", "_law_is_safe", "_law_is_broken", "_law_kept_write", "_law_lose_moves", "_law_lose_bad", "_law_lose_walk", "_law_is_calm", "_law_lose_row", "_law_is_upset", "_law_wish_right", "_law_copies_right"]
def hnames : List PySem.Str := hnames0 ++ hnames1 ++ hnames2 ++ hnames3
abbrev hR : PySem.W.OpenRow := PySem.W.OpenLaw.row PySem.Challenge.rw_copymarks_k52_whole_losing_shown
abbrev hk : PySem.W.Hook := He.hookX 7 hfa hfn hts [] hex
def hob (s : PySem.W.SharedT) : He.AlX := He.obsX 7 hfa hfn hts [] hex (HandSHeadRun.getT s)
theorem hob_eq (s : PySem.W.SharedT) : hob s = hk.obs s.abs := He.obsX_eq (HandSHeadRun.getT_eq s)
theorem hrunF (w : World) : HandSHeadRun.RunEq hR (PySem.W.view hR.prog [78]) hk hob 20000 hnames (w.withFollow "special-get-raises" false) := by
  intro os
  kernel_rfl
theorem hrunT (w : World) : HandSHeadRun.RunEq hR (PySem.W.view hR.prog [78]) hk hob 20000 hnames (w.withFollow "special-get-raises" true) := by
  intro os
  kernel_rfl
theorem hrun (w : World) : HandSHeadRun.RunEq hR (PySem.W.view hR.prog [78]) hk hob 20000 hnames w := PySem.W.byRow2 "special-get-raises" hrunF hrunT w
theorem top_of {w : World} {h : Heap} {K : PySem.W.Frag} {mg : Str → Option Value} (X : K.In h) (G : h.Ns mainGlobals mg) (c : He.SaysX hfa hfn hts [] hex w h K) : Top K w mg := by
  have e : ∀ b : Bool, b ∈ [gloB K "PARTS" dPARTS, gloB K "CAN_BE" dCAN_BE, gloB K "DEEDS" dDEEDS, gloB K "WAITING" dWAITING, gloB K "START" dSTART, gloB K "WISHES" dWISHES, gloB K "BEGIN" dBEGIN, gloB K "RESTING" dRESTING, gloB K "BARE" dBARE, ownB K "Rules", ownB K "Calm", ownB K "Upset", neB K "Calm", neB K "Upset", partsB K, allDeeds.all (wrB K), decide (PySem.W.kitOne K (.ref (He.ga K "Calm")) (.ref (He.ga K "Upset")) = some false), decide (PySem.W.kitOne K (.ref (He.ga K "Upset")) (.ref (He.ga K "Calm")) = some false), PySem.W.notFirst K (He.ga K "Calm") (.ref (He.ga K "Upset"))] → b = true := fun b hb => List.all_eq_true.mp c.more b hb
  obtain ⟨wes, wn, wk⟩ := c.t.tab 0 rfl
  constructor
  · obtain ⟨fd, F⟩ := (c.t.d.def_ 0 rfl); exact ⟨_, fd, F, He.glo_ok X G (c.t.d.fact 0 rfl)⟩
  · obtain ⟨fd, F⟩ := (c.t.d.def_ 1 rfl); exact ⟨_, fd, F, He.glo_ok X G (c.t.d.fact 1 rfl)⟩
  · obtain ⟨fd, F⟩ := (c.t.d.def_ 2 rfl); exact ⟨_, fd, F, He.glo_ok X G (c.t.d.fact 2 rfl)⟩
  · obtain ⟨fd, F⟩ := (c.t.d.def_ 3 rfl); exact ⟨_, fd, F, He.glo_ok X G (c.t.d.fact 3 rfl)⟩
  · obtain ⟨fd, F⟩ := (c.t.d.def_ 4 rfl); exact ⟨_, fd, F, He.glo_ok X G (c.t.d.fact 4 rfl)⟩
  · obtain ⟨fd, F⟩ := (c.t.d.def_ 5 rfl); exact ⟨_, fd, F, He.glo_ok X G (c.t.d.fact 5 rfl)⟩
  · obtain ⟨fd, F⟩ := (c.t.d.def_ 6 rfl); exact ⟨_, fd, F, He.glo_ok X G (c.t.d.fact 6 rfl)⟩
  · obtain ⟨fd, F⟩ := (c.t.d.def_ 7 rfl); exact ⟨_, fd, F, He.glo_ok X G (c.t.d.fact 7 rfl)⟩
  · obtain ⟨fd, F⟩ := (c.t.d.def_ 8 rfl); exact ⟨_, fd, F, He.glo_ok X G (c.t.d.fact 8 rfl)⟩
  · obtain ⟨fd, F⟩ := (c.t.d.def_ 9 rfl); exact ⟨_, fd, F, He.glo_ok X G (c.t.d.fact 9 rfl)⟩
  · obtain ⟨fd, F⟩ := (c.t.d.def_ 10 rfl); exact ⟨_, fd, F, He.glo_ok X G (c.t.d.fact 10 rfl)⟩
  · obtain ⟨fd, F⟩ := (c.t.d.def_ 11 rfl); exact ⟨_, fd, F, He.glo_ok X G (c.t.d.fact 11 rfl)⟩
  · obtain ⟨fd, F⟩ := (c.t.d.def_ 12 rfl); exact ⟨_, fd, F, He.glo_ok X G (c.t.d.fact 12 rfl)⟩
  · obtain ⟨fd, F⟩ := (c.t.d.def_ 13 rfl); exact ⟨_, fd, F, He.glo_ok X G (c.t.d.fact 13 rfl)⟩
  · obtain ⟨fd, F⟩ := (c.t.d.def_ 14 rfl); exact ⟨_, fd, F, He.glo_ok X G (c.t.d.fact 14 rfl)⟩
  · obtain ⟨fd, F⟩ := (c.t.d.def_ 15 rfl); exact ⟨_, fd, F, He.glo_ok X G (c.t.d.fact 15 rfl)⟩
  · obtain ⟨fd, F⟩ := (c.t.d.def_ 16 rfl); exact ⟨_, fd, F, He.glo_ok X G (c.t.d.fact 16 rfl)⟩
  · obtain ⟨fd, F⟩ := (c.t.d.def_ 17 rfl); exact ⟨_, fd, F, He.glo_ok X G (c.t.d.fact 17 rfl)⟩
  · obtain ⟨fd, F⟩ := (c.t.d.def_ 18 rfl); exact ⟨_, fd, F, He.glo_ok X G (c.t.d.fact 18 rfl)⟩
  · obtain ⟨fd, F⟩ := (c.t.d.def_ 19 rfl); exact ⟨_, fd, F, He.glo_ok X G (c.t.d.fact 19 rfl)⟩
  · obtain ⟨fd, F⟩ := (c.t.d.def_ 20 rfl); exact ⟨_, fd, F, He.glo_ok X G (c.t.d.fact 20 rfl)⟩
  · obtain ⟨fd, F⟩ := (c.t.d.def_ 21 rfl); exact ⟨_, fd, F, He.glo_ok X G (c.t.d.fact 21 rfl)⟩
  · obtain ⟨fd, F⟩ := (c.t.d.def_ 22 rfl); exact ⟨_, fd, F, He.glo_ok X G (c.t.d.fact 22 rfl)⟩
  · obtain ⟨fd, F⟩ := (c.t.d.def_ 23 rfl); exact ⟨_, fd, F, He.glo_ok X G (c.t.d.fact 23 rfl)⟩
  · obtain ⟨fd, F⟩ := (c.t.d.def_ 24 rfl); exact ⟨_, fd, F, He.glo_ok X G (c.t.d.fact 24 rfl)⟩
  · obtain ⟨fd, F⟩ := (c.t.d.def_ 25 rfl); exact ⟨_, fd, F, He.glo_ok X G (c.t.d.fact 25 rfl)⟩
  · obtain ⟨fd, F⟩ := (c.t.d.def_ 26 rfl); exact ⟨_, fd, F, He.glo_ok X G (c.t.d.fact 26 rfl)⟩
  · obtain ⟨fd, F⟩ := (c.t.d.def_ 27 rfl); exact ⟨_, fd, F, He.glo_ok X G (c.t.d.fact 27 rfl)⟩
  · obtain ⟨fd, F⟩ := (c.t.d.def_ 28 rfl); exact ⟨_, fd, F, He.glo_ok X G (c.t.d.fact 28 rfl)⟩
  · obtain ⟨fd, F⟩ := (c.t.d.def_ 29 rfl); exact ⟨_, fd, F, He.glo_ok X G (c.t.d.fact 29 rfl)⟩
  · obtain ⟨fd, F⟩ := (c.t.d.def_ 30 rfl); exact ⟨_, fd, F, He.glo_ok X G (c.t.d.fact 30 rfl)⟩
  · obtain ⟨fd, F⟩ := (c.t.d.def_ 31 rfl); exact ⟨_, fd, F, He.glo_ok X G (c.t.d.fact 31 rfl)⟩
  · obtain ⟨fd, F⟩ := (c.t.d.def_ 32 rfl); exact ⟨_, fd, F, He.glo_ok X G (c.t.d.fact 32 rfl)⟩
  · obtain ⟨fd, F⟩ := (c.t.d.def_ 33 rfl); exact ⟨_, fd, F, He.glo_ok X G (c.t.d.fact 33 rfl)⟩
  · obtain ⟨fd, F⟩ := (c.t.d.def_ 34 rfl); exact ⟨_, fd, F, He.glo_ok X G (c.t.d.fact 34 rfl)⟩
  · obtain ⟨fd, F⟩ := (c.t.d.def_ 35 rfl); exact ⟨_, fd, F, He.glo_ok X G (c.t.d.fact 35 rfl)⟩
  · obtain ⟨fd, F⟩ := (c.t.d.def_ 36 rfl); exact ⟨_, fd, F, He.glo_ok X G (c.t.d.fact 36 rfl)⟩
  · obtain ⟨fd, F⟩ := (c.t.d.def_ 37 rfl); exact ⟨_, fd, F, He.glo_ok X G (c.t.d.fact 37 rfl)⟩
  · obtain ⟨fd, F⟩ := (c.t.d.def_ 38 rfl); exact ⟨_, fd, F, He.glo_ok X G (c.t.d.fact 38 rfl)⟩
  · obtain ⟨fd, F⟩ := (c.t.d.def_ 39 rfl); exact ⟨_, fd, F, He.glo_ok X G (c.t.d.fact 39 rfl)⟩
  · obtain ⟨fd, F⟩ := (c.t.d.def_ 40 rfl); exact ⟨_, fd, F, He.glo_ok X G (c.t.d.fact 40 rfl)⟩
  · obtain ⟨fd, F⟩ := (c.t.d.def_ 41 rfl); exact ⟨_, fd, F, He.glo_ok X G (c.t.d.fact 41 rfl)⟩
  · obtain ⟨fd, F⟩ := (c.t.d.def_ 42 rfl); exact ⟨_, fd, F, He.glo_ok X G (c.t.d.fact 42 rfl)⟩
  · obtain ⟨fd, F⟩ := (c.t.d.def_ 43 rfl); exact ⟨_, fd, F, He.glo_ok X G (c.t.d.fact 43 rfl)⟩
  · obtain ⟨fd, F⟩ := (c.t.d.def_ 44 rfl); exact ⟨_, fd, F, He.glo_ok X G (c.t.d.fact 44 rfl)⟩
  · obtain ⟨fd, F⟩ := (c.t.d.def_ 45 rfl); exact ⟨_, fd, F, He.glo_ok X G (c.t.d.fact 45 rfl)⟩
  · obtain ⟨fd, F⟩ := (c.t.d.def_ 46 rfl); exact ⟨_, fd, F, He.glo_ok X G (c.t.d.fact 46 rfl)⟩
  · obtain ⟨fd, F⟩ := (c.t.d.def_ 47 rfl); exact ⟨_, fd, F, He.glo_ok X G (c.t.d.fact 47 rfl)⟩
  · obtain ⟨fd, F⟩ := (c.t.d.def_ 48 rfl); exact ⟨_, fd, F, He.glo_ok X G (c.t.d.fact 48 rfl)⟩
  · obtain ⟨fd, F⟩ := (c.t.d.def_ 49 rfl); exact ⟨_, fd, F, He.glo_ok X G (c.t.d.fact 49 rfl)⟩
  · exact globAt X G (c.t.d.fact 50 rfl) (e _ (List.mem_of_getElem? (i := 0) rfl))
  · exact globAt X G (c.t.d.fact 51 rfl) (e _ (List.mem_of_getElem? (i := 1) rfl))
  · exact globAt X G (c.t.d.fact 52 rfl) (e _ (List.mem_of_getElem? (i := 2) rfl))
  · exact globAt X G (c.t.d.fact 53 rfl) (e _ (List.mem_of_getElem? (i := 3) rfl))
  · exact globAt X G (c.t.d.fact 54 rfl) (e _ (List.mem_of_getElem? (i := 4) rfl))
  · exact globAt X G (c.t.d.fact 55 rfl) (e _ (List.mem_of_getElem? (i := 5) rfl))
  · exact globAt X G (c.t.d.fact 56 rfl) (e _ (List.mem_of_getElem? (i := 6) rfl))
  · exact globAt X G (c.t.d.fact 57 rfl) (e _ (List.mem_of_getElem? (i := 7) rfl))
  · exact globAt X G (c.t.d.fact 58 rfl) (e _ (List.mem_of_getElem? (i := 8) rfl))
  · obtain ⟨o, h1, h2, h3, h4⟩ := parts_of (e _ (List.mem_of_getElem? (i := 14) rfl)); exact ⟨_, o, He.glo_ok X G (c.t.d.fact 50 rfl), h1, h2, h3, h4⟩
  · exact He.free_ok X G (c.t.d.fact 60 rfl)
  · exact He.free_ok X G (c.t.d.fact 61 rfl)
  · exact He.free_ok X G (c.t.d.fact 62 rfl)
  · exact He.free_ok X G (c.t.d.fact 63 rfl)
  · exact He.free_ok X G (c.t.d.fact 64 rfl)
  · exact He.free_ok X G (c.t.d.fact 65 rfl)
  · exact He.free_ok X G (c.t.d.fact 66 rfl)
  · exact He.free_ok X G (c.t.d.fact 67 rfl)
  · exact He.free_ok X G (c.t.d.fact 68 rfl)
  · exact He.free_ok X G (c.t.d.fact 69 rfl)
  · exact He.free_ok X G (c.t.d.fact 70 rfl)
  · exact He.free_ok X G (c.t.d.fact 71 rfl)
  · exact own_of X G (c.t.d.fact 72 rfl) (c.t.d.fact 73 rfl) (e _ (List.mem_of_getElem? (i := 9) rfl))
  · have z := He.mkr_ok (c.t.d.fact 74 rfl); exact ⟨z.makes, z.kp⟩
  · exact own_of X G (c.t.d.fact 75 rfl) (c.t.d.fact 76 rfl) (e _ (List.mem_of_getElem? (i := 10) rfl))
  · have z := He.mkr_ok (c.t.d.fact 77 rfl); exact ⟨z.makes, z.kp⟩
  · exact own_of X G (c.t.d.fact 78 rfl) (c.t.d.fact 79 rfl) (e _ (List.mem_of_getElem? (i := 11) rfl))
  · have z := He.mkr_ok (c.t.d.fact 80 rfl); exact ⟨z.makes, z.kp⟩
  · exact He.noat_ok (c.t.d.fact 81 rfl)
  · exact He.noat_ok (c.t.d.fact 82 rfl)
  · exact He.noat_ok (c.t.d.fact 83 rfl)
  · obtain ⟨fd, F⟩ := (c.t.d.def_ 50 rfl); have z := He.meth_ok (c.t.d.fact 84 rfl); exact ⟨fd, F, z.1, z.2⟩
  · obtain ⟨fd, F⟩ := (c.t.d.def_ 51 rfl); have z := He.meth_ok (c.t.d.fact 85 rfl); exact ⟨fd, F, z.1, z.2⟩
  · obtain ⟨fd, F⟩ := (c.t.d.def_ 52 rfl); have z := He.meth_ok (c.t.d.fact 86 rfl); exact ⟨fd, F, z.1, z.2⟩
  · obtain ⟨fd, F⟩ := (c.t.d.def_ 53 rfl); have z := He.meth_ok (c.t.d.fact 87 rfl); exact ⟨fd, F, z.1, z.2⟩
  · obtain ⟨fd, F⟩ := (c.t.d.def_ 54 rfl); have z := He.meth_ok (c.t.d.fact 88 rfl); exact ⟨fd, F, z.1, z.2⟩
  · obtain ⟨fd, F⟩ := (c.t.d.def_ 55 rfl); have z := He.meth_ok (c.t.d.fact 89 rfl); exact ⟨fd, F, z.1, z.2⟩
  · obtain ⟨fd, F⟩ := (c.t.d.def_ 56 rfl); have z := He.meth_ok (c.t.d.fact 90 rfl); exact ⟨fd, F, z.1, z.2⟩
  · obtain ⟨fd, F⟩ := (c.t.d.def_ 57 rfl); have z := He.meth_ok (c.t.d.fact 91 rfl); exact ⟨fd, F, z.1, z.2⟩
  · exact of_decide_eq_true (e _ (List.mem_of_getElem? (i := 16) rfl))
  · exact of_decide_eq_true (e _ (List.mem_of_getElem? (i := 17) rfl))
  · exact He.eqO_ok (e _ (List.mem_of_getElem? (i := 12) rfl))
  · exact He.eqO_ok (e _ (List.mem_of_getElem? (i := 13) rfl))
  · exact (e _ (List.mem_of_getElem? (i := 18) rfl))
  · obtain ⟨h1, h2⟩ := wr_of (e _ (List.mem_of_getElem? (i := 15) rfl)); exact ⟨_, wes, wn, He.glo_ok X G (c.t.d.fact 59 rfl), wk, h1, h2⟩
end CM
set_option Elab.async false
set_option linter.all false
set_option maxRecDepth 100000
set_option maxHeartbeats 4000000
/-! CMD: dicts whose keys are places. -/
namespace CM
open PySem L2
open PyProof.Rows (envOfC)

/-! ### places as nested keys -/
mutual
def nkD : D → NestedKey
  | .bl b => .num (if b = true then 1 else 0)
  | .int i => .num i
  | .str x => .text x
  | .tup ds => .tup (nkDs ds)
  | _ => .none
def nkDs : List D → List NestedKey
  | [] => []
  | d :: ds => nkD d :: nkDs ds
end
mutual
def keyD : D → Bool
  | .non => true
  | .bl _ => true
  | .int _ => true
  | .str _ => true
  | .tup ds => keyDs ds
  | _ => false
def keyDs : List D → Bool
  | [] => true
  | d :: ds => keyD d && keyDs ds
end
section
variable {X : Cx} {pins : List (Addr × Obj)} {σ : L2.St} {H : Hp} {s : Shared}
mutual
theorem nested_is (I : Inv X pins σ H s) : ∀ {d : D} {v : V} {u : Value}, keyD d = true → At X.K H d v → RelV v u → NestedIs s.heap (nkD d) u
  | .non, v, u, _, h, r => by
    simp only [At] at h; subst h
    cases (show u = Value.none from r)
    exact .none
  | .bl b, v, u, _, h, r => by
    simp only [At] at h; subst h
    cases (show u = Value.bool b from r)
    exact .bool rfl
  | .int i, v, u, _, h, r => by
    simp only [At] at h; subst h
    obtain ⟨t, rfl⟩ := (show ∃ t, u = Value.int i t from r)
    exact .int i t
  | .str x, v, u, _, h, r => by
    simp only [At] at h; subst h
    obtain ⟨t, rfl⟩ := (show ∃ t, u = Value.str x t from r)
    exact .text x t
  | .tup ds, v, u, k, h, r => by
    simp only [At] at h
    obtain ⟨a, xs, rfl, hx, al⟩ := h
    cases (show u = Value.ref a from r)
    obtain ⟨its, rv, ⟨o, e, c, n, dd⟩, _⟩ := I.tuple hx
    exact .tup e c dd (by simpa using nested_all I (by simpa only [keyD] using k) al rv)
  | .lst _, _, _, k, _, _ => by simp [keyD] at k
  | .rul _, _, _, k, _, _ => by simp [keyD] at k
  | .adr _, _, _, k, _, _ => by simp [keyD] at k
  | .ob _, _, _, k, _, _ => by simp [keyD] at k
theorem nested_all (I : Inv X pins σ H s) : ∀ {ds : List D} {vs : List V} {us : List Value}, keyDs ds = true → AtL X.K H ds vs → Vals vs us → NestedAll s.heap (nkDs ds) us
  | [], vs, us, _, h, r => by
    simp only [AtL] at h; subst h
    cases r
    exact .nil
  | d :: ds, vs, us, k, h, r => by
    simp only [AtL] at h
    obtain ⟨x, rr, rfl, h2, h3⟩ := h
    simp only [keyDs, Bool.and_eq_true] at k
    cases r with
    | cons r1 r2 => exact .cons (nested_is I k.1 h2 r1) (nested_all I k.2 h3 r2)
end
end
def nk (p : Pl) : NestedKey := nkD (dL p)
theorem key_dF (f : Option Fate) : keyD (dF f) = true := by cases f <;> rfl
theorem key_dH (h : Hf) : keyD (dH h) = true := by simp [dH, keyD, keyDs, key_dF]
theorem key_dHs (a b : Hf) : keyD (dHs a b) = true := by simp [dHs, keyD, keyDs, key_dH]
theorem key_dS (s : Sta) : keyD (dS s) = true := by simp [dS, keyD, keyDs, key_dHs]
theorem key_dP (p : Option Pst) : keyD (dP p) = true := by cases p <;> simp [dP, keyD, keyDs, key_dHs]
theorem key_dL (p : Pl) : keyD (dL p) = true := by simp [dL, keyD, keyDs, key_dS, key_dP]
theorem dep_dF (f : Option Fate) : (nkD (dF f)).depth = 0 := by cases f <;> rfl
theorem dep_dH (h : Hf) : (nkD (dH h)).depth = 1 := by simp [dH, nkD, nkDs, NestedKey.depth, NestedKey.depthAll, dep_dF]
theorem dep_dHs (a b : Hf) : (nkD (dHs a b)).depth = 2 := by simp [dHs, nkD, nkDs, NestedKey.depth, NestedKey.depthAll, dep_dH]
theorem dep_dS (s : Sta) : (nkD (dS s)).depth = 3 := by simp [dS, nkD, nkDs, NestedKey.depth, NestedKey.depthAll, dep_dHs]
theorem dep_dP (p : Option Pst) : (nkD (dP p)).depth ≤ 3 := by cases p <;> simp [dP, nkD, nkDs, NestedKey.depth, NestedKey.depthAll, dep_dHs]
theorem dep_nk (p : Pl) : (nk p).depth ≤ 8 := by
  have h := dep_dP p.pa
  simp only [nk, dL, nkD, nkDs, NestedKey.depth, NestedKey.depthAll, dep_dS]
  omega
theorem bl_inj {a b : Bool} (h : nkD (.bl a) = nkD (.bl b)) : a = b := by
  cases a <;> cases b <;> first | rfl | (simp [nkD] at h)
theorem fate_inj {f g : Option Fate} (h : nkD (dF f) = nkD (dF g)) : f = g := by
  revert h
  cases f with
  | none => cases g with
    | none => intro _; rfl
    | some g => intro h; simp [dF, nkD] at h
  | some f => cases g with
    | none => intro h; simp [dF, nkD] at h
    | some g =>
      intro h
      have e : f.str = g.str := by simpa [dF, nkD] using h
      have q : decide (f.str = g.str) = true := decide_eq_true e
      revert q
      cases f <;> cases g <;> first | (intro _; rfl) | (intro q; exact absurd q (by decide +kernel))
theorem step_inj {f g : Step} (h : nkD (.str f.str) = nkD (.str g.str)) : f = g := by
  have e : f.str = g.str := by simpa [nkD] using h
  have q : decide (f.str = g.str) = true := decide_eq_true e
  revert q
  cases f <;> cases g <;> first | (intro _; rfl) | (intro q; exact absurd q (by decide +kernel))
theorem hf_inj {a b : Hf} (h : nkD (dH a) = nkD (dH b)) : a = b := by
  simp only [dH, nkD, nkDs, NestedKey.tup.injEq, List.cons.injEq] at h
  obtain ⟨a1, a2⟩ := a
  obtain ⟨b1, b2⟩ := b
  have e1 : a1 = b1 := bl_inj (by simpa [nkD] using h.1)
  have e2 : a2 = b2 := fate_inj h.2.1
  rw [e1, e2]
theorem hfs_inj {a b c d : Hf} (h : nkD (dHs a b) = nkD (dHs c d)) : a = c ∧ b = d := by
  simp only [dHs, nkD, nkDs, NestedKey.tup.injEq, List.cons.injEq] at h
  exact ⟨hf_inj h.1, hf_inj h.2.1⟩
theorem sta_inj {a b : Sta} (h : nkD (dS a) = nkD (dS b)) : a = b := by
  obtain ⟨a1, a2, a3, a4, a5⟩ := a
  obtain ⟨b1, b2, b3, b4, b5⟩ := b
  simp only [dS, nkD, nkDs, NestedKey.tup.injEq, List.cons.injEq] at h
  obtain ⟨h1, h2, h3, h4, _⟩ := h
  have e1 : a1 = b1 := step_inj (by simpa [nkD] using h1)
  have e2 : a2 = b2 := bl_inj (by simpa [nkD] using h2)
  have e3 : a3 = b3 := bl_inj (by simpa [nkD] using h3)
  obtain ⟨e4, e5⟩ := hfs_inj (a := a4) (b := a5) (c := b4) (d := b5) h4
  rw [e1, e2, e3, e4, e5]
theorem pst_inj {a b : Option Pst} (h : nkD (dP a) = nkD (dP b)) : a = b := by
  cases a with
  | none => cases b with
    | none => rfl
    | some b => simp [dP, nkD] at h
  | some a => cases b with
    | none => simp [dP, nkD] at h
    | some b =>
      obtain ⟨a1, a2, a3⟩ := a
      obtain ⟨b1, b2, b3⟩ := b
      simp only [dP, nkD, nkDs, NestedKey.tup.injEq, List.cons.injEq] at h
      obtain ⟨h1, h2, _⟩ := h
      have e1 : a1 = b1 := bl_inj (by simpa [nkD] using h1)
      obtain ⟨e4, e5⟩ := hfs_inj (a := a2) (b := a3) (c := b2) (d := b3) h2
      rw [e1, e4, e5]
theorem nk_inj {p q : Pl} (h : nk p = nk q) : p = q := by
  obtain ⟨a, b⟩ := p
  obtain ⟨c, d⟩ := q
  simp only [nk, dL, nkD, nkDs, NestedKey.tup.injEq, List.cons.injEq] at h
  rw [sta_inj h.1, pst_inj h.2.1]

/-! ### the dict's object -/
abbrev Tri : Type := Pl × Addr × Value
def kx (x : Tri) : NestedKey × Addr × Value := (nk x.1, x.2)
def RawO (a : Addr) (es : Array DictEntry) (ep : Nat) : HO := .ext fun h => ∃ o, h.get? a = some o ∧ o.ExactDict ∧ o.data = .dict es ep
def look : List (Pl × D) → Pl → Option D
  | [], _ => none
  | (q, d) :: r, p => if q = p then some d else look r p
def EntR (K : PySem.W.Frag) (Hm : Hp) (kv : Pl × D) (x : Tri) : Prop := kv.1 = x.1 ∧ At K Hm (dL kv.1) (.ref x.2.1) ∧ ∃ v, RelV v x.2.2 ∧ At K Hm kv.2 v
/-- the dict at a, its data in Hm -/
structure PlAt (P : Program) (w : World) (K : PySem.W.Frag) (H Hm : Hp) (a : Addr) (ks : List (Pl × D)) : Prop where
  ex : ∃ es ep xs, H a = some (RawO a es ep) ∧ es.toList = (xs.map kx).map (entryOfKey (nestedKind P w)) ∧ (xs.map (·.1)).Nodup ∧ Paired (EntR K Hm) ks xs
  sys : (a == sysModules) = false
  sz : ks.length ≤ sizeLine
theorem Paired.mono {α β : Type} {F G : α → β → Prop} : ∀ {l₁ : List α} {l₂ : List β}, Paired F l₁ l₂ → (∀ a b, F a b → G a b) → Paired G l₁ l₂
  | _, _, .nil, _ => .nil
  | _, _, .cons r t, f => .cons (f _ _ r) (Paired.mono t f)
theorem EntR.same {K : PySem.W.Frag} {H H' : Hp} {kv : Pl × D} {x : Tri} (e : Same H H') (h : EntR K H kv x) : EntR K H' kv x := ⟨h.1, h.2.1.same e, let ⟨v, a, b⟩ := h.2.2; ⟨v, a, b.same e⟩⟩
theorem PlAt.same {P : Program} {w : World} {K : PySem.W.Frag} {H H' Hm Hm' : Hp} {a : Addr} {ks : List (Pl × D)} (h : PlAt P w K H Hm a ks) (e : Same H H') (e2 : Same Hm Hm') : PlAt P w K H' Hm' a ks := by
  obtain ⟨⟨es, ep, xs, h1, h2, h3, h4⟩, h5, h6⟩ := h
  exact ⟨⟨es, ep, xs, e _ _ h1, h2, h3, h4.mono fun _ _ z => z.same e2⟩, h5, h6⟩
/-- read only -/
def dPl (P : Program) (w : World) (K : PySem.W.Frag) (ks : List (Pl × D)) : D := .ob fun H v => ∃ a, v = .ref a ∧ PlAt P w K H H a ks
theorem at_dPl {P : Program} {w : World} {K : PySem.W.Frag} {H : Hp} {a : Addr} {ks : List (Pl × D)} (h : PlAt P w K H H a ks) : At K H (dPl P w K ks) (.ref a) := by
  simp only [dPl, At]
  exact ⟨⟨a, rfl⟩, fun H' e => ⟨a, rfl, h.same e e⟩⟩
theorem dPl_at {P : Program} {w : World} {K : PySem.W.Frag} {H : Hp} {v : V} {ks : List (Pl × D)} (h : At K H (dPl P w K ks) v) : ∃ a, v = .ref a ∧ PlAt P w K H H a ks := by
  simp only [dPl, At] at h
  exact h.2 H (Same.refl H)
section
variable {P : Program} {w : World} {K : PySem.W.Frag} {H Hm : Hp} {a b : Addr} {ks : List (Pl × D)} {p : Pl} {d : D}
theorem atKey_cons {x : Tri} {xs : List Tri} {k : NestedKey} : atKey ((x :: xs).map kx) k = if nk x.1 = k then some x.2 else atKey (xs.map kx) k := by
  by_cases e : nk x.1 = k
  · simp [atKey, kx, e]
  · simp [atKey, kx, e]
theorem look_none {xs : List Tri} (r : Paired (EntR K Hm) ks xs) (h : look ks p = none) : atKey (xs.map kx) (nk p) = none := by
  induction r with
  | nil => rfl
  | @cons kv x ks xs e t ih =>
    obtain ⟨q, d0⟩ := kv
    rw [look] at h
    by_cases z : q = p
    · rw [if_pos z] at h; cases h
    · rw [if_neg z] at h
      rw [atKey_cons, if_neg fun y => z (by have := nk_inj y; rw [← e.1] at this; exact this)]
      exact ih h
theorem look_some {xs : List Tri} (r : Paired (EntR K Hm) ks xs) (h : look ks p = some d) : ∃ b u v, atKey (xs.map kx) (nk p) = some (b, u) ∧ RelV v u ∧ At K Hm d v := by
  induction r with
  | nil => cases h
  | @cons kv x ks xs e t ih =>
    obtain ⟨q, d0⟩ := kv
    obtain ⟨e1, e2, v, rv, av⟩ := e
    simp only at e1 e2 av
    rw [look] at h
    by_cases z : q = p
    · rw [if_pos z] at h
      cases h
      exact ⟨x.2.1, x.2.2, v, by rw [atKey_cons, if_pos (by rw [← e1, z])], rv, av⟩
    · rw [if_neg z] at h
      obtain ⟨b, u, v, h1, h2, h3⟩ := ih h
      exact ⟨b, u, v, by rw [atKey_cons, if_neg fun y => z (by have := nk_inj y; rw [← e1] at this; exact this)]; exact h1, h2, h3⟩
theorem look_isSome : (look ks p).isSome = decide (p ∈ ks.map (·.1)) := by
  induction ks with
  | nil => rfl
  | cons kv ks ih =>
    obtain ⟨q, d0⟩ := kv
    rw [look]
    by_cases z : q = p
    · rw [if_pos z]; simp [z]
    · rw [if_neg z, ih]
      simp [Ne.symm z]
theorem nk_nodup {xs : List Tri} (h : (xs.map (·.1)).Nodup) : ((xs.map kx).map (·.1)).Nodup := by
  have e : (xs.map kx).map (·.1) = (xs.map (·.1)).map nk := by rw [List.map_map, List.map_map]; rfl
  rw [e]
  unfold List.Nodup at h ⊢
  rw [List.pairwise_map]
  exact h.imp fun hab q => hab (nk_inj q)
end
section
variable {X : Cx} {pins : List (Addr × Obj)} {σ : L2.St} {H Hm : Hp} {s : Shared} {a b : Addr} {ks : List (Pl × D)} {p : Pl} {d : D} {A : Around} {E : Value → Shared → Prop} {v : V} {u : Value}
theorem key_is (I : Inv X pins σ H s) (h : At X.K H (dL p) v) (r : RelV v u) : ∃ b, u = .ref b ∧ v = .ref b ∧ (nestedKind X.prog X.w).is s.heap (nk p) b := by
  have q := nested_is I (key_dL p) h r
  rw [dL] at h
  simp only [At] at h
  obtain ⟨b, xs, rfl, _, _⟩ := h
  cases (show u = Value.ref b from r)
  exact ⟨b, rfl, rfl, q, dep_nk p⟩
/-- what stands -/
theorem plAt_is (I : Inv X pins σ H s) (hm : Same Hm H) (h : PlAt X.prog X.w X.K H Hm a ks) : ∃ es ep xs, H a = some (RawO a es ep) ∧ s.heap.DictOfH (nestedKind X.prog X.w) a (xs.map kx) ∧ Paired (EntR X.K Hm) ks xs ∧ (xs.map (·.1)).Nodup ∧
    (∃ o, s.heap.get? a = some o ∧ o.ExactDict ∧ o.data = .dict es ep) ∧ es.toList = (xs.map kx).map (entryOfKey (nestedKind X.prog X.w)) := by
  obtain ⟨⟨es, ep, xs, h1, h2, h3, h4⟩, h5, h6⟩ := h
  obtain ⟨⟨o, e1, e2, e3⟩, _, _⟩ := I.hok a _ h1
  refine ⟨es, ep, xs, h1, ⟨o, es, ep, e1, e2, e3, h2, fun y hy => ?_, nk_nodup h3⟩, h4, h3, ⟨o, e1, e2, e3⟩, h2⟩
  obtain ⟨x, hx, rfl⟩ := List.mem_map.mp hy
  have key : ∀ {ks : List (Pl × D)} {xs : List Tri}, Paired (EntR X.K Hm) ks xs → ∀ x ∈ xs, (nestedKind X.prog X.w).is s.heap (nk x.1) x.2.1 := by
    intro ks xs r
    induction r with
    | nil => intro x hx; cases hx
    | @cons kv x ks xs e t ih =>
      intro y hy
      rcases List.mem_cons.mp hy with z | z
      · subst z
        obtain ⟨e1, e2, _⟩ := e
        obtain ⟨b, q1, _, q2⟩ := key_is (p := kv.1) I (e2.same hm) (u := .ref y.2.1) rfl
        cases q1
        rw [← e1]; exact q2
      · exact ih y z
  exact key h4 x hx
theorem room8 (hu : A.units + 9 < cLine) : (nestedKind X.prog X.w).room A.in1 := by
  show A.units + 1 + 8 < cLine
  omega
/-- k in d, k not in d -/
theorem pl_in {Q : Value → Shared → Prop} (hu : A.units + 9 < cLine) (I : Inv X pins σ H s) (hm : Same Hm H) (g : PlAt X.prog X.w X.K H Hm a ks) (hk : At X.K H (dL p) v) (ry : RelV v u) (h : ∀ s', Inv X pins σ H s' → Q (.bool (look ks p).isSome) s') :
    wpAny (model X.prog X.w) A (compareOp .In u (.ref a)) Q E s := by
  obtain ⟨es, ep, xs, _, hd, hp, _⟩ := plAt_is I hm g
  obtain ⟨b, rfl, rfl, hb⟩ := key_is I hk ry
  refine wpAny_in_heap (room8 hu) hb g.sys hd ?_
  have e : (atKey (xs.map kx) (nk p)).isSome = (look ks p).isSome := by
    cases q : look ks p with
    | none => rw [look_none hp q]; rfl
    | some d =>
      obtain ⟨_, _, _, z, _⟩ := look_some hp q
      rw [z]; rfl
  rw [e]
  exact h _ (I.tok _)
theorem pl_notIn {Q : Value → Shared → Prop} (hu : A.units + 9 < cLine) (I : Inv X pins σ H s) (hm : Same Hm H) (g : PlAt X.prog X.w X.K H Hm a ks) (hk : At X.K H (dL p) v) (ry : RelV v u) (h : ∀ s', Inv X pins σ H s' → Q (.bool (!(look ks p).isSome)) s') :
    wpAny (model X.prog X.w) A (compareOp .NotIn u (.ref a)) Q E s := by
  obtain ⟨es, ep, xs, _, hd, hp, _⟩ := plAt_is I hm g
  obtain ⟨b, rfl, rfl, hb⟩ := key_is I hk ry
  refine PyProof.Rows.wpAny_notIn_heap (room8 hu) hb g.sys hd ?_
  have e : (atKey (xs.map kx) (nk p)).isSome = (look ks p).isSome := by
    cases q : look ks p with
    | none => rw [look_none hp q]; rfl
    | some d =>
      obtain ⟨_, _, _, z, _⟩ := look_some hp q
      rw [z]; rfl
  rw [e]
  exact h _ (I.tok _)
/-- d[k], there -/
theorem pl_get {Q : Value → Shared → Prop} (hu : A.units + 9 < cLine) (I : Inv X pins σ H s) (hm : Same Hm H) (g : PlAt X.prog X.w X.K H Hm a ks) (hk : At X.K H (dL p) v) (ry : RelV v u) (hl : look ks p = some d) (h : ∀ w' x s', Inv X pins σ H s' → RelV x w' → At X.K Hm d x → Q w' s') :
    wpAny (model X.prog X.w) A (getItem (.ref a) u) Q E s := by
  obtain ⟨es, ep, xs, _, hd, hp, _⟩ := plAt_is I hm g
  obtain ⟨b, rfl, rfl, hb⟩ := key_is I hk ry
  obtain ⟨b', u', x, z, rx, ax⟩ := look_some hp hl
  exact wpAny_getItem_heap (room8 hu) hb hd z (h _ x _ (I.tok _) rx ax)
/-- d[k] = v, k not there -/
theorem pl_put {Q : Unit → Shared → Prop} {y : V} {r : Value} (hu : A.units + 9 < cLine) (I : Inv X pins σ H s) (hm : Same Hm H) (g : PlAt X.prog X.w X.K H Hm a ks) (hk : At X.K H (dL p) v) (ry : RelV v u) (hkm : At X.K Hm (dL p) v) (hn : look ks p = none) (rr : RelV y r) (ay : At X.K Hm d y) (hz : ks.length < sizeLine)
    (h : ∀ es ep s', Inv X pins σ (upd H a (RawO a es ep)) s' → PlAt X.prog X.w X.K (upd H a (RawO a es ep)) Hm a (ks ++ [(p, d)]) → Q () s') :
    wpAny (model X.prog X.w) A (setItem (.ref a) u r) Q E s := by
  obtain ⟨es, ep, xs, ha, hd, hp, hnd, _⟩ := plAt_is I hm g
  obtain ⟨b, rfl, rfl, hb⟩ := key_is I hk ry
  have hl : ks.length = xs.length := Paired.length hp
  refine wpAny_setItem_heap (hsz := by rw [List.length_map, ← hl]; exact Nat.le_of_lt hz) (room8 hu) hb hd fun h' dd' hs => ?_
  rw [storedH_new (look_none hp hn)] at dd'
  obtain ⟨o, es', ep', e1, e2, e3, e4, e5, e6⟩ := dd'
  have e4' : es'.toList = ((xs ++ [(p, b, r)]).map kx).map (entryOfKey (nestedKind X.prog X.w)) := by rw [e4, List.map_append, List.map_append, List.map_append]; rfl
  have nd : ((xs ++ [((p, b, r) : Tri)]).map (·.1)).Nodup := by
    have q : (((xs ++ [((p, b, r) : Tri)]).map kx).map (·.1)).Nodup := by rw [List.map_append]; exact e6
    have e : ((xs ++ [((p, b, r) : Tri)]).map kx).map (·.1) = ((xs ++ [((p, b, r) : Tri)]).map (·.1)).map nk := by rw [List.map_map, List.map_map]; rfl
    rw [e] at q
    unfold List.Nodup at q ⊢
    rw [List.pairwise_map] at q
    exact q.imp fun hab z => hab (by rw [z])
  refine h es' ep' _ (d_write I (by rw [ha]; exact True.intro) hs ⟨o, e1⟩ ⟨⟨o, e1, e2, e3⟩, ⟨o, e1⟩, fun h1 h2 ⟨o1, q1, q2, q3⟩ k => ⟨o1, k _ q1, q2, q3⟩⟩) ⟨⟨es', ep', _, upd_same, e4', nd, ?_⟩, g.sys, by rw [List.length_append]; exact hz⟩
  exact Paired.snoc hp ⟨rfl, hkm, y, rr, ay⟩
end

/-! ### expressions -/
section
variable {X : Cx} {ρ : Kn} {e o i : Expr} {ks : List (Pl × D)} {p : Pl} {d : D} {pos : Pos}
theorem cmp_inP (hu : X.A.units + 9 < cLine) : CmpD X .In (dL p) (dPl X.prog X.w X.K ks) (decide (p ∈ ks.map (·.1))) :=
  ⟨fun x y H Q => ∃ a, y = .ref a ∧ At X.K H (dL p) x ∧ PlAt X.prog X.w X.K H H a ks ∧ Q (.bl (look ks p).isSome) H, fun pins s σ H x y u w Q I rx ry ⟨a, e, h1, h2, q⟩ => by
    subst e
    cases (show w = Value.ref a from ry)
    exact pl_in hu I (Same.refl H) h2 h1 rx fun s' I' => ⟨.bl _, H, I', rfl, q⟩, fun x y H Q a1 a2 q => by
    obtain ⟨a, e, h2⟩ := dPl_at a2
    exact ⟨a, e, a1, h2, by rw [look_isSome]; exact q⟩⟩
theorem cmp_niP (hu : X.A.units + 9 < cLine) : CmpD X .NotIn (dL p) (dPl X.prog X.w X.K ks) (!decide (p ∈ ks.map (·.1))) :=
  ⟨fun x y H Q => ∃ a, y = .ref a ∧ At X.K H (dL p) x ∧ PlAt X.prog X.w X.K H H a ks ∧ Q (.bl (!(look ks p).isSome)) H, fun pins s σ H x y u w Q I rx ry ⟨a, e, h1, h2, q⟩ => by
    subst e
    cases (show w = Value.ref a from ry)
    exact pl_notIn hu I (Same.refl H) h2 h1 rx fun s' I' => ⟨.bl _, H, I', rfl, q⟩, fun x y H Q a1 a2 q => by
    obtain ⟨a, e, h2⟩ := dPl_at a2
    exact ⟨a, e, a1, h2, by rw [look_isSome]; exact q⟩⟩
/-- d[k] -/
theorem pd_getP (hu : X.A.units + 9 < cLine) (ho : PD X ρ o (dPl X.prog X.w X.K ks)) (hi : PD X ρ i (dL p)) (hl : look ks p = some d) (hs : NoSl i := by exact fun _ _ => rfl) : PD X ρ (.Subscript o i pos) d := by
  refine ⟨fun pins s σ H Q I h => ?_⟩
  refine subD_of PySem.F.slot_dict_getitem.lookup hs (thn (ho.run pins s σ H (fun x H1 => Same H H1 ∧ At X.K H1 (dPl X.prog X.w X.K ks) x) I ⟨h.1, fun v H1 e1 a1 => ⟨e1, a1⟩⟩) fun u s1 ⟨x, H1, I1, rx, e1, a1⟩ =>
    thn (hi.run pins s1 σ H1 (fun y H2 => Same H1 H2 ∧ At X.K H2 (dL p) y) I1 ⟨h.1.same e1, fun v H2 e2 a2 => ⟨e2, a2⟩⟩) fun iv s2 ⟨y, H2, I2, ry, e2, a2⟩ => ?_)
  obtain ⟨a, rfl, g⟩ := dPl_at (a1.same e2)
  obtain rfl : u = Value.ref a := rx
  obtain ⟨es, ep, xs, _, hd, _⟩ := plAt_is I2 (Same.refl _) g
  exact ⟨hd.typeIs, pl_get hu I2 (Same.refl _) g a2 ry hl fun w' z s3 I3 rw' az => ⟨z, H2, I3, rw', h.2 z H2 (e1.trans e2) az⟩⟩
end
end CM
set_option Elab.async false
set_option linter.all false
set_option maxRecDepth 100000
set_option maxHeartbeats 4000000
/-! CME: dicts of places made, walked, listed; lists compared. -/
namespace CM
open PySem L2
open PyProof.Rows (envOfC)

/-! ### no such thing in it -/
mutual
def noB : D → Bool
  | .tup ds => noBs ds
  | .lst ds => noBs ds
  | .ob _ => false
  | _ => true
def noBs : List D → Bool
  | [] => true
  | d :: ds => noB d && noBs ds
end
def TiesB (H H' : Hp) : Prop := ∀ b o, (∀ φ, o ≠ .ext φ) → H b = some o → H' b = some o
theorem sqT_tiesB {K : PySem.W.Frag} {H H' : Hp} {a : Addr} {xs : List V} (e : TiesB H H') (h : SqT K H a xs) : SqT K H' a xs := by
  rcases h with (h | ⟨o, h⟩) | h
  · exact .inl (.inl (e _ _ (fun φ z => nomatch z) h))
  · exact .inl (.inr ⟨o, e _ _ (fun φ z => nomatch z) h⟩)
  · exact .inr h
theorem sqL_tiesB {K : PySem.W.Frag} {H H' : Hp} {a : Addr} {xs : List V} (e : TiesB H H') (h : SqL K H a xs) : SqL K H' a xs := by
  rcases h with (h | ⟨o, h⟩) | h
  · exact .inl (.inl (e _ _ (fun φ z => nomatch z) h))
  · exact .inl (.inr ⟨o, e _ _ (fun φ z => nomatch z) h⟩)
  · exact .inr h
section
variable {K : PySem.W.Frag} {H H' : Hp}
mutual
theorem At.tiesB (e : TiesB H H') : ∀ {d : D} {v : V}, noB d = true → At K H d v → At K H' d v
  | .non, _, _, h => by simpa only [At] using h
  | .bl _, _, _, h => by simpa only [At] using h
  | .int _, _, _, h => by simpa only [At] using h
  | .str _, _, _, h => by simpa only [At] using h
  | .tup ds, _, n, h => by
    simp only [At] at h ⊢
    obtain ⟨a, xs, h1, h2, h3⟩ := h
    exact ⟨a, xs, h1, sqT_tiesB e h2, AtL.tiesB e (by simpa only [noB] using n) h3⟩
  | .lst ds, _, n, h => by
    simp only [At] at h ⊢
    obtain ⟨a, xs, h1, h2, h3⟩ := h
    exact ⟨a, xs, h1, sqL_tiesB e h2, AtL.tiesB e (by simpa only [noB] using n) h3⟩
  | .adr _, _, _, h => by simpa only [At] using h
  | .ob _, _, n, h => by simp [noB] at n
  | .rul ws, _, _, h => by
    simp only [At] at h ⊢
    obtain ⟨a, dx, t, h1, h2, h3⟩ := h
    exact ⟨a, dx, t, h1, e _ _ (fun φ z => nomatch z) h2, sqT_tiesB e h3⟩
theorem AtL.tiesB (e : TiesB H H') : ∀ {ds : List D} {vs : List V}, noBs ds = true → AtL K H ds vs → AtL K H' ds vs
  | [], _, _, h => by simpa only [AtL] using h
  | d :: ds, _, n, h => by
    simp only [AtL] at h ⊢
    simp only [noBs, Bool.and_eq_true] at n
    obtain ⟨x, r, h1, h2, h3⟩ := h
    exact ⟨x, r, h1, At.tiesB e n.1 h2, AtL.tiesB e n.2 h3⟩
end
end
theorem noB_dF (f : Option Fate) : noB (dF f) = true := by cases f <;> rfl
theorem noB_dH (h : Hf) : noB (dH h) = true := by simp [dH, noB, noBs, noB_dF]
theorem noB_dHs (a b : Hf) : noB (dHs a b) = true := by simp [dHs, noB, noBs, noB_dH]
theorem noB_dS (s : Sta) : noB (dS s) = true := by simp [dS, noB, noBs, noB_dHs]
theorem noB_dP (p : Option Pst) : noB (dP p) = true := by cases p <;> simp [dP, noB, noBs, noB_dHs]
theorem noB_dL (p : Pl) : noB (dL p) = true := by simp [dL, noB, noBs, noB_dS, noB_dP]
theorem tiesB_mask {a : Addr} {H : Hp} {es : Array DictEntry} {ep : Nat} (h : H a = some (RawO a es ep)) : TiesB H (mask a H) := fun b o n e => by
  have hb : b ≠ a := fun z => by
    rw [z, h] at e
    exact n _ (Option.some.inj e).symm
  rw [mask_at hb]; exact e

/-! ### {place: v} -/
def tDispP (P : Program) (w : World) (K : PySem.W.Frag) (ρ : Kn) (p : Pl) (d : D) : TE := fun σ H Q => EA K H σ ρ ∧ ∀ a H', H a = none → Same H H' → PlAt P w K H' (mask a H') a [(p, d)] → Q (.ref a) H'
section
variable {X : Cx} {ρ : Kn} {k v e : Expr} {ks : List (Pl × D)} {p : Pl} {d : D} {pos : Pos}
theorem raw_new {P : Program} {w : World} {H : Hp} (h : Heap) : ObjOk P w H (h.push { cls := .type "dict", data := .dict #[] }) h.objs.size (RawO h.objs.size #[] 0) :=
  ⟨⟨_, Heap.get?_push_size _ rfl, ⟨rfl, rfl, rfl⟩, rfl⟩, ⟨_, Heap.get?_push_size _ rfl⟩, fun h1 h2 ⟨o1, q1, q2, q3⟩ k => ⟨o1, k _ q1, q2, q3⟩⟩
theorem pe_dispP (hu : X.A.units + 9 < cLine) (hk : PD X ρ k (dL p)) (hv : PD X ρ v d) (nb : noB d = true) : PE X (.Dict [some k] [v] pos) (tDispP X.prog X.w X.K ρ p d) := by
  refine ⟨fun pins s σ H Q I q => ?_⟩
  have hn := I.hok.fresh (Nat.le_refl s.heap.objs.size)
  have sys : (s.heap.objs.size == sysModules) = false := beq_eq_false_iff_ne.mpr (Ne.symm (Nat.ne_of_lt I.big))
  have I1 := I.laid (a := s.heap.objs.size) (o := RawO s.heap.objs.size #[] 0) (h' := s.heap.push { cls := .type "dict", data := .dict #[] }) (t' := s.toks) (fun _ _ q => Heap.get?_push_of_some _ q) (Nat.le_refl _) (raw_new s.heap)
  have e0 : Same H (upd H s.heap.objs.size (RawO s.heap.objs.size #[] 0)) := same_new hn
  rw [arm_eval_Dict, zip_pairTrees [some k] [v] X.env pos rfl rfl, dictDisplay_pairs (pairTrees [some k] [v] X.env pos) (by simp [pairTrees]) (by simp [pairTrees])]
  refine wpAny_bind (wpAny_standAt (wpAny_bind (wpAny_subDictH (knd := nestedKind X.prog X.w) (Q := fun d s' => wpAny (model X.prog X.w) X.A (pure (Value.ref d)) (EP X pins σ Q) X.xe s') (by show X.A.units + 8 < cLine; omega) (by simp [pairTrees]) ?_)))
  refine pairTrees_cons_walk (thn (hk.run pins _ σ _ (fun x H1 => Same (upd H s.heap.objs.size (RawO s.heap.objs.size #[] 0)) H1 ∧ At X.K H1 (dL p) x) I1 ⟨q.1.same e0, fun v H1 e1 a1 => ⟨e1, a1⟩⟩) fun u s1 ⟨x, H1, I2, rx, e1, a1⟩ =>
    thn (hv.run pins s1 σ H1 (fun y H2 => Same H1 H2 ∧ At X.K H2 d y) I2 ⟨(q.1.same e0).same e1, fun v H2 e2 a2 => ⟨e2, a2⟩⟩) fun w' s2 ⟨y, H2, I3, ry, e2, a2⟩ => pairTrees_nil_walk ?_)
  have ak := a1.same e2
  obtain ⟨b, rfl, rfl, hb⟩ := key_is I3 ak rx
  have hN2 : H2 s.heap.objs.size = some (RawO s.heap.objs.size #[] 0) := e2 _ _ (e1 _ _ upd_same)
  obtain ⟨⟨o, g1, g2, g3⟩, _, _⟩ := I3.hok _ _ hN2
  refine ⟨[(nk p, b, w')], ⟨rfl, rfl, hb, trivial⟩, ⟨o, #[], 0, g1, g2, g3, rfl, fun _ hx => by simp at hx, List.nodup_nil⟩, fun h' tk dd' hs => wpAny_pure ?_⟩
  obtain ⟨o', es', ep', z1, z2, z3, z4, z5, z6⟩ := dd'
  have I4 : Inv X pins σ (upd H2 s.heap.objs.size (RawO s.heap.objs.size es' ep')) { s2 with heap := h', toks := tk } :=
    d_write (t' := tk) I3 (by rw [hN2]; exact True.intro) hs ⟨o', z1⟩ ⟨⟨o', z1, z2, z3⟩, ⟨o', z1⟩, fun h1 h2 ⟨o1, q1, q2, q3⟩ k => ⟨o1, k _ q1, q2, q3⟩⟩
  refine ⟨.ref s.heap.objs.size, _, I4, rfl, q.2 _ _ hn (same_mut ((e0.trans e1).trans e2) hn) ⟨⟨es', ep', [(p, b, w')], upd_same, z4, List.nodup_cons.mpr ⟨List.not_mem_nil, List.nodup_nil⟩, ?_⟩, sys, by show 1 ≤ sizeLine; decide⟩⟩
  rw [mask_upd]
  exact .cons ⟨rfl, ak.tiesB (tiesB_mask hN2) (noB_dL p), y, ry, a2.tiesB (tiesB_mask hN2) nb⟩ .nil
end

/-! ### dict(a list of pairs place, True) -/
section
variable {P : Program} {w : World} {K : PySem.W.Frag} {H Hm : Hp}
theorem atKey_kx {xs : List Tri} {p : Pl} : atKey (xs.map kx) (nk p) = atKey xs p := by
  induction xs with
  | nil => rfl
  | cons x xs ih =>
    rw [atKey_cons, ih]
    by_cases e : x.1 = p
    · rw [if_pos (by rw [e])]; simp [atKey, e]
    · rw [if_neg (fun z => e (nk_inj z))]; simp [atKey, e]
theorem putAt_kx {p : Pl} {u : Value} {x : Tri} : putAt (nk p) u (kx x) = kx (putAt p u x) := by
  unfold putAt
  by_cases e : x.1 = p
  · rw [if_pos (show (kx x).1 = nk p by rw [← e]; rfl), if_pos e]; rfl
  · rw [if_neg (show ¬ (kx x).1 = nk p from fun z => e (nk_inj z)), if_neg e]
theorem storedH_kx {xs : List Tri} {p : Pl} {a : Addr} {u : Value} : storedH (xs.map kx) (nk p) a u = (storedH xs p a u).map kx := by
  unfold storedH
  rw [atKey_kx]
  by_cases e : (atKey xs p).isSome = true
  · rw [if_pos e, if_pos e, List.map_map, List.map_map]
    exact List.map_congr_left fun x _ => putAt_kx
  · rw [if_neg e, if_neg e, List.map_append]; rfl
theorem storedAllH_kx {ps : List Tri} : ∀ {xs : List Tri}, storedAllH (xs.map kx) (ps.map kx) = (storedAllH xs ps).map kx := by
  induction ps with
  | nil => intro xs; rfl
  | cons p ps ih =>
    intro xs
    show storedAllH (storedH (xs.map kx) (nk p.1) p.2.1 p.2.2) (ps.map kx) = _
    rw [storedH_kx, ih]; rfl
def TriOk (K : PySem.W.Frag) (H : Hp) (x : Tri) : Prop := At K H (dL x.1) (.ref x.2.1) ∧ x.2.2 = .bool true
theorem stored_ok {xs : List Tri} {p : Pl} {a : Addr} (h : ∀ x ∈ xs, TriOk K H x) (ha : At K H (dL p) (.ref a)) : (∀ x ∈ storedH xs p a (.bool true), TriOk K H x) ∧ (∀ q, q ∈ (storedH xs p a (.bool true)).map (·.1) ↔ q ∈ xs.map (·.1) ∨ q = p) := by
  unfold storedH
  by_cases e : (atKey xs p).isSome = true
  · rw [if_pos e]
    refine ⟨fun x hx => ?_, fun q => ?_⟩
    · obtain ⟨y, hy, rfl⟩ := List.mem_map.mp hx
      unfold putAt
      split
      · exact ⟨(h y hy).1, rfl⟩
      · exact h y hy
    · rw [keys_map_putAt]
      constructor
      · exact .inl
      · rintro (z | z)
        · exact z
        · subst z
          obtain ⟨v, hv⟩ := Option.isSome_iff_exists.mp e
          unfold atKey at hv
          obtain ⟨x, hx, _⟩ := Option.map_eq_some_iff.mp hv
          have h1 := List.find?_some hx
          have h2 := List.mem_of_find?_eq_some hx
          exact List.mem_map.mpr ⟨x, h2, by simpa using h1⟩
  · rw [if_neg e]
    refine ⟨fun x hx => ?_, fun q => by simp⟩
    rcases List.mem_append.mp hx with z | z
    · exact h x z
    · have : x = (p, a, .bool true) := by simpa using z
      subst this
      exact ⟨ha, rfl⟩
theorem storedAll_ok {ps : List Tri} : ∀ {xs : List Tri}, (∀ x ∈ xs, TriOk K H x) → (∀ x ∈ ps, TriOk K H x) → (∀ x ∈ storedAllH xs ps, TriOk K H x) ∧ (∀ q, q ∈ (storedAllH xs ps).map (·.1) ↔ q ∈ xs.map (·.1) ∨ q ∈ ps.map (·.1)) ∧ (storedAllH xs ps).length ≤ xs.length + ps.length := by
  induction ps with
  | nil => intro xs h _; exact ⟨h, fun q => by simp [storedAllH], by simp [storedAllH]⟩
  | cons p ps ih =>
    intro xs h hp
    obtain ⟨p1, a, u⟩ := p
    obtain ⟨h1, h2⟩ := hp _ (List.mem_cons_self)
    simp only at h1 h2
    subst h2
    obtain ⟨k1, k2⟩ := stored_ok h h1
    obtain ⟨i1, i2, i3⟩ := ih k1 (fun x hx => hp x (List.mem_cons_of_mem _ hx))
    refine ⟨i1, fun q => ?_, ?_⟩
    · show q ∈ (storedAllH (storedH xs p1 a (.bool true)) ps).map (·.1) ↔ _
      rw [i2, k2, List.map_cons, List.mem_cons, or_assoc]
    · show (storedAllH (storedH xs p1 a (.bool true)) ps).length ≤ _
      have := storedH_length xs p1 a (.bool true)
      rw [List.length_cons]; omega
theorem paired_ok : ∀ {xs : List Tri}, (∀ x ∈ xs, TriOk K H x) → Paired (EntR K H) (xs.map fun x => (x.1, D.bl true)) xs
  | [], _ => .nil
  | x :: xs, h => .cons ⟨rfl, (h x List.mem_cons_self).1, .bl true, by rw [(h x List.mem_cons_self).2]; rfl, by simp only [At]⟩ (paired_ok fun y hy => h y (List.mem_cons_of_mem _ hy))
end
/-- the pairs, in the heap -/
theorem pairs_get {X : Cx} {pins : List (Addr × Obj)} {σ : L2.St} {H : Hp} {s : Shared} (I : Inv X pins σ H s) : ∀ {as : List Pl} {vs : List V} {us : List Value}, AtL X.K H (as.map fun p => .tup [dL p, .bl true]) vs → Vals vs us →
    ∃ tr : List Tri, tr.map (·.1) = as ∧ (∀ x ∈ tr, TriOk X.K H x) ∧ (∀ x ∈ tr, (nestedKind X.prog X.w).is s.heap (nk x.1) x.2.1) ∧ us.length = tr.length ∧ ∀ (j : Nat) (x : Tri), tr[j]? = some x → ∃ T, us[j]? = some (.ref T) ∧ s.heap.IsTuple T #[.ref x.2.1, .bool true]
  | [], _, _, h, r => by
    simp only [List.map_nil, AtL] at h; subst h
    cases r
    exact ⟨[], rfl, (by intro x h; cases h), (by intro x h; cases h), rfl, (by intro j x e; simp at e)⟩
  | p :: as, _, _, h, r => by
    simp only [List.map_cons, AtL] at h
    obtain ⟨x, rr, rfl, h2, h3⟩ := h
    cases r with
    | cons r1 r2 =>
      obtain ⟨tr, t1, t2, t3, t4, t5⟩ := pairs_get I h3 r2
      simp only [At] at h2
      obtain ⟨a, xs, rfl, hx, al⟩ := h2
      obtain ⟨v, v2, rfl, a1, a2⟩ := atL_two al
      simp only [At] at a2
      subst a2
      obtain ⟨its, rv, tp, _⟩ := I.tuple hx
      obtain ⟨u, y, rfl, ru, ry⟩ := vals2 rv
      cases (show y = Value.bool true from ry)
      obtain ⟨b, rfl, rfl, hb⟩ := key_is I a1 ru
      cases (show _ = Value.ref a from r1)
      refine ⟨(p, b, .bool true) :: tr, by rw [List.map_cons, t1], fun z hz => ?_, fun z hz => ?_, by simp [t4], fun j z e => ?_⟩
      · rcases List.mem_cons.mp hz with q | q
        · subst q; exact ⟨a1, rfl⟩
        · exact t2 z q
      · rcases List.mem_cons.mp hz with q | q
        · subst q; exact hb
        · exact t3 z q
      · cases j with
        | zero =>
          have e' : (p, b, Value.bool true) = z := Option.some.inj e
          subst e'
          exact ⟨a, rfl, tp⟩
        | succ j =>
          obtain ⟨T, q1, q2⟩ := t5 j z (by simpa using e)
          exact ⟨T, by simpa using q1, q2⟩
def adrAt (its : List Value) (j : Nat) : Addr := match its[j]? with
  | some (.ref T) => T
  | _ => 0
theorem adrAt_eq {its : List Value} {j : Nat} {T : Addr} (h : its[j]? = some (.ref T)) : adrAt its j = T := by
  unfold adrAt
  rw [h]
theorem call_dictPl {X : Cx} (hcalm : X.calm = true) (hu : X.A.units + 10 < cLine) : CallR X (.type "dict") (fun xs H Q => ∃ (as : List Pl) (v : V), xs = [v] ∧ At X.K H (.lst (as.map fun p => .tup [dL p, .bl true])) v ∧ as.length ≤ 8000000 ∧
    ∀ (a : Addr) (H' : Hp) (kl : List Pl), H a = none → Same H H' → PlAt X.prog X.w X.K H' H' a (kl.map fun p => (p, .bl true)) → (∀ p, p ∈ kl ↔ p ∈ as) → Q (.ref a) H') := by
  intro pins s σ H xs us Q I r q
  obtain ⟨as, v, ex, av, hz, q⟩ := q
  subst ex
  obtain ⟨u, eu, rx⟩ := vals1 r
  subst eu
  simp only [At] at av
  obtain ⟨l, ys, rfl, hl, al⟩ := av
  cases (show u = Value.ref l from rx)
  obtain ⟨its, rv, pl, _⟩ := I.list hl
  obtain ⟨tr, t1, t2, t3, t4, t5⟩ := pairs_get I al rv
  obtain ⟨o, n, ho, hc, hd, hdat⟩ := pl
  have hlen : tr.length = as.length := by rw [← t1, List.length_map]
  refine call_dict_pairsH (knd := nestedKind X.prog X.w) (ps := tr.map kx) (PairArg.list l its.toArray (adrAt its) (tr.map fun x => (Value.ref x.2.1, Value.bool true))) (I.ok.hd hcalm) (show X.A.units + 1 + 1 + 8 < cLine by omega) ⟨⟨o, n, ho, hc, hd, hdat⟩, by simp [t4], fun j k v hj => ?_⟩ ⟨by simp, fun i key v hi => ?_⟩ (fun h' hk x hx => ?_) (by rw [List.length_map, hlen]; exact Nat.le_trans hz (by decide)) fun h' tk hd' hk => ?_
  · rw [List.getElem?_map] at hj
    obtain ⟨x, hx, e⟩ := Option.map_eq_some_iff.mp hj
    cases e
    obtain ⟨T, q1, q2⟩ := t5 j x hx
    refine ⟨?_, .inl ?_⟩
    · rw [adrAt_eq q1]; simpa using q1
    · rw [adrAt_eq q1]; exact q2
  · have hi' : (tr.map fun x => (Value.ref x.2.1, Value.bool true))[i]? = some (key, v) := hi
    rw [List.getElem?_map] at hi'
    obtain ⟨x, hx, e⟩ := Option.map_eq_some_iff.mp hi'
    cases e
    refine ⟨nk x.1, x.2.1, ?_, rfl⟩
    rw [List.getElem?_map, hx]
    show some (kx x) = _
    unfold kx
    rw [show x.2 = (x.2.1, Value.bool true) from Prod.ext rfl (t2 x (List.mem_of_getElem? hx)).2]
  · obtain ⟨y, hy, rfl⟩ := List.mem_map.mp hx
    exact nestedKind_stays.stays (fun b o vs n e _ => hk b o (Nat.ne_of_lt (Heap.lt_size e)) (by simp) e) (t3 y hy)
  · have e0 : storedAllH (([] : List Tri).map kx) (tr.map kx) = (storedAllH [] tr).map kx := storedAllH_kx
    rw [List.map_nil] at e0
    rw [e0] at hd'
    obtain ⟨o', es', ep', z1, z2, z3, z4, z5, z6⟩ := hd'
    have fr := I.hok.fresh (Nat.le_refl s.heap.objs.size)
    obtain ⟨k1, k2, k3⟩ := storedAll_ok (K := X.K) (H := H) (xs := []) (fun _ h => nomatch h) t2
    have I2 : Inv X pins σ (upd H s.heap.objs.size (RawO s.heap.objs.size es' ep')) { s with heap := h', toks := tk } :=
      I.laid (t' := tk) (fun b o e => hk b o (by simp) e) (Nat.le_refl _) ⟨⟨o', z1, z2, z3⟩, ⟨o', z1⟩, fun h1 h2 ⟨o1, q1, q2, q3⟩ k => ⟨o1, k _ q1, q2, q3⟩⟩
    have e1 : Same H (upd H s.heap.objs.size (RawO s.heap.objs.size es' ep')) := same_new fr
    have nd : ((storedAllH [] tr).map (·.1)).Nodup := by
      have e : ((storedAllH [] tr).map kx).map (·.1) = ((storedAllH [] tr).map (·.1)).map nk := by rw [List.map_map, List.map_map]; rfl
      rw [e] at z6
      unfold List.Nodup at z6 ⊢
      rw [List.pairwise_map] at z6
      exact z6.imp fun hab z => hab (by rw [z])
    have hlen2 : ((storedAllH [] tr).map (·.1)).length ≤ sizeLine := by
      rw [List.length_map]
      refine Nat.le_trans k3 ?_
      rw [List.length_nil, hlen, Nat.zero_add]
      exact Nat.le_trans hz (by decide)
    refine ⟨.ref s.heap.objs.size, _, I2, rfl, q _ _ ((storedAllH [] tr).map (·.1)) fr e1 ⟨⟨es', ep', storedAllH [] tr, upd_same, z4, nd, ?_⟩, beq_eq_false_iff_ne.mpr (Ne.symm (Nat.ne_of_lt I.big)), by rw [List.length_map]; exact hlen2⟩ fun p => by rw [k2, t1]; simp⟩
    rw [List.map_map]
    exact (paired_ok k1).mono fun _ _ z => z.same e1

/-! ### for place in d -/
def ItP (d : Addr) (es : Array DictEntry) (ep : Nat) : It :=
  ⟨fun i H => H d = some (RawO d es ep) ∧ i < es.size, fun (i : Nat) H x H' => H' = H ∧ ∃ en : DictEntry, es[i]? = some en ∧ RelV x en.key, fun i H => H d = some (RawO d es ep) ∧ es.size ≤ i⟩
theorem raw_at {X : Cx} {pins : List (Addr × Obj)} {σ : L2.St} {H : Hp} {s : Shared} {d : Addr} {es : Array DictEntry} {ep : Nat} (I : Inv X pins σ H s) (h : H d = some (RawO d es ep)) : ∃ o, s.heap.get? d = some o ∧ o.ExactDict ∧ o.data = .dict es ep := (I.hok d _ h).1
/-- a walk whose only cell is the iterator's own: what is to be told of one step, and of the end -/
theorem turn_one {P : Program} {w : World} {K : PySem.W.Frag} {tg : Expr} {J : It} {it : Addr} {kind : String} {tn : Nat → Heap → Prop} (bare : ["enumerate", "zip", "dict_itemiterator", "dict_reverseitemiterator", "odict_iterator", "itertools.zip_longest", "itertools.pairwise"].contains kind = false)
    (cell : ∀ i h, tn i h → ∃ o, h.get? it = some o ∧ o.cls = .type kind ∧ ∃ vs, o.data = .fields vs) (still : ∀ i h h', tn i h → (∀ o, h.get? it = some o → h'.get? it = some o) → tn i h')
    (next : ∀ (X : Cx), X.prog = P → X.w = w → ∀ (i : Nat) (pins : List (Addr × Obj)) (s : Shared) (σ : L2.St) (H : Hp) (E : Value → Shared → Prop) (Q : Option Value → Shared → Prop), Inv X pins σ H s → tn i s.heap → J.go i H →
      (∀ x u h', RelV x u → J.yld i H x H → tn (i + 1) h' → Heap.SameBut it s.heap h' → Q (some u) { s with heap := h' }) → wpAny (model P w) X.A (pyNext (.ref it)) Q E s)
    (stop : ∀ (X : Cx), X.prog = P → X.w = w → X.calm = true → ∀ (i : Nat) (pins : List (Addr × Obj)) (s : Shared) (σ : L2.St) (H : Hp) (E : Value → Shared → Prop) (Q : Option Value → Shared → Prop), Inv X pins σ H s → tn i s.heap → J.stop i H →
      (∀ h', Heap.ExtBut it s.heap h' → Q none { s with heap := h' }) → wpAny (model P w) X.A (pyNext (.ref it)) Q E s)
    (self : ∀ (A : Around) (i : Nat) (s : Shared) (Q : Value → Shared → Prop) (E : Value → Shared → Prop), tn i s.heap → Q (.ref it) s → wpAny (model P w) A (pyIter (.ref it)) Q E s) : Turn P w K tg J [it] it tn where
  mem := List.mem_singleton_self it
  obj i h n := List.forall_mem_singleton.mpr ((cell i h n).imp fun _ q => ⟨q.1, fun _ e => q.2.2.elim fun _ d => nomatch d.symm.trans e⟩)
  keep i h h' n k := still i h h' n (List.forall_mem_singleton.mp k)
  self := self
  item X eP ew _ _ i pins s σ H E I free n g := next X eP ew i pins s σ H E _ I n g fun x u h' ru y n' but => by
    obtain ⟨none_, nl, nf, old, nc, np⟩ := List.forall_mem_singleton.mp free
    obtain ⟨o, go, oc, vs, od⟩ := cell _ _ n'
    exact ⟨u, rfl, go_of (s := { s with heap := h' }) go oc od bare ⟨x, H, I.turned (t' := s.toks) (fun c _ ne e => (but.2 c ne).trans e) none_ nl old nc np, ru, y, n', List.forall_mem_singleton.mpr none_⟩⟩
  done X eP ew _ calm i pins s σ H E I free n g := stop X eP ew calm i pins s σ H E _ I n g fun h' but => by
    obtain ⟨none_, nl, nf, old, nc, np⟩ := List.forall_mem_singleton.mp free
    exact ⟨rfl, I.turned (t' := s.toks) (fun c o ne e => but c o ne e) none_ nl old nc np⟩
theorem turn_keysP {P : Program} {w : World} {K : PySem.W.Frag} {tg : Expr} {d : Addr} {es : Array DictEntry} {ep : Nat} (it : Addr) (hk : ∀ (i : Nat) (en : DictEntry), es[i]? = some en → ∃ b, en.key = .ref b) : Turn P w K tg (ItP d es ep) [it] it (fun i h => h.IsKeyIter it d i es.size ep) := by
  refine turn_one (kind := "dict_keyiterator") (by decide) (fun _ _ n => n.imp fun _ q => ⟨q.1, q.2.1, _, q.2.2⟩) (fun _ _ _ n k => n.at k) ?_ ?_ fun A i s Q E n q => ?_
  · rintro X rfl rfl i pins s σ H E Q I n ⟨isd, lt⟩ q
    obtain ⟨o, go, -, od⟩ := raw_at I isd
    have gen : es[i]? = some es[i] := Array.getElem?_eq_getElem lt
    obtain ⟨b, eb⟩ := hk i _ gen
    exact next_key_item n go od rfl gen fun h' => q (.ref b) _ h' eb ⟨rfl, _, gen, eb⟩
  · rintro X rfl rfl calm i pins s σ H E Q I n ⟨isd, le⟩ q
    obtain ⟨o, go, -, od⟩ := raw_at I isd
    exact next_key_end (I.ok.hd calm) n go od rfl le q
  · exact wpAny_pyIter_slot n.typeIs PySem.F.slot_dict_keyiterator_iter (PySem.wpAny_call_entry PySem.F.slot_dict_keyiterator_iter n.typeIs PySem.F.entry_dict_keyiterator_iter
      (show wpAny _ _ (ret (.ref it)) _ _ s from wpAny_pure ⟨_, rfl, "dict_keyiterator", _, n.typeIs, PySem.F.slot_dict_keyiterator_next.lookup, q⟩) (PySem.F.args_dict_keyiterator_iter_1 _))
/-- the entries of the dict at a stand -/
def EnsP (P : Program) (w : World) (K : PySem.W.Frag) (H : Hp) (a : Addr) (es : Array DictEntry) (ep : Nat) (ks : List (Pl × D)) : Prop :=
  H a = some (RawO a es ep) ∧ es.size = ks.length ∧ (a == sysModules) = false ∧ (∀ (i : Nat) (en : DictEntry), es[i]? = some en → ∃ b, en.key = .ref b) ∧ ∀ (i : Nat) (en : DictEntry), es[i]? = some en → ∃ p d, ks[i]? = some (p, d) ∧ ∀ x, RelV x en.key → At K H (dL p) x
theorem paired_get {α β : Type} {F : α → β → Prop} : ∀ {l₁ : List α} {l₂ : List β}, Paired F l₁ l₂ → ∀ (i : Nat) b, l₂[i]? = some b → ∃ a, l₁[i]? = some a ∧ F a b
  | _, _, .nil, i, b, e => by simp at e
  | _, _, .cons h t, 0, b, e => by simp at e; subst e; exact ⟨_, rfl, h⟩
  | _, _, .cons h t, i + 1, b, e => by
    obtain ⟨a, h1, h2⟩ := paired_get t i b (by simpa using e)
    exact ⟨a, by simpa using h1, h2⟩
theorem ens_of {P : Program} {w : World} {K : PySem.W.Frag} {H : Hp} {a : Addr} {ks : List (Pl × D)} (h : PlAt P w K H H a ks) : ∃ es ep, EnsP P w K H a es ep ks := by
  obtain ⟨⟨es, ep, xs, h1, h2, h3, h4⟩, h5, h6⟩ := h
  have key : ∀ (i : Nat) (en : DictEntry), es[i]? = some en → ∃ x : Tri, xs[i]? = some x ∧ en.key = .ref x.2.1 := by
    intro i en e
    rw [← Array.getElem?_toList, h2, List.getElem?_map, List.getElem?_map] at e
    cases q : xs[i]? with
    | none => rw [q] at e; cases e
    | some x =>
      rw [q] at e
      cases e
      exact ⟨x, rfl, rfl⟩
  refine ⟨es, ep, h1, ?_, h5, fun i en e => let ⟨x, _, q⟩ := key i en e; ⟨_, q⟩, fun i en e => ?_⟩
  · rw [← Array.length_toList, h2, List.length_map, List.length_map, Paired.length h4]
  · obtain ⟨x, hx, q⟩ := key i en e
    obtain ⟨⟨p, d⟩, e1, e2, e3, _⟩ := paired_get h4 i x hx
    refine ⟨p, d, e1, fun v rv => ?_⟩
    rw [q] at rv
    cases v with
    | ref c =>
      have : c = x.2.1 := by have z : Value.ref x.2.1 = Value.ref c := rv
                             injection z with z; exact z.symm
      rw [this]; exact e3
    | _ => first | (cases rv; done) | (obtain ⟨_, z⟩ := rv; cases z)
def iKeysP (P : Program) (w : World) (K : PySem.W.Frag) (td : TE) : TI := fun σ H R => td σ H fun x H1 => ∃ d es ep ks, x = .ref d ∧ EnsP P w K H1 d es ep ks ∧ R (ItP d es ep) H1
theorem pi_keysP {X : Cx} {tg e : Expr} {td : TE} (he : PE X e td) : PI X tg e (iKeysP X.prog X.w X.K td) := by
  refine ⟨fun pins s σ H R I h => ?_⟩
  refine thn (he.run pins s σ H _ I h) fun u s1 ⟨x, H1, I1, rx, d, es, ep, ks, ex, en, q⟩ => ?_
  subst ex
  obtain rfl : u = Value.ref d := rx
  obtain ⟨o, hgd, hx, hdt⟩ := raw_at I1 en.1
  exact iter_keys en.2.2.1 hgd hx hdt (pi_one (tk := s1.toks) I1 _ (turn_keysP _ en.2.2.2.1) ⟨_, Heap.get?_push_size _ rfl, rfl, rfl⟩ q)
theorem for_keysP {P : Program} {w : World} {K : PySem.W.Frag} {a : Addr} {es : Array DictEntry} {ep : Nat} {ks : List (Pl × D)} {g : TG} {tb : TS} {D : Ends} {σ : L2.St} {H : Hp} (en : EnsP P w K H a es ep ks) (Pv : Nat → L2.St → Hp → Prop) (h0 : Pv 0 σ H) (hl : ∀ i σ H', Pv i σ H' → H' a = some (RawO a es ep) ∧ Same H H')
    (hs : ∀ i p v x σ H', ks[i]? = some (p, v) → At K H' (dL p) x → Pv i σ H' → g x σ H' fun σ2 H2 => tb { D with nx := Pv (i + 1), ct := Pv (i + 1), bk := D.nx } σ2 H2) (hd : ∀ σ H', Pv ks.length σ H' → D.nx σ H') :
    ∃ W : Nat → Nat → L2.St → Hp → Prop, (∃ m, W 0 m σ H) ∧ ∀ i m σ H, W i m σ H →
      ((ItP a es ep).stop i H ∧ D.nx σ H) ∨ ((ItP a es ep).go i H ∧ ∃ N : L2.St → Hp → Prop, (∀ σ' H', N σ' H' → ∃ m', m' < m ∧ W (i + 1) m' σ' H') ∧ ∀ x H', (ItP a es ep).yld i H x H' → g x σ H' fun σ2 H2 => tb { D with nx := N, ct := N, bk := D.nx } σ2 H2) := by
  obtain ⟨_, hsz, _, _, hen⟩ := en
  refine ⟨fun i m σ H => m = es.size - i ∧ i ≤ es.size ∧ Pv i σ H, ⟨es.size, by simp, Nat.zero_le _, h0⟩, ?_⟩
  rintro i m σ H1 ⟨rfl, hi, p⟩
  obtain ⟨q, sm⟩ := hl i σ H1 p
  by_cases hlt : i < es.size
  · refine .inr ⟨⟨q, hlt⟩, Pv (i + 1), fun σ' H' p' => ⟨es.size - (i + 1), by omega, rfl, hlt, p'⟩, fun x H' y => ?_⟩
    obtain ⟨rfl, en, he, rx⟩ := y
    obtain ⟨pl, dv, e1, e2⟩ := hen i en he
    exact hs i pl dv x σ H' e1 ((e2 x rx).same sm) p
  · have e : i = es.size := by omega
    subst e
    exact .inl ⟨⟨q, Nat.le_refl _⟩, hd σ H1 (hsz ▸ p)⟩
end CM
set_option Elab.async false
set_option linter.all false
set_option maxRecDepth 100000
set_option maxHeartbeats 4000000
/-! CMF: list(d), len(d), dict(pairs) as expressions; data compared; a loop over a dict that may hand back. -/
namespace CM
open PySem L2
open PyProof.Rows (envOfC)

/-! ### list(d), len(d), dict(..) -/
theorem call_listPl {X : Cx} (hc : X.calm = true) : CallR X (.type "list") (fun xs H Q => ∃ d ks, xs = [V.ref d] ∧ PlAt X.prog X.w X.K H H d ks ∧ ∀ (p : Addr) (ys : List V) (H' : Hp), H p = none → Same H H' → H' p = some (.lst ys) → AtL X.K H' (ks.map fun k => dL k.1) ys → Q (.ref p) H') := by
  intro pins s σ H xs us Q I r h
  obtain ⟨d, ks, rfl, g, q⟩ := h
  obtain ⟨u, rfl, rx⟩ := r.one
  cases (show u = Value.ref d from rx)
  obtain ⟨es, ep, xs, h1, hd, hp, hn, ⟨o, ho, hx, hdt⟩, he⟩ := plAt_is I (Same.refl _) g
  have l1 : es.size = xs.length := by rw [← Array.length_toList, he, List.length_map, List.length_map]
  have l2 : ks.length = xs.length := Paired.length hp
  have l3 := g.sz
  refine PySem.W.kdl_call (kdl_raw g.sys hx hdt) (I.ok.hd hc) ho (by omega) fun h' tk acc' c' kp e it => ?_
  have ea : acc'.toList = xs.map fun x => Value.ref x.2.1 := by
    refine List.ext_getElem (by rw [Array.length_toList, it.1, l1, List.length_map]) fun j lt lt2 => ?_
    obtain ⟨en, at_, same⟩ := it.2 j _ (Array.getElem?_eq_getElem (by simpa using lt))
    rw [← Array.getElem?_toList, he] at at_
    simp only [List.getElem?_map, Option.map_eq_some_iff] at at_
    obtain ⟨_, ⟨x, gx, rfl⟩, rfl⟩ := at_
    rw [Array.getElem_toList, same, List.getElem_map, (List.getElem?_eq_some_iff.mp gx).2]
    rfl
  have rv : Vals ((xs.map fun x => x.2.1).map V.ref) acc'.toList := by
    have e2 : (xs.map fun x => Value.ref x.2.1) = (xs.map fun x => x.2.1).map Value.ref := by rw [List.map_map]; rfl
    rw [ea, e2]; exact vals_refs _
  have hz : ((xs.map fun x => x.2.1).map V.ref).length ≤ sizeLine := by rw [List.length_map, List.length_map]; omega
  have fr := I.hok.fresh (Nat.le_refl s.heap.objs.size)
  refine ⟨.ref s.heap.objs.size, _, I.laid (t' := tk) (o := .lst ((xs.map fun x => x.2.1).map V.ref)) kp (Nat.le_refl _) ?_, rfl, q _ _ _ fr (same_new fr) upd_same ?_⟩
  · exact ⟨hz, acc'.toList, c', rv, by rw [Array.toArray_toList]; exact e⟩
  · have key : ∀ {ks : List (Pl × D)} {xs : List Tri}, Paired (EntR X.K H) ks xs → AtL X.K H (ks.map fun k => dL k.1) ((xs.map fun x => x.2.1).map V.ref) := by
      intro ks xs r
      induction r with
      | nil => exact AtL.nil
      | cons e t ih => exact AtL.cons e.2.1 ih
    exact (key hp).same (same_new fr)
theorem call_lenPl {X : Cx} : CallR X (.builtin "len") (fun xs H Q => ∃ d ks, xs = [V.ref d] ∧ PlAt X.prog X.w X.K H H d ks ∧ Q (.int ks.length) H) := by
  intro pins s σ H xs us Q I r h
  obtain ⟨d, ks, rfl, g, q⟩ := h
  obtain ⟨u, rfl, rx⟩ := r.one
  cases (show u = Value.ref d from rx)
  obtain ⟨es, ep, xs, h1, hd, hp, hn, _, he⟩ := plAt_is I (Same.refl _) g
  have l2 : ks.length = xs.length := Paired.length hp
  have l3 := g.sz
  refine PyProof.Rows.call_len_slot (n := (ks.length : Int)) hd.typeIs PySem.F.slot_dict_len (fun Q' hq => len_keyed g.sys ⟨_, hd, rfl⟩ ?_) (by omega) (by rw [sizeLine_eq] at l3; omega) ⟨.int ks.length, H, I.tok _, ⟨_, rfl⟩, q⟩
  rw [pairsH_length, List.length_map, ← l2]
  exact hq
section
variable {X : Cx} {ρ : Kn} {e : Expr} {ks : List (Pl × D)} {pos p : Pos} {as : List Pl} {d : D}
theorem pdl_listPl (hc : X.calm = true) (hm : X.mg "list" = none) (h : PD X ρ e (dPl X.prog X.w X.K ks)) (hg : Gl X "list" := by exact rfl) (hs : starEach [e] X.env = [(false, eval e X.env)] := by rfl) : PDL X ρ (.Call (.Name "list" p) [e] [] pos) (ks.map fun k => dL k.1) :=
  pe_w (pe_callTy (call_listPl hc) hg hm (by decide +kernel) (pds_cons h pds_nil hs) (by decide) (by decide) hs rfl) fun σ H Q q => ⟨q.1, fun vs H1 e1 a1 => by
    obtain ⟨v, rfl, a⟩ := atL_one a1
    obtain ⟨c, rfl, g⟩ := dPl_at a
    exact ⟨c, ks, rfl, g, fun p ys H2 n e2 h2 al => q.2 p ys H2 (Same.free e1 n) (e1.trans e2) h2 al⟩⟩
theorem pd_lenPl (hm : X.mg "len" = none) (h : PD X ρ e (dPl X.prog X.w X.K ks)) (hg : Gl X "len" := by exact rfl) (hs : starEach [e] X.env = [(false, eval e X.env)] := by rfl) : PD X ρ (.Call (.Name "len" p) [e] [] pos) (.int (ks.length : Int)) :=
  pe_w (pe_callB call_lenPl hg hm (by decide +kernel) (pds_cons h pds_nil hs) (by decide) (by decide) hs rfl) fun σ H Q q => ⟨q.1, fun vs H1 e1 a1 => by
    obtain ⟨v, rfl, a⟩ := atL_one a1
    obtain ⟨c, rfl, g⟩ := dPl_at a
    exact ⟨c, ks, rfl, g, q.2 _ H1 e1 (by simp only [At])⟩⟩
/-- known = dict([..]): some dict of just these places -/
theorem sr_known (i : Nat) {y : Str} {rest : List Stmt} {py spos : Pos} (hc : X.calm = true) (hu : X.A.units + 10 < cLine) (hm : X.mg "dict" = none) (h : PDL X ρ e (as.map fun p => .tup [dL p, .bl true])) (hsz : as.length ≤ 8000000)
    (t : ∀ kl : List Pl, (∀ p, p ∈ kl ↔ p ∈ as) → SR X (ρ.set i (some (dPl X.prog X.w X.K (kl.map fun p => (p, .bl true))))) rest d) (nd : X.N.Nodup) (hN : X.N[i]? = some y := by rfl) (hx : Loc X.env.scope y := by first | exact Or.inl rfl | exact Or.inr rfl)
    (hf : X.fn y = true ∨ X.env.scope.names.lookup y = some .local := by first | exact .inl rfl | exact .inr rfl)
    (hg : Gl X "dict" := by exact rfl) (hs : starEach [e] X.env = [(false, eval e X.env)] := by rfl) (hsw : swapsWithSole [.Name y py] (.Call (.Name "dict" p) [e] [] pos) spos.line X.env = pure false := by rfl) (hw : swappedStores [.Name y py] (.Call (.Name "dict" p) [e] [] pos) X.env = pure none := by rfl)
    (h1 : (assignEach [.Name y py] X.env).map (·.2) = [assign (.Name y py) X.env] := by rfl) : SR X ρ (.Assign [.Name y py] (.Call (.Name "dict" p) [e] [] pos) spos :: rest) d := by
  refine pss_w (pss_cons (ps_asg (pe_callTy (call_dictPl hc hu) hg hm (by decide +kernel) (pds_cons (pd_l h) pds_nil hs) (by decide) (by decide) hs rfl) (pg_name nd hN hx hf) hsw hw h1)
    (u := fun D σ H => ∃ kl : List Pl, (∀ p, p ∈ kl ↔ p ∈ as) ∧ tR X.K (ρ.set i (some (dPl X.prog X.w X.K (kl.map fun p => (p, .bl true))))) d D σ H) ⟨fun pins s σ H D I ⟨kl, hk, q⟩ => (t kl hk).run pins s σ H D I q⟩) fun D σ H q => ⟨q.1, fun vs H1 e1 a1 => ?_⟩
  obtain ⟨v, rfl, a⟩ := atL_one a1
  exact ⟨as, v, rfl, a, hsz, fun c H2 kl n e2 g hk => ⟨kl, hk, ((q.1.same (e1.trans e2)).set (at_dPl g)), fun v H3 e3 a3 => q.2 v H3 ((e1.trans e2).trans e3) a3⟩⟩
end

/-! ### data compared -/
mutual
def pdD : D → PyData
  | .non => .none
  | .bl b => .bool b
  | .int i => .int i
  | .str x => .str x
  | .tup ds => .tuple (pdDs ds)
  | .lst ds => .list (pdDs ds)
  | _ => .none
def pdDs : List D → List PyData
  | [] => []
  | d :: ds => pdD d :: pdDs ds
end
mutual
def datD : D → Bool
  | .non => true
  | .bl _ => true
  | .int _ => true
  | .str _ => true
  | .tup ds => datDs ds
  | .lst ds => datDs ds
  | _ => false
def datDs : List D → Bool
  | [] => true
  | d :: ds => datD d && datDs ds
end
section
variable {K : PySem.W.Frag} {H : Hp}
mutual
theorem dp_of : ∀ {d : D} {v : V}, datD d = true → At K H d v → Dp K H v (pdD d)
  | .non, v, _, h => by simp only [At] at h; subst h; exact .non
  | .bl b, v, _, h => by simp only [At] at h; subst h; exact .bl b
  | .int i, v, _, h => by simp only [At] at h; subst h; exact .int i
  | .str x, v, _, h => by simp only [At] at h; subst h; exact .str x
  | .tup ds, v, k, h => by
    simp only [At] at h
    obtain ⟨a, xs, rfl, hx, al⟩ := h
    exact .tup hx (dps_of (by simpa only [datD] using k) al)
  | .lst ds, v, k, h => by
    simp only [At] at h
    obtain ⟨a, xs, rfl, hx, al⟩ := h
    exact .lst hx (dps_of (by simpa only [datD] using k) al)
  | .rul _, _, k, _ => by simp [datD] at k
  | .adr _, _, k, _ => by simp [datD] at k
  | .ob _, _, k, _ => by simp [datD] at k
theorem dps_of : ∀ {ds : List D} {vs : List V}, datDs ds = true → AtL K H ds vs → DpAll K H vs (pdDs ds)
  | [], vs, _, h => by simp only [AtL] at h; subst h; exact .nil
  | d :: ds, vs, k, h => by
    simp only [AtL] at h
    obtain ⟨x, r, rfl, h2, h3⟩ := h
    simp only [datDs, Bool.and_eq_true] at k
    exact .cons (dp_of k.1 h2) (dps_of k.2 h3)
end
end
theorem cmp_eqX {X : Cx} {d e : D} (hu : X.A.units + 64 < cLine) (k1 : datD d = true) (k2 : datD e = true) (s1 : SeqAt.shaped (pdD d) = true) (s2 : SeqAt.shaped (pdD e) = true) : CmpD X .Eq d e (PyData.eqv (pdD d) (pdD e)) :=
  ⟨_, op_eqD hu, fun x y H Q a1 a2 q => ⟨pdD d, pdD e, dp_of k1 a1, dp_of k2 a2, s1, s2, q⟩⟩
theorem cmp_neX {X : Cx} {d e : D} (hu : X.A.units + 64 < cLine) (k1 : datD d = true) (k2 : datD e = true) (s1 : SeqAt.shaped (pdD d) = true) (s2 : SeqAt.shaped (pdD e) = true) : CmpD X .NotEq d e (!PyData.eqv (pdD d) (pdD e)) :=
  ⟨_, op_neD hu, fun x y H Q a1 a2 q => ⟨pdD d, pdD e, dp_of k1 a1, dp_of k2 a2, s1, s2, q⟩⟩
theorem dat_dF (f : Option Fate) : datD (dF f) = true := by cases f <;> rfl
theorem dat_dH (h : Hf) : datD (dH h) = true := by simp [dH, datD, datDs, dat_dF]
theorem dat_dHs (a b : Hf) : datD (dHs a b) = true := by simp [dHs, datD, datDs, dat_dH]
theorem dat_dS (s : Sta) : datD (dS s) = true := by simp [dS, datD, datDs, dat_dHs]
theorem dat_dP (p : Option Pst) : datD (dP p) = true := by cases p <;> simp [dP, datD, datDs, dat_dHs]
theorem dat_dL (p : Pl) : datD (dL p) = true := by simp [dL, datD, datDs, dat_dS, dat_dP]
theorem dat_dLs : ∀ ps : List Pl, datDs (ps.map dL) = true
  | [] => rfl
  | p :: ps => by simp [datDs, dat_dL, dat_dLs ps]
theorem lay_fate (f : Fate) : (PyData.str f.str).canLay0 = true := by cases f <;> decide +kernel
theorem lay_step (f : Step) : (PyData.str f.str).canLay0 = true := by cases f <;> decide +kernel
theorem lay_deed (f : Deed) : (PyData.str f.str).canLay0 = true := by cases f <;> decide +kernel
theorem lay_dF (f : Option Fate) : (pdD (dF f)).canLay0 = true := by cases f with
  | none => rfl
  | some f => exact lay_fate f
theorem lay_dH (h : Hf) : (pdD (dH h)).canLay0 = true := by simp [dH, pdD, pdDs, PyData.canLay0, PyData.canLayAll0, lay_dF]
theorem lay_dHs (a b : Hf) : (pdD (dHs a b)).canLay0 = true := by simp [dHs, pdD, pdDs, PyData.canLay0, PyData.canLayAll0, lay_dH]
theorem lay_dS (s : Sta) : (pdD (dS s)).canLay0 = true := by
  have h := lay_step s.s
  simp only [dS, pdD, pdDs, PyData.canLay0, PyData.canLayAll0, lay_dHs] at h ⊢
  simp [h]
theorem lay_dP (p : Option Pst) : (pdD (dP p)).canLay0 = true := by cases p with
  | none => rfl
  | some p => simp [dP, pdD, pdDs, PyData.canLay0, PyData.canLayAll0, lay_dHs]
theorem lay_dL (p : Pl) : (pdD (dL p)).canLay0 = true := by simp [dL, pdD, pdDs, PyData.canLay0, PyData.canLayAll0, lay_dS, lay_dP]
theorem pdep_dF (f : Option Fate) : (pdD (dF f)).depth = 0 := by cases f <;> rfl
theorem pdep_dH (h : Hf) : (pdD (dH h)).depth = 1 := by simp [dH, pdD, pdDs, PyData.depth, PyData.depthAll, pdep_dF]
theorem pdep_dHs (a b : Hf) : (pdD (dHs a b)).depth = 2 := by simp [dHs, pdD, pdDs, PyData.depth, PyData.depthAll, pdep_dH]
theorem pdep_dS (s : Sta) : (pdD (dS s)).depth = 3 := by simp [dS, pdD, pdDs, PyData.depth, PyData.depthAll, pdep_dHs]
theorem pdep_dP (p : Option Pst) : (pdD (dP p)).depth ≤ 3 := by cases p <;> simp [dP, pdD, pdDs, PyData.depth, PyData.depthAll, pdep_dHs]
theorem pdep_dL (p : Pl) : (pdD (dL p)).depth ≤ 5 := by
  have h := pdep_dP p.pa
  simp only [dL, pdD, pdDs, PyData.depth, PyData.depthAll, pdep_dS]
  omega
theorem lay_dLs : ∀ ps : List Pl, PyData.canLayAll0 (pdDs (ps.map dL)) = true
  | [] => rfl
  | p :: ps => by simp [pdDs, PyData.canLayAll0, lay_dL, lay_dLs ps]
theorem pdep_dLs : ∀ ps : List Pl, PyData.depthAll (pdDs (ps.map dL)) ≤ 5
  | [] => by simp [pdDs, PyData.depthAll]
  | p :: ps => by
    have h1 := pdep_dL p
    have h2 := pdep_dLs ps
    simp only [List.map_cons, pdDs, PyData.depthAll]
    omega
theorem shp_Ls (ps : List Pl) : SeqAt.shaped (pdD (.lst (ps.map dL))) = true := by
  have h := pdep_dLs ps
  simp only [SeqAt.shaped, pdD, PyData.canLay0, PyData.depth, lay_dLs, Bool.true_and, decide_eq_true_eq]
  omega
theorem shp_nil : SeqAt.shaped (pdD (.lst [])) = true := shp_Ls []
/-- places == [], places != [] -/
theorem cmp_eqN {X : Cx} {ps : List Pl} (hu : X.A.units + 64 < cLine) : CmpD X .Eq (.lst (ps.map dL)) (.lst []) ps.isEmpty := by
  have h := cmp_eqX (X := X) (d := .lst (ps.map dL)) (e := .lst []) hu (by simp only [datD]; exact dat_dLs ps) rfl (shp_Ls ps) shp_nil
  have e : PyData.eqv (pdD (.lst (ps.map dL))) (pdD (.lst [])) = ps.isEmpty := by cases ps <;> simp [pdD, pdDs, PyData.eqv, PyData.eqvAll]
  rw [e] at h; exact h
theorem cmp_neN {X : Cx} {ps : List Pl} (hu : X.A.units + 64 < cLine) : CmpD X .NotEq (.lst (ps.map dL)) (.lst []) (!ps.isEmpty) := by
  have h := cmp_neX (X := X) (d := .lst (ps.map dL)) (e := .lst []) hu (by simp only [datD]; exact dat_dLs ps) rfl (shp_Ls ps) shp_nil
  have e : PyData.eqv (pdD (.lst (ps.map dL))) (pdD (.lst [])) = ps.isEmpty := by cases ps <;> simp [pdD, pdDs, PyData.eqv, PyData.eqvAll]
  rw [e] at h; exact h

/-! ### for place in d: .. may hand back -/
section
variable {X : Cx} {ρ : Kn} {ks : List (Pl × D)} {d : D} {tg iter : Expr} {body rest : List Stmt} {pos : Pos}
theorem sr_forK (i : Nat) (c : Pl → Bool) (hc : X.calm = true) (hi : PD X ρ iter (dPl X.prog X.w X.K ks)) (hp : PassesOwn (model X.prog X.w) X.A X.env X.xe) (hg : PG X tg (gName i))
    (hT : ∀ p, p ∈ ks.map (·.1) → c p = true → ∃ ρ3, Le ρ ρ3 ∧ SN X (ρ.set i (some (dL p))) body ρ3) (hF : ∀ j p, (ks.map (·.1))[j]? = some p → (∀ q ∈ (ks.map (·.1)).take j, c q = true) → c p = false → SR X (ρ.set i (some (dL p))) body d)
    (hr : (∀ q ∈ ks.map (·.1), c q = true) → SR X ρ rest d) (hs : ∀ x, foldedSetIterable iter X.env x = pure x := by intro _; rfl) : SR X ρ (.For tg iter body [] pos :: rest) d := by
  refine pss_w (pss_cons (ps_for (tb := fun D σ H => (∃ p ρ3, p ∈ ks.map (·.1) ∧ Le ρ ρ3 ∧ SN X (ρ.set i (some (dL p))) body ρ3 ∧ tN X.K (ρ.set i (some (dL p))) ρ3 D σ H) ∨ ∃ p, SR X (ρ.set i (some (dL p))) body d ∧ tR X.K (ρ.set i (some (dL p))) d D σ H) hp hc (pi_keysP hi) hg
    ⟨fun pins s σ H D I q => by
      rcases q with ⟨p, ρ3, _, _, hb, q⟩ | ⟨p, hb, q⟩
      · exact hb.run pins s σ H D I q
      · exact hb.run pins s σ H D I q⟩ hs) (u := fun D σ H => (∀ q ∈ ks.map (·.1), c q = true) ∧ tR X.K ρ d D σ H) ⟨fun pins s σ H D I ⟨ha, q⟩ => (hr ha).run pins s σ H D I q⟩) fun D σ H q => ⟨q.1, fun v H1 e1 a1 => ?_⟩
  obtain ⟨a, rfl, g⟩ := dPl_at a1
  obtain ⟨es, ep, en⟩ := ens_of g
  refine ⟨a, es, ep, ks, rfl, en, ?_⟩
  refine for_keysP (g := gName i) (tb := fun D σ H => (∃ p ρ3, p ∈ ks.map (·.1) ∧ Le ρ ρ3 ∧ SN X (ρ.set i (some (dL p))) body ρ3 ∧ tN X.K (ρ.set i (some (dL p))) ρ3 D σ H) ∨ ∃ p, SR X (ρ.set i (some (dL p))) body d ∧ tR X.K (ρ.set i (some (dL p))) d D σ H) en
    (fun n σ H' => Same H1 H' ∧ EA X.K H' σ ρ ∧ ∀ q ∈ (ks.map (·.1)).take n, c q = true) ⟨Same.refl _, q.1.same e1, fun q hq => by simp at hq⟩ (fun n σ H' p => ⟨p.1 _ _ en.1, p.1⟩) (fun n p v x σ' H' hn ax pv => ?_) (fun σ' H' pv => ?_)
  · obtain ⟨sm, ea, ha⟩ := pv
    have hk : (ks.map (·.1))[n]? = some p := by rw [List.getElem?_map, hn]; rfl
    have hm := List.mem_of_getElem? hk
    cases hcp : c p with
    | true =>
      obtain ⟨ρ3, hle, hb⟩ := hT p hm hcp
      refine .inl ⟨p, ρ3, hm, hle, hb, ea.set ax, fun σ3 H3 e3 ea3 => ⟨sm.trans e3, ea3.le hle, fun q hq => ?_⟩⟩
      rw [filter_snoc hk] at hq
      rcases List.mem_append.mp hq with z | z
      · exact ha q z
      · rw [List.mem_singleton.mp z]; exact hcp
    | false => exact .inr ⟨p, hF n p hk ha hcp, ea.set ax, fun v H3 e3 a3 => q.2 v H3 (e1.trans (sm.trans e3)) a3⟩
  · obtain ⟨sm, ea, ha⟩ := pv
    refine ⟨fun q hq => ha q ?_, ea, fun v H3 e3 a3 => q.2 v H3 (e1.trans (sm.trans e3)) a3⟩
    rw [List.take_of_length_le (by rw [List.length_map]; exact Nat.le_refl _)]
    exact hq
end
end CM
set_option Elab.async false
set_option linter.all false
set_option maxRecDepth 100000
set_option maxHeartbeats 4000000
/-! CMS: slices, is True, a pair stored at once. -/
namespace CM
open PySem L2
open PyProof.Rows (envOfC)

def cutD (ds : List D) (lo hi : Option Int) : List D := (ds.drop (HT.sIx ds.length 0 lo)).take (HT.sIx ds.length ds.length hi - HT.sIx ds.length 0 lo)
theorem AtL.cut {K : PySem.W.Frag} {H : Hp} {ds : List D} {vs : List V} (h : AtL K H ds vs) (lo hi : Option Int) : AtL K H (cutD ds lo hi) (cutV vs lo hi) := by
  unfold cutD cutV
  rw [h.length]
  exact (h.drop _).take _
theorem cutD_length (xs : List D) (lo hi : Option Int) : (cutD xs lo hi).length ≤ xs.length := by
  unfold cutD
  rw [List.length_take, List.length_drop]
  omega
def tDO (K : PySem.W.Frag) (ρ : Kn) (o : Option Int) : TO := fun σ H Q => EA K H σ ρ ∧ ∀ H', Same H H' → Q o H'
abbrev PDO (X : Cx) (ρ : Kn) (e : Option Expr) (o : Option Int) : Prop := PO X e (tDO X.K ρ o)
section
variable {X : Cx} {ρ : Kn} {e a b : Expr} {lo hi : Option Expr} {l u : Option Int} {ds : List D} {pos p2 : Pos} {i : Int} {z : Str}
theorem po_w {e : Option Expr} {t t' : TO} (h : PO X e t) (k : ∀ σ H Q, t' σ H Q → t σ H Q) : PO X e t' := ⟨fun pins s σ H Q I q => h.run pins s σ H Q I (k σ H Q q)⟩
theorem pdo_none : PDO X ρ none none := po_w po_none fun σ H Q q => q.2 H (Same.refl H)
theorem pdo_some (h : PD X ρ e (.int i)) : PDO X ρ (some e) (some i) := po_w (po_some h) fun σ H Q q => ⟨q.1, fun v H1 e1 a1 => ⟨i, by simpa only [At] using a1, q.2 H1 e1⟩⟩
/-- t[lo:hi] -/
theorem pd_slT (n : Nat) (es : List D) (h : PD X ρ e (.tup ds)) (hl : PDO X ρ lo l) (hu : PDO X ρ hi u) (hn : ds.length = n := by rfl) (q : cutD ds l u = es := by rfl) (hw : ¬ (HT.sIx n 0 l = 0 ∧ HT.sIx n n u = n) := by decide) : PD X ρ (.Subscript e (.Slice lo hi none p2) pos) (.tup es) := by
  subst hn q
  exact pe_w (pe_slice sl_tup h hl hu) fun σ H Q q => ⟨q.1, fun v H1 e1 a1 => ⟨q.1.same e1, fun H2 e2 => ⟨q.1.same (e1.trans e2), fun H3 e3 => by
    simp only [At] at a1
    obtain ⟨c, xs, rfl, hx, al⟩ := a1
    refine ⟨c, xs, rfl, sqT_same (e2.trans e3) hx, by rw [al.length]; exact hw, fun p hp => ?_⟩
    obtain ⟨e4, a4⟩ := at_new hp ((al.same (e2.trans e3)).cut l u)
    exact q.2 _ _ (((e1.trans e2).trans e3).trans e4) a4⟩⟩⟩
/-- xs[lo:hi] of a list -/
theorem pdl_slL (h : PD X ρ e (.lst ds)) (hl : PDO X ρ lo l) (hu : PDO X ρ hi u) : PDL X ρ (.Subscript e (.Slice lo hi none p2) pos) (cutD ds l u) :=
  pe_w (pe_slice sl_list h hl hu) fun σ H Q q => ⟨q.1, fun v H1 e1 a1 => ⟨q.1.same e1, fun H2 e2 => ⟨q.1.same (e1.trans e2), fun H3 e3 => by
    simp only [At] at a1
    obtain ⟨c, xs, rfl, hx, al⟩ := a1
    refine ⟨c, xs, rfl, (e2.trans e3).seq hx, fun p hp => ?_⟩
    have e4 : Same H3 (upd H3 p (.lst (cutV xs l u))) := same_new hp
    exact q.2 _ _ _ (Same.free ((e1.trans e2).trans e3) hp) (((e1.trans e2).trans e3).trans e4) upd_same (((al.same (e2.trans e3)).cut l u).same e4)⟩⟩⟩
/-- s[lo:hi] of a text -/
theorem pd_slS (h : PD X ρ e (.str z)) (hl : PDO X ρ lo l) (hu : PDO X ρ hi u) (hz : z.length ≤ 1000) : PD X ρ (.Subscript e (.Slice lo hi none p2) pos) (.str (cutS z l u)) :=
  pe_w (pe_slice sl_str h hl hu) fun σ H Q q => ⟨q.1, fun v H1 e1 a1 => ⟨q.1.same e1, fun H2 e2 => ⟨q.1.same (e1.trans e2), fun H3 e3 => by
    simp only [At] at a1
    exact ⟨z, a1, Nat.le_trans hz (by decide), q.2 _ H3 ((e1.trans e2).trans e3) (by simp only [At])⟩⟩⟩⟩
/-- xs[::-1] -/
theorem pdl_rev {k : Nat} {p1 p3 p4 : Pos} (h : PD X ρ e (.lst ds)) : PDL X ρ (.Subscript e (.Slice none none (some (.UnaryOp .USub (.Constant (.int 1) k p1) p3)) p4) pos) ds.reverse :=
  pe_w (pe_revL h) fun σ H Q q => ⟨q.1, fun v H1 e1 a1 => by
    simp only [At] at a1
    obtain ⟨c, xs, rfl, hx, al⟩ := a1
    refine ⟨c, xs, rfl, hx, fun p hp => ?_⟩
    have e4 : Same H1 (upd H1 p (.lst xs.reverse)) := same_new hp
    exact q.2 _ _ _ (Same.free e1 hp) (e1.trans e4) upd_same (al.reverse.same e4)⟩
/-- -n -/
theorem pd_neg {p1 p3 : Pos} {k : Nat} {n : Int} : PD X ρ (.UnaryOp .USub (.Constant (.int n) k p1) p3) (.int (-n)) :=
  pe_w (pe_un un_neg pe_int) fun σ H Q q => ⟨n, rfl, q.2 _ H (Same.refl H) (by simp only [At])⟩
theorem cmp_isB {k j : Bool} : CmpD X .Is (.bl k) (.bl j) (decide (k = j)) :=
  ⟨_, op_isBl, fun x y H Q a1 a2 q => by
    simp only [At] at a1 a2
    exact ⟨k, j, a1, a2, q⟩⟩
theorem cmp_neB {k j : Bool} : CmpD X .NotEq (.bl k) (.bl j) (!decide (k = j)) :=
  ⟨_, op_ne, fun x y H Q a1 a2 q => by
    simp only [At] at a1 a2
    subst a1 a2
    exact ⟨rfl, by
      have e : decide (V.bl k = V.bl j) = decide (k = j) := by cases k <;> cases j <;> decide
      rw [e]; exact q⟩⟩
theorem plain_list {h : Heap} {a : Addr} {its : Array Value} (p : PlainL h a its) : ∃ n sl, h.get? a = some { cls := .type "list", dict := none, data := .seq its n, slots := sl } := by
  obtain ⟨o, n, g, c, d, e⟩ := p
  exact ⟨n, o.slots, by rw [g, ← c, ← d, ← e]⟩
/-- xs + ys of lists that stand -/
theorem op_catL : OpR X (binaryOp .Add) (fun x y H Q => ∃ l b xs zs, x = .ref l ∧ y = .ref b ∧ SqL X.K H l xs ∧ SqL X.K H b zs ∧ xs.length + zs.length ≤ sizeLine ∧ ∀ p, H p = none → Q (.ref p) (upd H p (.lst (xs ++ zs)))) := by
  rintro pins s σ H _ _ v u Q I rv ru ⟨l, b, xs, zs, rfl, rfl, hl, hb, fit, q⟩
  cases (show v = Value.ref l from rv)
  cases (show u = Value.ref b from ru)
  obtain ⟨its, vx, px, -⟩ := I.list hl
  obtain ⟨jts, vz, pz, -⟩ := I.list hb
  obtain ⟨n, sl, gl⟩ := plain_list px
  obtain ⟨m, sl', gb⟩ := plain_list pz
  refine PySem.concat_meets ⟨_, gl, rfl⟩ ⟨_, gb, rfl⟩ noFill_list_add seq_list_add PySem.F.slot_list_add PySem.F.entry_list_add (PySem.F.args_list_add_2 _ _)
    (PyProof.Rows.list_addW l b its.toArray jts.toArray n m none none sl sl' (by rw [List.size_toArray, List.size_toArray, ← vx.length, ← vz.length]; exact fit)) ⟨gl, gb, ?_⟩
  rw [List.append_toArray]
  exact ⟨.ref _, _, I.lnew (t' := s.toks) (vx.append vz) (List.length_append ▸ fit), rfl, q _ I.fresh⟩
theorem pdl_catL {fs : List D} (ha : PD X ρ a (.lst ds)) (hb : PD X ρ b (.lst fs)) (hl : ds.length + fs.length ≤ 10000000) : PDL X ρ (.BinOp a .Add b pos) (ds ++ fs) :=
  pe_w (pe_op op_catL ha hb) fun σ H Q q => ⟨q.1, fun v H1 e1 a1 => ⟨q.1.same e1, fun u H2 e2 a2 => by
    simp only [At] at a1 a2
    obtain ⟨c, xs, rfl, hx, al⟩ := a1
    obtain ⟨c2, ys, rfl, hy, bl⟩ := a2
    refine ⟨c, c2, xs, ys, rfl, rfl, e2.seq hx, hy, by rw [al.length, bl.length]; exact Nat.le_trans hl (by decide), fun p hp => ?_⟩
    have e4 : Same H2 (upd H2 p (.lst (xs ++ ys))) := same_new hp
    exact q.2 _ _ _ (Same.free (e1.trans e2) hp) ((e1.trans e2).trans e4) upd_same (((al.same e2).append bl).same e4)⟩⟩
end

/-! ### a, found = x, [] -/
section
variable {X : Cx} {ρ : Kn} {a b : Expr} {d d2 : D} {es : List D} {rest : List Stmt} {pos pt pt2 px py pl : Pos} {kt k2 : Nat} {x y : Str}
theorem srl_ownP (i j : Nat) (ha : PD X ρ a d) (nd : X.N.Nodup) (h : ∀ l, PSs X rest (tOL X.K l ((ρ.set i (some d)).set j (some (.adr l))) [] es)) (hc : X.calm = true) (hij : i ≠ j := by decide) (hi : X.N[i]? = some x := by rfl) (hj : X.N[j]? = some y := by rfl)
    (hx : X.env.scope.names.lookup x = some .local := by rfl) (hy : X.env.scope.names.lookup y = some .local := by rfl) (hs1 : starEach [a, Expr.List [] pl] X.env = (false, eval a X.env) :: starEach [Expr.List [] pl] X.env := by rfl) (hs2 : starEach [Expr.List [] pl] X.env = (false, eval (Expr.List [] pl) X.env) :: starEach [] X.env := by rfl)
    (hw : swappedStores [.Tuple [.Name x px, .Name y py] kt pt] (.Tuple [a, .List [] pl] k2 pt2) X.env = pure (some [x, y]) := by rfl) (hs : swapsWithSole [.Tuple [.Name x px, .Name y py] kt pt] (.Tuple [a, .List [] pl] k2 pt2) pos.line X.env = pure false := by rfl) :
    SRL X ρ (.Assign [.Tuple [.Name x px, .Name y py] kt pt] (.Tuple [a, .List [] pl] k2 pt2) pos :: rest) es := by
  refine pss_w (pss_cons (ps_par hc nd hi hj hij hx hy (pa_cons ha (pa_cons (pe_lst pa_nil) pa_nil hs2) hs1) hw hs) (u := fun D σ H => ∃ l, tOL X.K l ((ρ.set i (some d)).set j (some (.adr l))) [] es D σ H) ⟨fun pins s σ H D I ⟨l, q⟩ => (h l).run pins s σ H D I q⟩) fun D σ H q => ?_
  refine ⟨q.1, fun v H1 e1 a1 => ⟨Nat.zero_le _, fun l hl => ⟨v, .ref l, rfl, l, ?_, ⟨[], upd_same, AtL.nil⟩, fun xs H' e hx al => q.2 l xs H' (Same.free e1 hl) (e1.trans (mask_out hl ?_)) hx al⟩⟩⟩
  · rw [mask_upd, mask_new hl]
    exact ((q.1.same e1).set a1).set (by simp only [At])
  · rw [mask_upd] at e; exact e
end
end CM
set_option Elab.async false
set_option linter.all false
set_option maxRecDepth 100000
set_option maxHeartbeats 4000000
/-! CM9: the law's moves. -/
namespace CM
open PySem L2
open PyProof.Rows (envOfC)
section
variable {X : Cx} {ρ ρ1 : Kn} {l : Addr} {ds : List D} {x c : Expr} {e : D} {k : Bool} {pos p : Pos}
theorem so_ifApp (ix : Nat) {y : Str} {pf apos cpos : Pos} (hc : PDT X ρ c k) (hx : PD X ρ x e) (nl : noL e = true) (hl : ds.length ≤ 10000000) (hρ : ρ[ix]? = some (some (.adr l)) := by rfl) (hN : X.N[ix]? = some y := by rfl)
    (hv : Vis X.env.scope y := by first | exact Or.inl rfl | exact Or.inr (Or.inl rfl) | exact Or.inr (Or.inr rfl)) (hd : (y == ("__debug__" : Str)) = false := by decide) (hcd : (y == ("__classdict__" : Str)) = false := by decide)
    (hbase : attributeBase (.Name y pf) "append" X.env (eval (.Name y pf) X.env) = eval (.Name y pf) X.env := by rfl)
    (hfew : ((backTo cpos (starEach [x] X.env)).all (fun x => !x.1) && (backToKw cpos (keywordEach [] X.env)).all (fun x => x.1.isSome)
      && decide ([x].length + ([] : List Keyword).length + (if ([] : List Keyword).isEmpty then 0 else 1) < 30)) = true := by rfl)
    (hline : (apos.endLine == cpos.line) = true := by rfl) (hs : starEach [x] X.env = (false, eval x X.env) :: starEach [] X.env := by rfl) (hplain : (backTo cpos (starEach [] X.env)).any (·.1) = false := by rfl)
    (hsw : swapsWith (.Call (.Attribute (.Name y pf) "append" apos) [x] [] cpos) none p.line X.env = pure false := by rfl) :
    PS X (.If c [.Expr (.Call (.Attribute (.Name y pf) "append" apos) [x] [] cpos) p] [] pos) (tO X.K l ρ ds ρ (ds ++ cond k [e] [])) :=
  so_if hc (fun h => by subst h; exact so_seq (so_app ix hx nl hl hρ hN hv hd hcd hbase hfew hline hs hplain hsw) so_nil) (fun h => by subst h; exact so_toS so_nil (by simp))
theorem so_normL {rest : List Stmt} {es : List D} (ρ2 : Kn) (h : PSs X rest (tOL X.K l ρ2 ds es)) (q : ρ = ρ2 := by rfl) : PSs X rest (tOL X.K l ρ ds es) := q ▸ h
theorem so_fromL {rest : List Stmt} {es ds2 : List D} (q : ds2 = ds) (h : PSs X rest (tOL X.K l ρ ds2 es)) : PSs X rest (tOL X.K l ρ ds es) := q ▸ h
end
def shortW : Deed → Str
  | .wboth => "both"
  | .wfirst => "first"
  | _ => "second"
theorem shortW_eq {d : Deed} (h : isWr d = true) : ("write " : Str) ++ shortW d = d.str := by
  have q : decide (("write " : Str) ++ shortW d = d.str) = true := by
    cases d <;> first | (cases h; done) | decide +kernel
  exact of_decide_eq_true q
def mvs (w : Wd) (s : Sta) : List D := (deedsIn s.s).map fun x => .tup [dDeed x, dS (doneBy w s x)]
def rLmo (ds : List D) (es : List D) : Prop := ∃ w s, ds = [dWs w, dS s] ∧ es = mvs w s
theorem wr_mem {d : Deed} (h : d ∈ [Deed.wboth, .wfirst, .wsecond]) : isWr d = true := by
  rcases List.mem_cons.mp h with e | h
  · rw [e]; rfl
  · rcases List.mem_cons.mp h with e | h
    · rw [e]; rfl
    · rw [List.mem_singleton.mp h]; rfl
theorem mvs_eq (w : Wd) (s : Sta) : ((((([] ++ cond (decide (s.s = .none ∨ s.s = .kept)) [D.tup [.str "begin", dS (begun w s)]] []) ++ cond (decide (s.s = .opened ∨ s.s = .half)) [D.tup [.str "read", dS (readHalf w s)]] []) ++ cond (decide (s.s = .read)) [D.tup [.str "clear", dS ⟨.done, false, s.wb, s.a, s.b⟩]] [])
    ++ cond (decide (s.s = .done) && !w.mb) [D.tup [.str "end", dS ⟨.kept, s.g, s.wb, s.a, s.b⟩]] []) ++ cond (decide (s.s = .done) && w.mb) [D.tup [.str "end", dS ⟨.kept, s.g, false, s.a.settled, s.b.settled⟩]] []) ++ [Deed.wboth, .wfirst, .wsecond].map (fun x => D.tup [dDeed x, dS (written w s (wr1 x) (wr2 x))]) = mvs w s := by
  obtain ⟨st, g, wb, a, b⟩ := s
  cases st <;> first | rfl | (cases hm : w.mb <;> (simp [mvs, deedsIn, deeds7, canDo, doneBy, ended, hm, dDeed, Deed.str]; rfl))
section
variable {P : Program} {w : World} {K : PySem.W.Frag} {mg : Str → Option Value} {base : Heap}
theorem sc_lmo : FnScope ["_law_words_here", "_law_state", "_law_step", "_law_found", "_law_word", "_law_both"] ["_law_words_here", "_law_state"] (defScope (top 62)) := ⟨rfl, rfl, rfl, by decide +kernel, rfl, by decide +kernel, by decide +kernel⟩
theorem len_c {k : Bool} {e : D} : (cond k [e] []).length ≤ 1 := by cases k <;> simp
theorem ok_lmo (T : Top K w mg) : Dok P w K mg base 3 "_law_moves" ["_law_words_here", "_law_state"] (spDL K rLmo) :=
  dokL T.d_law_moves sc_lmo (fun ds d ⟨w, s, e, _⟩ => by subst e; rfl) (fun _ _ _ _ _ _ us hl => match us, hl with | [_, _], _ => rfl) fun ds d ⟨wd, s, e, ed⟩ f cdv A outer s' H E hr => by
    subst e ed
    rw [← mvs_eq]
    refine srl_ownP 2 3 (pd_ix (pd_var 1) pd_int rfl) sc_lmo.nd (fun l => ?_) rfl
    refine so_normL [some (dWs wd), some (dS s), some (.str s.s.str), some (.adr l), none, none] ?_
    refine so_seqL (so_ifApp 3 (pdt_is (pdt_cmp (pd_var 2) (pd_tup (pds_two pd_str pd_str)) cmp_inT) (in_nk s.s)) (pd_tup (pds_two pd_str (pd_ix (pd_call (ok_lbe T) (hr.mono (by decide)) (pds_two (pd_var 0) (pd_var 1)) ⟨wd, s, rfl, rfl⟩) pd_int rfl))) (by simp [noL, noLs, noL_dS]) (Nat.zero_le _)) ?_
    refine so_seqL (so_ifApp 3 (pdt_is (pdt_cmp (pd_var 2) (pd_tup (pds_two pd_str pd_str)) cmp_inT) (in_oh s.s)) (pd_tup (pds_two pd_str (pd_call (ok_lre T) (hr.mono (by decide)) (pds_two (pd_var 0) (pd_var 1)) ⟨wd, s, rfl, rfl⟩))) (by simp [noL, noLs, noL_dS]) (by have := @len_c (decide (s.s = .none ∨ s.s = .kept)) (D.tup [.str "begin", dS (begun wd s)]); simp only [List.length_append, List.length_nil]; omega)) ?_
    have b1 := @len_c (decide (s.s = .none ∨ s.s = .kept)) (D.tup [.str "begin", dS (begun wd s)])
    have b2 := @len_c (decide (s.s = .opened ∨ s.s = .half)) (D.tup [.str "read", dS (readHalf wd s)])
    have b3 := @len_c (decide (s.s = .read)) (D.tup [.str "clear", dS ⟨.done, false, s.wb, s.a, s.b⟩])
    have b4 := @len_c (decide (s.s = .done) && !wd.mb) (D.tup [.str "end", dS ⟨.kept, s.g, s.wb, s.a, s.b⟩])
    have b5 := @len_c (decide (s.s = .done) && wd.mb) (D.tup [.str "end", dS ⟨.kept, s.g, false, s.a.settled, s.b.settled⟩])
    refine so_seqL (so_ifApp 3 (pdt_is (pdt_cmp (pd_var 2) pd_str cmp_eq) (eq_Step_read s.s)) (pd_tup (pds_two pd_str (pd_to (pd_catT (pd_tup (pds_two pd_str pd_bl)) (pd_slT 4 [.bl s.wb, dHs s.a s.b] (pd_var 1) (pdo_some pd_int) pdo_none) (List.cons_ne_nil _ _) (List.cons_ne_nil _ _)) (show _ = dS ⟨.done, false, s.wb, s.a, s.b⟩ from rfl)))) (by simp [noL, noLs, noL_dS]) (by simp only [List.length_append, List.length_nil]; omega)) ?_
    refine so_seqL (so_ifApp 3 (PW.pt (pdw_and (pdt_is (pdt_cmp (pd_var 2) pd_str cmp_eq) (eq_Step_done s.s)) (pdw_and1 (pdt_is (pdt_cmp (pd_ix (pd_var 0) pd_int rfl) pd_str cmp_eq) (eq_ab0 wd.mb))))) (pd_tup (pds_two pd_str (pd_to (pd_catT (pd_tup (pds_cons pd_str pds_nil)) (pd_slT 4 [.bl s.g, .bl s.wb, dHs s.a s.b] (pd_var 1) (pdo_some pd_int) pdo_none) (List.cons_ne_nil _ _) (List.cons_ne_nil _ _)) (show _ = dS ⟨.kept, s.g, s.wb, s.a, s.b⟩ from rfl)))) (by simp [noL, noLs, noL_dS]) (by simp only [List.length_append, List.length_nil]; omega)) ?_
    refine so_seqL (so_ifApp 3 (PW.pt (pdw_and (pdt_is (pdt_cmp (pd_var 2) pd_str cmp_eq) (eq_Step_done s.s)) (pdw_and1 (pdt_is (pdt_cmp (pd_ix (pd_var 0) pd_int rfl) pd_str cmp_eq) (eq_ab wd.mb))))) (pd_tup (pds_two pd_str (pd_to (pd_tup (pds_cons pd_str (pds_cons (pd_ix (pd_var 1) pd_int rfl) (pds_cons pd_bl (pds_cons (pd_call (ok_lma T) (hr.mono (by decide)) (pds_cons (pd_ix (pd_var 1) pd_int rfl) pds_nil) ⟨s.a, s.b, rfl, rfl⟩) pds_nil))))) (show _ = dS ⟨.kept, s.g, false, s.a.settled, s.b.settled⟩ from rfl)))) (by simp [noL, noLs, noL_dS]) (by simp only [List.length_append, List.length_nil]; omega)) ?_
    refine so_fromL (List.append_nil _) ?_
    refine so_seqL (so_forT 4 5 [Deed.wboth, .wfirst, .wsecond] (fun d => .str (shortW d)) (fun d => .tup [.bl (wr1 d), .bl (wr2 d)]) (fun n => ((((([] ++ cond (decide (s.s = .none ∨ s.s = .kept)) [D.tup [.str "begin", dS (begun wd s)]] []) ++ cond (decide (s.s = .opened ∨ s.s = .half)) [D.tup [.str "read", dS (readHalf wd s)]] []) ++ cond (decide (s.s = .read)) [D.tup [.str "clear", dS ⟨.done, false, s.wb, s.a, s.b⟩]] [])
        ++ cond (decide (s.s = .done) && !wd.mb) [D.tup [.str "end", dS ⟨.kept, s.g, s.wb, s.a, s.b⟩]] []) ++ cond (decide (s.s = .done) && wd.mb) [D.tup [.str "end", dS ⟨.kept, s.g, false, s.a.settled, s.b.settled⟩]] []) ++ (([Deed.wboth, .wfirst, .wsecond].take n).map fun x => D.tup [dDeed x, dS (written wd s (wr1 x) (wr2 x))]))
      (fun n d => [some (dWs wd), some (dS s), some (.str s.s.str), some (.adr l), some (.str (shortW d)), some (.tup [.bl (wr1 d), .bl (wr2 d)])]) rfl
      (pd_to (pd_tup (pds_cons (pd_tup (pds_two pd_str (pd_tup (pds_two pd_bl pd_bl)))) (pds_cons (pd_tup (pds_two pd_str (pd_tup (pds_two pd_bl pd_bl)))) (pds_cons (pd_tup (pds_two pd_str (pd_tup (pds_two pd_bl pd_bl)))) pds_nil)))) rfl) PassesOwn.never
      (pg_tup rfl (pgs_cons (pg_name (i := 4) sc_lmo.nd rfl (Or.inl rfl)) (pgs_cons (pg_name (i := 5) sc_lmo.nd rfl (Or.inl rfl)) pgs_nil))) (fun d _ => by simp [noL, noLs]) (fun n d _ => by repeat (first | exact Le.nil | refine Le.no ?_ | refine Le.yes ?_))
      (fun n d hd => by
        have hw := wr_mem (List.mem_of_getElem? hd)
        show PSs _ _ (tO _ l [some (dWs wd), some (dS s), some (.str s.s.str), some (.adr l), some (.str (shortW d)), some (.tup [.bl (wr1 d), .bl (wr2 d)])] _ _ _)
        refine so_toS (so_seq (so_app 3 (pd_tup (pds_two (pd_to (pd_cat pd_str (pd_var 4) (by cases d <;> decide +kernel)) (show _ = dDeed d by rw [shortW_eq hw]; rfl)) (pd_call (ok_lwr T) (hr.mono (by decide)) (pds_cons (pd_var 0) (pds_cons (pd_var 1) (pds_cons (pd_var 5) pds_nil))) ⟨wd, s, wr1 d, wr2 d, rfl, rfl⟩))) (by simp [noL, noLs, noL_dS, dDeed]) ?_) so_nil) (by rw [filter_snoc hd, List.map_append, List.append_assoc _ (List.map _ _)]; rfl)
        have : (([Deed.wboth, .wfirst, .wsecond].take n).map fun x => D.tup [dDeed x, dS (written wd s (wr1 x) (wr2 x))]).length ≤ 3 := by rw [List.length_map, List.length_take]; exact Nat.min_le_right _ _
        simp only [List.length_append, List.length_nil]; omega)) ?_
    exact so_ret 3
end
end CM
set_option Elab.async false
set_option linter.all false
set_option maxRecDepth 100000
set_option maxHeartbeats 4000000
/-! CM10: the law's bad, left, kept write, lose moves. -/
namespace CM
open PySem L2
open PyProof.Rows (envOfC)
def dWish (x : Wish) : D := .str x.str
def fateIn (x : Wish) (s : Sta) : Bool := cond (decide (x = .elder)) (decide (s.a.f = some .elder) || decide (s.b.f = some .elder)) (cond (decide (x = .twice)) (decide (s.a.f = some .twice) || decide (s.b.f = some .twice)) false)
def lawBad (s : Sta) : List Wish := cond ((!decide (s.s = .kept)) || s.a.f.isNone) [] (([Wish.elder, .twice].filter fun x => fateIn x s) ++ cond (!decide (s.a.f = s.b.f)) [.torn] [])
def rLba (ds : List D) (es : List D) : Prop := ∃ s, ds = [dS s] ∧ es = (lawBad s).map dWish
theorem in_et2 {x : Wish} (h : x ∈ [Wish.elder, .twice]) : decide (x = .elder ∨ x = .twice) = true := by
  rcases List.mem_cons.mp h with e | h
  · rw [e]; rfl
  · rw [List.mem_singleton.mp h]; rfl
theorem inD_fates {x : Wish} (s : Sta) (h : x ∈ [Wish.elder, .twice]) : inD (.str x.str) [dF s.a.f, dF s.b.f] = fateIn x s := by
  have q := in_fates x s.a.f s.b.f
  rw [in_et2 h, Bool.true_and] at q
  exact q
def lawLeft (w : Wd) (s : Sta) : Bool := cond ((!decide (s.s = .none ∨ s.s = .kept)) || toRead w s) false (!s.a.c || !s.b.c)
def rLil (ds : List D) (d : D) : Prop := ∃ w s, ds = [dWs w, dS s] ∧ d = .bl (lawLeft w s)
def rLkw (ds : List D) (d : D) : Prop := ∃ w q x y, ds = [dWs w, dP (some q), .tup [.bl x, .bl y]] ∧ d = dP (some ⟨(written w ⟨.kept, true, q.wb, q.a, q.b⟩ x y).wb, (written w ⟨.kept, true, q.wb, q.a, q.b⟩ x y).a, (written w ⟨.kept, true, q.wb, q.a, q.b⟩ x y).b⟩)
section
variable {P : Program} {w : World} {K : PySem.W.Frag} {mg : Str → Option Value} {base : Heap}
theorem sc_lba : FnScope ["_law_state", "_law_fates", "_law_is_even", "_law_fate", "_law_wish"] ["_law_state"] (defScope (top 63)) := ⟨rfl, rfl, rfl, by decide +kernel, rfl, by decide +kernel, by decide +kernel⟩
theorem ok_lba (T : Top K w mg) : Dok P w K mg base 1 "_law_bad" ["_law_state"] (spDL K rLba) :=
  dokL T.d_law_bad sc_lba (fun ds d ⟨s, e, _⟩ => by subst e; rfl) (fun _ _ _ _ _ _ us hl => match us, hl with | [_], _ => rfl) fun ds d ⟨s, e, ed⟩ f cdv A outer s' H E hr => by
    subst e ed
    refine srl_seq (sn_asg 1 (pd_l (pdl_lc2 (own := [("_law_is_even", 2), ("_law_fate", 3)]) 2 3 [s.a, s.b] (fun h => .bl h.c) (fun h => dF h.f) (fun h => dF h.f) (fun _ => true) rfl sc_lba.nd (pd_ix (pd_var 0) pd_int rfl)
      (blkOk_by (N := ["_law_state", "_law_fates", "_law_is_even", "_law_fate", "_law_wish"]) (sc := defScope (top 63)) (own := [("_law_is_even", 2), ("_law_fate", 3)]) (by decide +kernel)) (fun _ _ _ _ _ => pg_tup rfl (pgs_cons (pg_name (i := 2) sc_lba.nd rfl (Or.inl rfl)) (pgs_cons (pg_name (i := 3) sc_lba.nd rfl (Or.inl rfl)) pgs_nil))) (fun _ _ _ _ _ _ _ => pdts_nil)
      (fun h _ _ _ _ _ _ _ => pd_var 3) (fun h _ => noL_dF _) (fun σ v u => by simp [wipe, List.set_set, List.set_comm]))) sc_lba.nd) ?_
    show SRL _ [some (dS s), some (.lst [dF s.a.f, dF s.b.f]), none, none, none] _ _
    refine srl_if (PW.pt (pdw_or (pdt_is (pdt_cmp (pd_ix (pd_var 0) pd_int rfl) pd_str cmp_ne) (congrArg Bool.not (eq_Step_kept s.s))) (pdw_or1 (pdt_is (pdt_cmp (pd_ixL (pd_var 1) pd_int rfl) pd_non cmp_isN) (isNon_dF s.a.f)))))
      (fun h => srl_ret (pdl_to (pdl_lst pds_nil) (by rw [lawBad, h]; rfl))) (fun h => srl_ret (pdl_to (pdl_cat (pdl_lcN (own := [("_law_wish", 4)]) 4 [Wish.elder, .twice] dWish dWish (fun x => fateIn x s) rfl sc_lba.nd (pd_to (pd_tup (pds_two pd_str pd_str)) rfl)
        (blkOk_by (N := ["_law_state", "_law_fates", "_law_is_even", "_law_fate", "_law_wish"]) (sc := defScope (top 63)) (own := [("_law_wish", 4)]) (by decide +kernel)) (fun _ _ _ _ _ => pg_name (i := 4) sc_lba.nd rfl (Or.inl rfl))
        (fun x hx _ _ _ _ _ => pdts_one (pdt_is (pdt_cmp (pd_var 4) (pd_var 1) (cmp_inL rfl (by simp only [List.all_cons, fl_dF, List.all_nil, Bool.and_self]))) (inD_fates s hx))) (fun x _ _ _ _ _ _ _ => pd_var 4) (fun x _ => rfl) (fun σ v => by simp [wipe, List.set_set]))
        (pdl_ifC (pdt_is (pdt_cmp (pd_ixL (pd_var 1) pd_int rfl) (pd_ixL (pd_var 1) pd_int rfl) cmp_neFF) (congrArg Bool.not (eq_FF s.a.f s.b.f))) (pdl_lst (pds_cons pd_str pds_nil)) (pdl_lst pds_nil)) ?_) ?_))
    · have h1 : (([Wish.elder, Wish.twice].filter fun x => fateIn x s).map dWish).length ≤ 2 := by rw [List.length_map]; exact List.length_filter_le _ _
      have h2 : ∀ k : Bool, (cond k [D.str "torn"] []).length ≤ 1 := fun k => by cases k <;> simp
      have := h2 (!decide (s.a.f = s.b.f))
      omega
    · rw [lawBad, h, cond_false, List.map_append]
      cases (!decide (s.a.f = s.b.f)) <;> rfl
theorem sc_lil : FnScope ["_law_words_here", "_law_state"] ["_law_words_here", "_law_state"] (defScope (top 64)) := ⟨rfl, rfl, rfl, by decide +kernel, rfl, by decide +kernel, by decide +kernel⟩
theorem ok_lil (T : Top K w mg) : Dok P w K mg base 3 "_law_is_left" ["_law_words_here", "_law_state"] (spD K rLil) :=
  dokD T.d_law_is_left sc_lil (fun ds d ⟨w, s, e, _⟩ => by subst e; rfl) (fun _ _ _ _ _ _ us hl => match us, hl with | [_, _], _ => rfl) fun ds d ⟨w, s, e, ed⟩ f cdv A outer s' H E hr => by
    subst e ed
    exact sr_if (PW.pt (pdw_or (pdt_is (pdt_cmp (pd_ix (pd_var 1) pd_int rfl) (pd_tup (pds_two pd_str pd_str)) cmp_niT) (congrArg Bool.not (in_nk s.s))) (pdw_or1 (pdt_val (pd_ix (pd_call (ok_lbe T) (hr.mono (by decide)) (pds_two (pd_var 0) (pd_var 1)) ⟨w, s, rfl, rfl⟩) pd_int rfl)))))
      (fun h => sr_ret (pd_to pd_bl (by rw [lawLeft, h]; rfl)))
      (fun h => sr_ret (pd_to (pd_or (pd_not (pd_ix (pd_ix (pd_ix (pd_var 1) pd_int rfl) pd_int rfl) pd_int rfl)) (pd_one (pd_not (pd_ix (pd_ix (pd_ix (pd_var 1) pd_int rfl) pd_int rfl) pd_int rfl)))) (by rw [lawLeft, h]; rfl)))
theorem sc_lkw : FnScope ["_law_words_here", "_law_past", "_law_both", "_law_late"] ["_law_words_here", "_law_past", "_law_both"] (defScope (top 69)) := ⟨rfl, rfl, rfl, by decide +kernel, rfl, by decide +kernel, by decide +kernel⟩
theorem ok_lkw (T : Top K w mg) : Dok P w K mg base 2 "_law_kept_write" ["_law_words_here", "_law_past", "_law_both"] (spD K rLkw) :=
  dokD T.d_law_kept_write sc_lkw (fun ds d ⟨w, q, x, y, e, _⟩ => by subst e; rfl) (fun _ _ _ _ _ _ us hl => match us, hl with | [_, _, _], _ => rfl) fun ds d ⟨w, q, x, y, e, ed⟩ f cdv A outer s' H E hr => by
    subst e ed
    show SR _ [some (dWs w), some (.tup [.bl q.wb, dHs q.a q.b]), some (.tup [.bl x, .bl y]), none] _ _
    exact sr_seq (sn_asg 3 (pd_call (ok_lwr T) (hr.mono (by decide)) (pds_cons (pd_var 0) (pds_cons (pd_to (pd_tup (pds_cons pd_str (pds_cons pd_bl (pds_cons (pd_ix (pd_var 1) pd_int rfl) (pds_cons (pd_ix (pd_var 1) pd_int rfl) pds_nil))))) (show _ = dS ⟨.kept, true, q.wb, q.a, q.b⟩ from rfl)) (pds_cons (pd_var 2) pds_nil))) ⟨w, ⟨.kept, true, q.wb, q.a, q.b⟩, x, y, rfl, rfl⟩) sc_lkw.nd)
      (sr_ret (pd_to (pd_tup (pds_two (pd_ix (pd_var 3) pd_int rfl) (pd_ix (pd_var 3) pd_int rfl))) rfl))
end
end CM
set_option Elab.async false
set_option linter.all false
set_option maxRecDepth 100000
set_option maxHeartbeats 4000000
/-! CM11: the law's lose moves. -/
namespace CM
open PySem L2
open PyProof.Rows (envOfC)
/-! ### the sides by their words -/
def k1 : L2.Key := .inr "both"
def k2 : L2.Key := .inr "first"
def k3 : L2.Key := .inr "second"
theorem k12 : decide (k1 = k2) = false := by decide +kernel
theorem k13 : decide (k1 = k3) = false := by decide +kernel
theorem k23 : decide (k2 = k3) = false := by decide +kernel
theorem mergeK3 (a b c : V) : mergeK [] [(k1, a), (k2, b), (k3, c)] = [(k1, a), (k2, b), (k3, c)] := by
  have h12 := of_decide_eq_false k12
  have h13 := of_decide_eq_false k13
  have h23 := of_decide_eq_false k23
  simp [mergeK, putK, h12, h13, h23]
def dSides (K : PySem.W.Frag) : D := .ob fun H v => ∃ a v1 v2 v3, v = .ref a ∧ H a = some (.dK [(k1, v1), (k2, v2), (k3, v3)]) ∧ At K H (.tup [.bl true, .bl true]) v1 ∧ At K H (.tup [.bl true, .bl false]) v2 ∧ At K H (.tup [.bl false, .bl true]) v3
theorem Ties.dK {H : Hp} {p : Addr} {ys : List (L2.Key × V)} {o : HO} (h : H p = some (.dK ys)) : Ties H (upd H p o) :=
  ⟨fun b xs q => by rw [upd_ne (ne_of q h (by intro z; cases z))]; exact q, fun b o xs q => by rw [upd_ne (ne_of q h (by intro z; cases z))]; exact q, fun b C dx fs q => by rw [upd_ne (ne_of q h (by intro z; cases z))]; exact q⟩
def tSides (K : PySem.W.Frag) (ρ : Kn) : TE := fun σ H Q => EA K H σ ρ ∧ ∀ p v1 v2 v3 H', H p = none → Same H H' → H' p = some (.dK [(k1, v1), (k2, v2), (k3, v3)]) → At K H' (.tup [.bl true, .bl true]) v1 → At K H' (.tup [.bl true, .bl false]) v2 → At K H' (.tup [.bl false, .bl true]) v3 → Q (.ref p) H'
theorem pe_sides {X : Cx} {ρ : Kn} {a1 b1 a2 b2 a3 b3 : Expr} {pos : Pos} (h1 : PD X ρ a1 (.str "both")) (g1 : PD X ρ b1 (.tup [.bl true, .bl true])) (h2 : PD X ρ a2 (.str "first")) (g2 : PD X ρ b2 (.tup [.bl true, .bl false])) (h3 : PD X ρ a3 (.str "second")) (g3 : PD X ρ b3 (.tup [.bl false, .bl true])) :
    PE X (.Dict [some a1, some a2, some a3] [b1, b2, b3] pos) (tSides X.K ρ) :=
  pe_w (pe_disp (pps_cons h1 g1 (pps_cons h2 g2 (pps_cons h3 g3 pps_nil))) rfl rfl (by simp) (Nat.le_of_ble_eq_true rfl)) fun σ H Q q p hp => by
    have e0 : Same H (upd H p (.dK [])) := same_new hp
    refine ⟨q.1.same e0, fun x1 H1 e1 z1 => ⟨q.1.same (e0.trans e1), fun y1 H2 e2 w1 => ⟨q.1.same ((e0.trans e1).trans e2), fun x2 H3 e3 z2 => ⟨q.1.same (((e0.trans e1).trans e2).trans e3), fun y2 H4 e4 w2 => ⟨q.1.same ((((e0.trans e1).trans e2).trans e3).trans e4), fun x3 H5 e5 z3 =>
      ⟨q.1.same (((((e0.trans e1).trans e2).trans e3).trans e4).trans e5), fun y3 H6 e6 w3 => ?_⟩⟩⟩⟩⟩⟩
    simp only [At] at z1 z2 z3
    subst z1 z2 z3
    have hp6 : H6 p = some (.dK []) := e6 _ _ (e5 _ _ (e4 _ _ (e3 _ _ (e2 _ _ (e1 _ _ upd_same)))))
    refine ⟨hp6, [(k1, y1), (k2, y2), (k3, y3)], rfl, Nat.le_of_ble_eq_true rfl, ?_⟩
    rw [mergeK3]
    have t := Ties.dK (o := .dK [(k1, y1), (k2, y2), (k3, y3)]) hp6
    exact q.2 p y1 y2 y3 _ hp (same_mut ((((((e0.trans e1).trans e2).trans e3).trans e4).trans e5).trans e6) hp) upd_same ((w1.same (((e3.trans e4).trans e5).trans e6)).ties t rfl) ((w2.same (e5.trans e6)).ties t rfl) (w3.ties t rfl)
theorem valV3 (d : Deed) (a b c : V) (h : isWr d = true) : valV [(k1, a), (k2, b), (k3, c)] (.inr (shortW d)) = some (cond (decide (d = .wboth)) a (cond (decide (d = .wfirst)) b c)) := by
  have h12 := of_decide_eq_false k12
  have h13 := of_decide_eq_false k13
  have h23 := of_decide_eq_false k23
  cases d <;> first | (cases h; done) | skip
  · show valV _ k1 = _
    simp [valV]
  · show valV _ k2 = _
    simp [valV, h12]
  · show valV _ k3 = _
    simp [valV, h13, h23]
/-- sides[word] -/
theorem pd_sides {X : Cx} {ρ : Kn} {o i : Expr} {pos : Pos} {d : Deed} (hu : X.A.units + 1 < cLine) (ho : PD X ρ o (dSides X.K)) (hi : PD X ρ i (.str (shortW d))) (h : isWr d = true) (hs : NoSl i := by exact fun _ _ => rfl) : PD X ρ (.Subscript o i pos) (.tup [.bl (wr1 d), .bl (wr2 d)]) :=
  pe_w (pe_dget hu ho hi hs) fun σ H Q q => ⟨q.1, fun x H1 e1 a1 => ⟨q.1.same e1, fun y H2 e2 a2 => by
    have a1' := a1.same e2
    simp only [dSides, At] at a1'
    obtain ⟨_, a1'⟩ := a1'
    obtain ⟨a, v1, v2, v3, rfl, h1, z1, z2, z3⟩ := a1' H2 (Same.refl H2)
    simp only [At] at a2
    subst a2
    refine ⟨a, _, rfl, .inl ⟨_, .inr (shortW d), .inl h1, rfl, (valV3 d v1 v2 v3 h).symm⟩, q.2 _ H2 (e1.trans e2) ?_⟩
    cases d <;> first | (cases h; done) | skip
    · show At X.K H2 (.tup [.bl true, .bl true]) v1
      simp only [At]; exact z1
    · show At X.K H2 (.tup [.bl true, .bl false]) v2
      simp only [At]; exact z2
    · show At X.K H2 (.tup [.bl false, .bl true]) v3
      simp only [At]; exact z3⟩⟩
/-! ### found, sides = [], {..} -/
theorem srl_ownS {X : Cx} {ρ : Kn} {b : Expr} {es : List D} {rest : List Stmt} {pos pt pt2 px py pl : Pos} {kt k2 : Nat} {x y : Str} (i j : Nat) (hb : ∀ ρ, PE X b (tSides X.K ρ)) (nd : X.N.Nodup) (h : ∀ l, PSs X rest (tOL X.K l ((ρ.set i (some (.adr l))).set j (some (dSides X.K))) [] es)) (hc : X.calm = true) (hij : i ≠ j := by decide) (hi : X.N[i]? = some x := by rfl) (hj : X.N[j]? = some y := by rfl)
    (hx : X.env.scope.names.lookup x = some .local := by rfl) (hy : X.env.scope.names.lookup y = some .local := by rfl) (hs1 : starEach [Expr.List [] pl, b] X.env = (false, eval (Expr.List [] pl) X.env) :: starEach [b] X.env := by rfl) (hs2 : starEach [b] X.env = (false, eval b X.env) :: starEach [] X.env := by rfl)
    (hw : swappedStores [.Tuple [.Name x px, .Name y py] kt pt] (.Tuple [.List [] pl, b] k2 pt2) X.env = pure (some [x, y]) := by rfl) (hs : swapsWithSole [.Tuple [.Name x px, .Name y py] kt pt] (.Tuple [.List [] pl, b] k2 pt2) pos.line X.env = pure false := by rfl) :
    SRL X ρ (.Assign [.Tuple [.Name x px, .Name y py] kt pt] (.Tuple [.List [] pl, b] k2 pt2) pos :: rest) es := by
  refine pss_w (pss_cons (ps_par hc nd hi hj hij hx hy (pa_cons (pe_lst pa_nil) (pa_cons (hb ρ) pa_nil hs2) hs1) hw hs) (u := fun D σ H => ∃ l, tOL X.K l ((ρ.set i (some (.adr l))).set j (some (dSides X.K))) [] es D σ H) ⟨fun pins s σ H D I ⟨l, q⟩ => (h l).run pins s σ H D I q⟩) fun D σ H q => ?_
  refine ⟨Nat.zero_le _, fun l hl => ?_⟩
  have e0 : Same H (upd H l (.lst [])) := same_new hl
  refine ⟨q.1.same e0, fun p v1 v2 v3 H2 hp e2 h2 z1 z2 z3 => ⟨.ref l, .ref p, rfl, l, ?_, ⟨[], e2 _ _ upd_same, AtL.nil⟩, fun xs H' e hx al => q.2 l xs H' hl ?_ hx al⟩⟩
  · have hl2 : H2 l = some (.lst []) := e2 _ _ upd_same
    have hpl : p ≠ l := fun z => by rw [z, upd_same] at hp; cases hp
    have e3 : Same H (mask l H2) := fun b o hb => by
      rw [mask_at (ne_of_none hb hl)]
      exact e2 _ _ (e0 _ _ hb)
    refine ((q.1.same e3).set (by simp only [At])).set ?_
    have t := ties_mask hl2
    simp only [dSides, At]
    refine ⟨⟨p, rfl⟩, fun H3 e4 => ⟨p, v1, v2, v3, rfl, e4 _ _ (by rw [mask_at hpl]; exact h2), ?_, ?_, ?_⟩⟩
    · have := (At.ties (K := X.K) t rfl z1).same e4
      simpa only [At] using this
    · have := (At.ties (K := X.K) t rfl z2).same e4
      simpa only [At] using this
    · have := (At.ties (K := X.K) t rfl z3).same e4
      simpa only [At] using this
  · intro b o hb
    have hbl := ne_of_none hb hl
    exact mask_of e hbl (e2 _ _ (e0 _ _ hb))
end CM
set_option Elab.async false
set_option linter.all false
set_option maxRecDepth 100000
set_option maxHeartbeats 4000000
/-! CM12: _law_lose_moves, _law_lose_bad. -/
namespace CM
open PySem L2
open PyProof.Rows (envOfC)
def Valid (p : Pl) : Prop := p.st.s = .none → p.pa = none
def lmv (w : Wd) (p : Pl) (ag : Bool) : List D := (deedsAt p).map fun x => .tup [dDeed x, dL (plBy w p ag x)]
def rLlm (ds : List D) (es : List D) : Prop := ∃ w p ag, ds = [dWs w, dL p, .bl ag] ∧ Valid p ∧ es = lmv w p ag
theorem cut5 (x : Deed) : eqD (.str (cutS x.str none (some 5))) (.str "write") = isWr x := by cases x <;> decide +kernel
theorem cut6 {x : Deed} (h : isWr x = true) : cutS x.str (some 6) none = shortW x := by
  have q : decide (cutS x.str (some 6) none = shortW x) = true := by
    cases x <;> first | (cases h; done) | decide +kernel
  exact of_decide_eq_true q
theorem deed_len (x : Deed) : x.str.length ≤ 1000 := by cases x <;> decide +kernel
theorem plBy_of {w : Wd} {p : Pl} {ag : Bool} {x : Deed} (h : x ≠ .lose) : plBy w p ag x = ⟨doneBy w p.st x, pastBy w p x⟩ := by
  cases x <;> first | rfl | exact absurd rfl h
theorem in_deeds {s : Step} {x : Deed} (h : x ∈ deedsIn s) : x ≠ .lose := by
  intro e
  subst e
  have := (List.mem_filter.mp h).1
  revert this
  decide
theorem lmv_eq (w : Wd) (p : Pl) (ag : Bool) : ((deedsIn p.st.s).map fun x => D.tup [dDeed x, .tup [dS (doneBy w p.st x), dP (pastBy w p x)]]) ++ cond (canLose p) [D.tup [.str "lose", dL (lostBy p ag)]] [] = lmv w p ag := by
  have e : ((deedsIn p.st.s).map fun x => D.tup [dDeed x, .tup [dS (doneBy w p.st x), dP (pastBy w p x)]]) = (deedsIn p.st.s).map fun x => D.tup [dDeed x, dL (plBy w p ag x)] :=
    List.map_congr_left fun x hx => by rw [plBy_of (in_deeds hx)]; rfl
  rw [e, lmv, deedsAt]
  cases canLose p with
  | true => rw [cond_true, cond_true, List.map_append]; rfl
  | false => rw [cond_false, cond_false, List.append_nil]
section
variable {P : Program} {w : World} {K : PySem.W.Frag} {mg : Str → Option Value} {base : Heap}
theorem sc_llm : FnScope ["_law_words_here", "_law_place", "_law_flag", "_law_state", "_law_past", "_law_found", "_law_sides", "_law_deed", "_law_late", "_law_older", "_law_sign"] ["_law_words_here", "_law_place", "_law_flag"] (defScope (top 70)) := ⟨rfl, rfl, rfl, by decide +kernel, rfl, by decide +kernel, by decide +kernel⟩
theorem units_of {k : Nat} {A : Around} (r : Room k A) {n : Nat} (h : n ≤ 200) : A.units + n < cLine := by have := r.un; omega
theorem ok_llm (T : Top K w mg) : Dok P w K mg base 4 "_law_lose_moves" ["_law_words_here", "_law_place", "_law_flag"] (spDL K rLlm) :=
  dokL T.d_law_lose_moves sc_llm (fun ds d ⟨w, p, ag, e, _⟩ => by subst e; rfl) (fun _ _ _ _ _ _ us hl => match us, hl with | [_, _, _], _ => rfl) fun ds d ⟨wd, p, ag, e, hv, ed⟩ f cdv A outer s' H E hr => by
    subst e ed
    rw [← lmv_eq]
    obtain ⟨s, pa⟩ := p
    refine srl_seq (sn_unp [3, 4] (pd_var 1) rfl (pgs_cons (pg_name (i := 3) sc_llm.nd rfl (Or.inl rfl)) (pgs_cons (pg_name (i := 4) sc_llm.nd rfl (Or.inl rfl)) pgs_nil))) ?_
    refine srl_ownS 5 6 (fun ρ => pe_sides pd_str (pd_tup (pds_two pd_bl pd_bl)) pd_str (pd_tup (pds_two pd_bl pd_bl)) pd_str (pd_tup (pds_two pd_bl pd_bl))) sc_llm.nd (fun l => ?_) rfl
    refine so_normL [some (dWs wd), some (dL ⟨s, pa⟩), some (.bl ag), some (dS s), some (dP pa), some (.adr l), some (dSides K), none, none, none, none] ?_
    refine so_seqL (so_forP 7 8 (deedsIn s.s) dDeed (fun x => dS (doneBy wd s x)) (fun n => ((deedsIn s.s).take n).map fun x => D.tup [dDeed x, .tup [dS (doneBy wd s x), dP (pastBy wd ⟨s, pa⟩ x)]])
      (fun n x => [some (dWs wd), some (dL ⟨s, pa⟩), some (.bl ag), some (dS s), some (dP pa), some (.adr l), some (dSides K), some (dDeed x), some (dS (doneBy wd s x)), some (dP (pastBy wd ⟨s, pa⟩ x)), none]) rfl
      (pdl_call (ok_lmo T) (hr.mono (by decide)) (pds_two (pd_var 0) (pd_var 3)) ⟨wd, s, rfl, rfl⟩) PassesOwn.never (pg_tup rfl (pgs_cons (pg_name (i := 7) sc_llm.nd rfl (Or.inl rfl)) (pgs_cons (pg_name (i := 8) sc_llm.nd rfl (Or.inl rfl)) pgs_nil))) (fun x _ => by simp [noL, noLs, noL_dS, dDeed])
      (fun n x _ => by repeat (first | exact Le.nil | refine Le.no ?_ | refine Le.yes ?_)) (fun n x hx => ?_)) ?_
    · have hxl := in_deeds (List.mem_of_getElem? hx)
      have hlen : (((deedsIn s.s).take n).map fun x => D.tup [dDeed x, .tup [dS (doneBy wd s x), dP (pastBy wd ⟨s, pa⟩ x)]]).length ≤ 10000000 := by
        rw [List.length_map, List.length_take]
        exact Nat.le_trans (Nat.min_le_right _ _) (Nat.le_trans (deedsIn_len _) (by decide))
      show PSs _ _ (tO _ l [some (dWs wd), some (dL ⟨s, pa⟩), some (.bl ag), some (dS s), some (dP pa), some (.adr l), some (dSides K), some (dDeed x), some (dS (doneBy wd s x)), none, none] _ _ _)
      refine so_seq (so_asg 9 (pd_var 4) (noL_dP _) sc_llm.nd) ?_
      show PSs _ _ (tO _ l [some (dWs wd), some (dL ⟨s, pa⟩), some (.bl ag), some (dS s), some (dP pa), some (.adr l), some (dSides K), some (dDeed x), some (dS (doneBy wd s x)), some (dP pa), none] _ _ _)
      refine so_seq (so_if (ρ1 := [some (dWs wd), some (dL ⟨s, pa⟩), some (.bl ag), some (dS s), some (dP pa), some (.adr l), some (dSides K), some (dDeed x), some (dS (doneBy wd s x)), some (dP (pastBy wd ⟨s, pa⟩ x)), none])
        (PW.pt (pdw_and (pdt_is (pdt_cmp (pd_var 7) pd_str cmp_eq) (eq_Deed_begin x)) (pdw_and1 (pdt_is (pdt_cmp (pd_ix (pd_var 3) pd_int rfl) pd_str cmp_eq) (eq_Step_none s.s)))))
        (fun h1 => so_seq (so_asg 9 (pd_to pd_non (show _ = dP (pastBy wd ⟨s, pa⟩ x) from ?_)) (noL_dP _) sc_llm.nd) so_nil)
        (fun h1 => so_seq (so_if (ρ1 := [some (dWs wd), some (dL ⟨s, pa⟩), some (.bl ag), some (dS s), some (dP pa), some (.adr l), some (dSides K), some (dDeed x), some (dS (doneBy wd s x)), some (dP (pastBy wd ⟨s, pa⟩ x)), none])
          (pdt_is (pdt_cmp (pd_var 7) pd_str cmp_eq) (eq_Deed_begin x))
          (fun h2 => so_seq (so_asg 9 (pd_to (pd_tup (pds_two (pd_and (pd_ix (pd_var 3) pd_int rfl) (pd_one (pd_isb (pd_cmp (pd_ix (pd_var 0) pd_int rfl) pd_str cmp_eq) (eq_ab wd.mb)))) (pd_ix (pd_var 3) pd_int rfl))) (show _ = dP (pastBy wd ⟨s, pa⟩ x) from ?_)) (noL_dP _) sc_llm.nd) so_nil)
          (fun h2 => ?_)) so_nil)) (so_toS (so_seq (so_app 5 (pd_tup (pds_two (pd_var 7) (pd_tup (pds_two (pd_var 8) (pd_var 9))))) (by simp [noL, noLs, noL_dS, noL_dP, dDeed]) hlen) so_nil) (by rw [filter_snoc hx, List.map_append]; rfl))
      · rw [Bool.and_eq_true] at h1
        rw [of_decide_eq_true h1.1, pastBy, h1.2]; rfl
      · rw [h2, Bool.true_and] at h1
        rw [of_decide_eq_true h2, pastBy, h1]; rfl
      · cases pa with
        | none =>
          have e : pastBy wd ⟨s, none⟩ x = none := by cases x <;> first | rfl | cases h2
          rw [e]
          exact so_seq (so_if (k := false) (PW.pt (pdw_andF (pdt_cmp (pd_var 4) pd_non cmp_notN))) (fun h => nomatch h) (fun _ => so_seq (so_if (k := false) (PW.pt (pdw_andF (pdt_cmp (pd_var 4) pd_non cmp_notN))) (fun h => nomatch h) (fun _ => so_nil)) so_nil)) so_nil
        | some q =>
          rw [pastBy_some h2]
          refine so_seq (so_if (PW.pt (pdw_and (k1 := true) (pdt_cmp (pd_var 4) pd_non cmp_notN) (pdw_and (pdt_is (pdt_cmp (pd_var 7) pd_str cmp_eq) (eq_Deed_end_ x)) (pdw_and1 (pdt_is (pdt_cmp (pd_ix (pd_var 0) pd_int rfl) pd_str cmp_eq) (eq_ab wd.mb)))))) (fun h3 => ?_) (fun h3 => ?_)) so_nil
          · rw [Bool.true_and] at h3
            rw [h3]
            exact so_seq (so_asg 9 (pd_to (pd_tup (pds_two pd_bl (pd_ix (pd_var 4) pd_int rfl))) (show _ = dP (some ⟨false, q.a, q.b⟩) from rfl)) (noL_dP _) sc_llm.nd) so_nil
          · rw [Bool.true_and] at h3
            rw [h3, cond_false]
            refine so_seq (so_if (PW.pt (pdw_and (k1 := true) (pdt_cmp (pd_var 4) pd_non cmp_notN) (pdw_and1 (pdt_is (pdt_cmp (pd_slS (pd_var 7) pdo_none (pdo_some pd_int) (deed_len x)) pd_str cmp_eq) (cut5 x))))) (fun h4 => ?_) (fun h4 => ?_)) so_nil
            · rw [Bool.true_and] at h4
              rw [h4]
              exact so_seq (so_asg 9 (pd_call (ok_lkw T) (hr.mono (by decide)) (pds_cons (pd_var 0) (pds_cons (pd_var 4) (pds_cons (pd_sides (units_of hr (by decide)) (pd_var 6) (pd_to (pd_slS (pd_var 7) (pdo_some pd_int) pdo_none (deed_len x)) (by rw [cut6 h4])) h4) pds_nil))) ⟨wd, q, wr1 x, wr2 x, rfl, rfl⟩) (noL_dP _) sc_llm.nd) so_nil
            · rw [Bool.true_and] at h4
              rw [h4]
              exact so_nil
    · rw [List.take_of_length_le (Nat.le_refl _)]
      refine so_seqL (so_asg 10 (pd_or (pd_ix (pd_var 3) pd_int rfl) (pd_one (pd_var 2))) rfl sc_llm.nd) ?_
      refine so_normL [some (dWs wd), some (dL ⟨s, pa⟩), some (.bl ag), some (dS s), some (dP pa), some (.adr l), some (dSides K), none, none, none, some (.bl (s.g || ag))] ?_
      have hlen : ((deedsIn s.s).map fun x => D.tup [dDeed x, .tup [dS (doneBy wd s x), dP (pastBy wd ⟨s, pa⟩ x)]]).length ≤ 10000000 := by
        rw [List.length_map]
        exact Nat.le_trans (deedsIn_len _) (by decide)
      cases pa with
      | none =>
        have e : canLose ⟨s, none⟩ = (!decide (s.s = .none ∨ s.s = .kept)) := by rw [canLose]; cases (!decide (s.s = .none ∨ s.s = .kept)) <;> simp
        rw [e]
        refine so_seqL (so_if (PW.pt (pdw_and (k1 := true) (pdt_cmp (pd_var 4) pd_non cmp_isN) (pdw_and1 (pdt_is (pdt_cmp (pd_ix (pd_var 3) pd_int rfl) (pd_tup (pds_two pd_str pd_str)) cmp_niT) (congrArg Bool.not (in_nk s.s))))))
          (fun h => so_toS (so_seq (so_app 5 (pd_tup (pds_two pd_str (pd_to (pd_tup (pds_two (pd_tup (pds_cons pd_str (pds_cons (pd_var 10) (pds_cons pd_bl (pds_cons (pd_tup (pds_two (pd_tup (pds_two pd_bl pd_non)) (pd_tup (pds_two pd_bl pd_non)))) pds_nil))))) pd_non)) (show _ = dL (lostBy ⟨s, none⟩ ag) from rfl)))) (by simp [noL, noLs, noL_dL]) hlen) so_nil) (by rw [Bool.true_and] at h; rw [h]; rfl))
          (fun h => so_toS (so_seq (so_if (k := false) (pdt_cmp (pd_var 4) pd_non cmp_notN) (fun h => nomatch h) (fun _ => so_nil)) so_nil) (by rw [Bool.true_and] at h; rw [h, cond_false, List.append_nil]))) (so_ret 5)
      | some q =>
        have hn : s.s ≠ .none := fun z => nomatch hv z
        have e : canLose ⟨s, some q⟩ = true := by
          rw [canLose]
          cases hs : s.s <;> first | rfl | exact absurd hs hn
        rw [e]
        exact so_seqL (so_if (k := false) (PW.pt (pdw_andF (pdt_cmp (pd_var 4) pd_non cmp_isN))) (fun h => nomatch h) (fun _ => so_seq (so_if (k := true) (pdt_cmp (pd_var 4) pd_non cmp_notN)
          (fun _ => so_seq (so_app 5 (pd_tup (pds_two pd_str (pd_to (pd_tup (pds_two (pd_tup (pds_cons pd_str (pds_cons (pd_var 10) (pds_cons (pd_ix (pd_var 4) pd_int rfl) (pds_cons (pd_ix (pd_var 4) pd_int rfl) pds_nil))))) pd_non)) (show _ = dL (lostBy ⟨s, some q⟩ ag) from rfl)))) (by simp [noL, noLs, noL_dL]) hlen) so_nil) (fun h => nomatch h)) so_nil)) (so_ret 5)
end
end CM
set_option Elab.async false
set_option linter.all false
set_option maxRecDepth 100000
set_option maxHeartbeats 4000000
/-! CM13: _law_lose_bad, _law_is_calm, are_calm. -/
namespace CM
open PySem L2
open PyProof.Rows (envOfC)
def lawLoseBad (w : Wd) (p : Pl) : List Wish := lawBad p.st ++ cond (lawLeft w p.st) [.left] []
def rLlb (ds : List D) (es : List D) : Prop := ∃ w p, ds = [dWs w, dL p] ∧ es = (lawLoseBad w p).map dWish
def closedAt (w : Wd) (ag : Bool) (ps : List Pl) (p : Pl) : Bool := ((deedsAt p).map fun d => decide (plBy w p ag d ∈ ps)).all id
def calmL (w : Wd) (x : Wish) (ag : Bool) (ps : List Pl) : Bool := decide (begin0 ∈ ps) && ps.all fun p => !decide (x ∈ lawLoseBad w p) && closedAt w ag ps p
def calmP (w : Wd) (x : Wish) (ag : Bool) (ps : List Pl) : Bool := decide (begin0 ∈ ps) && ps.all fun p => !(standsBad p.st x || beginsBad w p x) && closedAt w ag ps p
def rLca (ds : List D) (d : D) : Prop := ∃ w x ag ps, ds = [dWs w, dWish x, .bl ag, .lst (ps.map dL)] ∧ ps.length ≤ 8000000 ∧ (∀ p ∈ ps, Valid p) ∧ d = .bl (calmL w x ag ps)
def rAca (ds : List D) (d : D) : Prop := ∃ w x ag ps, ds = [dW w, dWish x, .bl ag, .lst (ps.map dL)] ∧ ps.length ≤ 8000000 ∧ d = .bl (calmP w x ag ps)
theorem all_mem {α : Type} {f : α → Bool} {as bs : List α} (h : ∀ p, p ∈ as ↔ p ∈ bs) : as.all f = bs.all f := by
  rw [Bool.eq_iff_iff, List.all_eq_true, List.all_eq_true]
  exact ⟨fun k p hp => k p ((h p).mpr hp), fun k p hp => k p ((h p).mp hp)⟩
theorem closed_mem {w : Wd} {ag : Bool} {as bs : List Pl} (h : ∀ p, p ∈ as ↔ p ∈ bs) (p : Pl) : closedAt w ag as p = closedAt w ag bs p := by
  unfold closedAt
  congr 1
  refine List.map_congr_left fun d _ => ?_
  rw [Bool.eq_iff_iff, decide_eq_true_eq, decide_eq_true_eq]
  exact h _
theorem keys_true (kl : List Pl) : (kl.map fun p => (p, D.bl true)).map (·.1) = kl := by
  rw [List.map_map]
  exact List.map_id' kl
theorem all_f {α : Type} {f : α → Bool} {as : List α} {p : α} (h : p ∈ as) (e : f p = false) : as.all f = false := by
  cases q : as.all f with
  | false => rfl
  | true => rw [List.all_eq_true.mp q p h] at e; cases e
theorem inD_wish (x : Wish) (xs : List Wish) : inD (.str x.str) (xs.map dWish) = decide (x ∈ xs) := by
  unfold inD inV
  induction xs with
  | nil => rfl
  | cons y ys ih =>
    rw [List.map_cons, List.map_cons, List.any_cons, ih]
    have e : eqV (vD (dWish y)) (vD (.str x.str)) = decide (x = y) := by cases x <;> cases y <;> decide +kernel
    rw [e, Bool.eq_iff_iff]
    simp
section
variable {P : Program} {w : World} {K : PySem.W.Frag} {mg : Str → Option Value} {base : Heap}
theorem sc_llb : FnScope ["_law_words_here", "_law_place"] ["_law_words_here", "_law_place"] (defScope (top 71)) := ⟨rfl, rfl, rfl, by decide +kernel, rfl, by decide +kernel, by decide +kernel⟩
theorem lawBad_len (s : Sta) : (lawBad s).length ≤ 3 := by
  unfold lawBad
  have h1 : ([Wish.elder, Wish.twice].filter fun x => fateIn x s).length ≤ 2 := List.length_filter_le _ _
  cases ((!decide (s.s = .kept)) || s.a.f.isNone) <;> cases (!decide (s.a.f = s.b.f)) <;> simp <;> omega
theorem ok_llb (T : Top K w mg) : Dok P w K mg base 4 "_law_lose_bad" ["_law_words_here", "_law_place"] (spDL K rLlb) :=
  dokL T.d_law_lose_bad sc_llb (fun ds d ⟨w, p, e, _⟩ => by subst e; rfl) (fun _ _ _ _ _ _ us hl => match us, hl with | [_, _], _ => rfl) fun ds d ⟨w, p, e, ed⟩ f cdv A outer s' H E hr => by
    subst e ed
    refine srl_ret (pdl_to (pdl_cat (pdl_call (ok_lba T) (hr.mono (by decide)) (pds_cons (pd_ix (pd_var 1) pd_int rfl) pds_nil) ⟨p.st, rfl, rfl⟩) (pdl_ifC (pdt_val (pd_call (ok_lil T) (hr.mono (by decide)) (pds_two (pd_var 0) (pd_ix (pd_var 1) pd_int rfl)) ⟨w, p.st, rfl, rfl⟩)) (pdl_lst (pds_cons pd_str pds_nil)) (pdl_lst pds_nil)) ?_) ?_)
    · have h1 := lawBad_len p.st
      have h2 : (cond (lawLeft w p.st) [D.str "left"] []).length ≤ 1 := by cases lawLeft w p.st <;> simp
      rw [List.length_map]; omega
    · rw [lawLoseBad, List.map_append]
      cases lawLeft w p.st <;> rfl
theorem sc_lca : FnScope ["_law_words_here", "_law_wish", "_law_flag", "_law_places", "_law_known", "_law_place", "_law_deed", "_law_late"] ["_law_words_here", "_law_wish", "_law_flag", "_law_places"] (defScope (top 73)) := ⟨rfl, rfl, rfl, by decide +kernel, rfl, by decide +kernel, by decide +kernel⟩
theorem lmv_len (w : Wd) (p : Pl) (ag : Bool) : (deedsAt p).length ≤ 8 := by
  have h := deedsIn_len p.st.s
  unfold deedsAt
  cases canLose p <;> simp <;> omega
theorem ok_lca (T : Top K w mg) : Dok P w K mg base 5 "_law_is_calm" ["_law_words_here", "_law_wish", "_law_flag", "_law_places"] (spD K rLca) :=
  dokD T.d_law_is_calm sc_lca (fun ds d ⟨w, x, ag, ps, e, _⟩ => by subst e; rfl) (fun _ _ _ _ _ _ us hl => match us, hl with | [_, _, _, _], _ => rfl) fun ds d ⟨wd, x, ag, ps, e, hz, hv, ed⟩ f cdv A outer s' H E hr => by
    subst e ed
    refine sr_known (as := ps) 4 rfl (units_of hr (by decide)) T.fdict (pdl_to (pdl_lcL (own := [("_law_place", 5)]) 5 ps dL (fun p => .tup [dL p, .bl true]) (fun _ => true) rfl sc_lca.nd (pd_var 3)
      (blkOk_by (N := ["_law_words_here", "_law_wish", "_law_flag", "_law_places", "_law_known", "_law_place", "_law_deed", "_law_late"]) (sc := defScope (top 73)) (own := [("_law_place", 5)]) (by decide +kernel)) (fun _ _ _ _ _ => pg_name (i := 5) sc_lca.nd rfl (Or.inl rfl)) (fun _ _ _ _ _ _ _ => pdts_nil)
      (fun p _ _ _ _ _ _ _ => pd_tup (pds_two (pd_var 5) pd_bl)) (fun p _ => by simp [noL, noLs, noL_dL]) (fun σ v => by simp [wipe, List.set_set]) hz) (by rw [List.filter_eq_self.mpr (fun _ _ => rfl)])) hz (fun kl hk => ?_) sc_lca.nd
    have hk0 : decide (begin0 ∈ kl) = decide (begin0 ∈ ps) := by rw [Bool.eq_iff_iff, decide_eq_true_eq, decide_eq_true_eq]; exact hk _
    refine sr_norm [some (dWs wd), some (dWish x), some (.bl ag), some (.lst (ps.map dL)), some (dPl P w K (kl.map fun p => (p, .bl true))), none, none, none] ?_
    refine sr_if (pdt_is (pdt_cmp (pd_to (pd_tup (pds_two (pd_tup (pds_cons pd_str (pds_cons pd_bl (pds_cons pd_bl (pds_cons (pd_tup (pds_two (pd_tup (pds_two pd_bl pd_non)) (pd_tup (pds_two pd_bl pd_non)))) pds_nil))))) pd_non)) (show _ = dL begin0 from rfl)) (pd_var 4) (cmp_niP (units_of hr (by decide)))) (show _ = !decide (begin0 ∈ ps) by rw [keys_true, hk0])) (fun h => sr_ret (pd_to pd_bl ?_)) (fun h => ?_)
    · rw [calmL]
      rw [Bool.not_eq_true'] at h
      rw [h]; rfl
    rw [Bool.not_eq_false'] at h
    refine sr_forK 5 (fun p => !decide (x ∈ lawLoseBad wd p) && closedAt wd ag ps p) rfl (pd_var 4) PassesOwn.never (pg_name (i := 5) sc_lca.nd rfl (Or.inl rfl)) (fun p hp hc => ?_) (fun j p hp _ hc => ?_) (fun ha => sr_ret (pd_to pd_bl ?_))
    · rw [keys_true] at hp
      have hvp := hv p ((hk p).mp hp)
      rw [Bool.and_eq_true] at hc
      refine ⟨[some (dWs wd), some (dWish x), some (.bl ag), some (.lst (ps.map dL)), some (dPl P w K (kl.map fun p => (p, .bl true))), some (dL p), none, none], by repeat (first | exact Le.nil | refine Le.no ?_ | refine Le.yes ?_), ?_⟩
      show SN _ [some (dWs wd), some (dWish x), some (.bl ag), some (.lst (ps.map dL)), some (dPl P w K (kl.map fun p => (p, .bl true))), some (dL p), none, none] _ _
      refine sn_seq (sn_skip (pdt_is (pdt_cmp (pd_var 1) (pd_l (pdl_call (ok_llb T) (hr.mono (by decide)) (pds_two (pd_var 0) (pd_var 5)) ⟨wd, p, rfl, rfl⟩)) (cmp_inL rfl (by rw [List.all_map]; exact List.all_eq_true.mpr fun _ _ => rfl))) (by rw [dWish, inD_wish]; exact (Bool.not_eq_true' _).mp hc.1))) (sn_seq (sn_skip (pdt_is (pdt_not (pdt_val (pd_all (bs := (deedsAt p).map fun d => decide (plBy wd p ag d ∈ ps)) rfl T.fall (pd_to (pd_l (pdl_lc2L (own := [("_law_deed", 6), ("_law_late", 7)]) 6 7 (deedsAt p) dDeed (fun d => dL (plBy wd p ag d)) (fun d => .bl (decide (plBy wd p ag d ∈ ps))) (fun _ => true) rfl sc_lca.nd
        (pd_l (pdl_call (ok_llm T) (hr.mono (by decide)) (pds_cons (pd_var 0) (pds_cons (pd_var 5) (pds_cons (pd_var 2) pds_nil))) ⟨wd, p, ag, rfl, hvp, rfl⟩))
        (blkOk_by (N := ["_law_words_here", "_law_wish", "_law_flag", "_law_places", "_law_known", "_law_place", "_law_deed", "_law_late"]) (sc := defScope (top 73)) (own := [("_law_deed", 6), ("_law_late", 7)]) (by decide +kernel)) (fun _ _ _ _ _ => pg_tup rfl (pgs_cons (pg_name (i := 6) sc_lca.nd rfl (Or.inl rfl)) (pgs_cons (pg_name (i := 7) sc_lca.nd rfl (Or.inl rfl)) pgs_nil))) (fun _ _ _ _ _ _ _ => pdts_nil)
        (fun d _ _ _ _ _ _ _ => pd_isb (pd_cmp (pd_var 7) (pd_var 4) (cmp_inP (units_of hr (by decide)))) (by rw [keys_true, Bool.eq_iff_iff, decide_eq_true_eq, decide_eq_true_eq]; exact hk _)) (fun d _ => rfl) (fun σ v u => by simp [wipe, List.set_set, List.set_comm]) (Nat.le_trans (lmv_len wd p ag) (by decide)))) (by rw [List.filter_eq_self.mpr (fun _ _ => rfl), List.map_map]; rfl))))) (show _ = false from by have e := hc.2; unfold closedAt at e; rw [e]; rfl))) sn_nil)
    · rw [keys_true] at hp
      have hpm := (hk p).mp (List.mem_of_getElem? hp)
      have hvp := hv p hpm
      have hd : calmL wd x ag ps = false := by rw [calmL, all_f hpm hc, Bool.and_false]
      rw [hd]
      show SR _ [some (dWs wd), some (dWish x), some (.bl ag), some (.lst (ps.map dL)), some (dPl P w K (kl.map fun p => (p, .bl true))), some (dL p), none, none] _ _
      refine sr_if (pdt_is (pdt_cmp (pd_var 1) (pd_l (pdl_call (ok_llb T) (hr.mono (by decide)) (pds_two (pd_var 0) (pd_var 5)) ⟨wd, p, rfl, rfl⟩)) (cmp_inL rfl (by rw [List.all_map]; exact List.all_eq_true.mpr fun _ _ => rfl))) (show _ = decide (x ∈ lawLoseBad wd p) by rw [dWish, inD_wish])) (fun _ => sr_ret pd_bl) (fun h1 => sr_if (pdt_is (pdt_not (pdt_val (pd_all (bs := (deedsAt p).map fun d => decide (plBy wd p ag d ∈ ps)) rfl T.fall (pd_to (pd_l (pdl_lc2L (own := [("_law_deed", 6), ("_law_late", 7)]) 6 7 (deedsAt p) dDeed (fun d => dL (plBy wd p ag d)) (fun d => .bl (decide (plBy wd p ag d ∈ ps))) (fun _ => true) rfl sc_lca.nd
        (pd_l (pdl_call (ok_llm T) (hr.mono (by decide)) (pds_cons (pd_var 0) (pds_cons (pd_var 5) (pds_cons (pd_var 2) pds_nil))) ⟨wd, p, ag, rfl, hvp, rfl⟩))
        (blkOk_by (N := ["_law_words_here", "_law_wish", "_law_flag", "_law_places", "_law_known", "_law_place", "_law_deed", "_law_late"]) (sc := defScope (top 73)) (own := [("_law_deed", 6), ("_law_late", 7)]) (by decide +kernel)) (fun _ _ _ _ _ => pg_tup rfl (pgs_cons (pg_name (i := 6) sc_lca.nd rfl (Or.inl rfl)) (pgs_cons (pg_name (i := 7) sc_lca.nd rfl (Or.inl rfl)) pgs_nil))) (fun _ _ _ _ _ _ _ => pdts_nil)
        (fun d _ _ _ _ _ _ _ => pd_isb (pd_cmp (pd_var 7) (pd_var 4) (cmp_inP (units_of hr (by decide)))) (by rw [keys_true, Bool.eq_iff_iff, decide_eq_true_eq, decide_eq_true_eq]; exact hk _)) (fun d _ => rfl) (fun σ v u => by simp [wipe, List.set_set, List.set_comm]) (Nat.le_trans (lmv_len wd p ag) (by decide)))) (by rw [List.filter_eq_self.mpr (fun _ _ => rfl), List.map_map]; rfl))))) (show _ = !closedAt wd ag ps p from rfl)) (fun _ => sr_ret pd_bl) (fun h2 => ?_))
      rw [h1, Bool.not_false, Bool.true_and] at hc
      rw [hc] at h2
      cases h2
    · rw [keys_true] at ha
      rw [calmL, h, Bool.true_and, eq_comm]
      refine congrArg D.bl (List.all_eq_true.mpr fun p hp => ha p ((hk p).mpr hp))
end
end CM
set_option Elab.async false
set_option linter.all false
set_option maxRecDepth 100000
set_option maxHeartbeats 4000000
/-! CM14: are_calm; loops over words that fill a list and may hand back. -/
namespace CM
open PySem L2
open PyProof.Rows (envOfC)
section
variable {P : Program} {w : World} {K : PySem.W.Frag} {mg : Str → Option Value} {base : Heap}
theorem sc_aca : FnScope ["rules", "wish", "again", "places", "known", "place", "deed"] ["rules", "wish", "again", "places"] (defScope (top 49)) := ⟨rfl, rfl, rfl, by decide +kernel, rfl, by decide +kernel, by decide +kernel⟩
theorem ok_aca (T : Top K w mg) : Dok P w K mg base 7 "are_calm" ["rules", "wish", "again", "places"] (spD K rAca) :=
  dokD T.dare_calm sc_aca (fun ds d ⟨w, x, ag, ps, e, _⟩ => by subst e; rfl) (fun _ _ _ _ _ _ us hl => match us, hl with | [_, _, _, _], _ => rfl) fun ds d ⟨wd, x, ag, ps, e, hz, ed⟩ f cdv A outer s' H E hr => by
    subst e ed
    refine sr_known (as := ps) 4 rfl (units_of hr (by decide)) T.fdict (pdl_to (pdl_lcL (own := [("place", 5)]) 5 ps dL (fun p => .tup [dL p, .bl true]) (fun _ => true) rfl sc_aca.nd (pd_var 3)
      (blkOk_by (N := ["rules", "wish", "again", "places", "known", "place", "deed"]) (sc := defScope (top 49)) (own := [("place", 5)]) (by decide +kernel)) (fun _ _ _ _ _ => pg_name (i := 5) sc_aca.nd rfl (Or.inl rfl)) (fun _ _ _ _ _ _ _ => pdts_nil)
      (fun p _ _ _ _ _ _ _ => pd_tup (pds_two (pd_var 5) pd_bl)) (fun p _ => by simp [noL, noLs, noL_dL]) (fun σ v => by simp [wipe, List.set_set]) hz) (by rw [List.filter_eq_self.mpr (fun _ _ => rfl)])) hz (fun kl hk => ?_) sc_aca.nd
    have hk0 : decide (begin0 ∈ kl) = decide (begin0 ∈ ps) := by rw [Bool.eq_iff_iff, decide_eq_true_eq, decide_eq_true_eq]; exact hk _
    refine sr_norm [some (dW wd), some (dWish x), some (.bl ag), some (.lst (ps.map dL)), some (dPl P w K (kl.map fun p => (p, .bl true))), none, none] ?_
    refine sr_if (pdt_is (pdt_cmp (pd_to (pd_gl T.gBEGIN) (show _ = dL begin0 from rfl)) (pd_var 4) (cmp_niP (units_of hr (by decide)))) (show _ = !decide (begin0 ∈ ps) by rw [keys_true, hk0])) (fun h => sr_ret (pd_to pd_bl ?_)) (fun h => ?_)
    · rw [calmP]
      rw [Bool.not_eq_true'] at h
      rw [h]; rfl
    rw [Bool.not_eq_false'] at h
    refine sr_forK 5 (fun p => !(standsBad p.st x || beginsBad wd p x) && closedAt wd ag ps p) rfl (pd_var 4) PassesOwn.never (pg_name (i := 5) sc_aca.nd rfl (Or.inr rfl)) (fun p hp hc => ?_) (fun j p hp _ hc => ?_) (fun ha => sr_ret (pd_to pd_bl ?_))
    · rw [keys_true] at hp
      rw [Bool.and_eq_true] at hc
      refine ⟨[some (dW wd), some (dWish x), some (.bl ag), some (.lst (ps.map dL)), some (dPl P w K (kl.map fun p => (p, .bl true))), some (dL p), none], by repeat (first | exact Le.nil | refine Le.no ?_ | refine Le.yes ?_), ?_⟩
      show SN _ [some (dW wd), some (dWish x), some (.bl ag), some (.lst (ps.map dL)), some (dPl P w K (kl.map fun p => (p, .bl true))), some (dL p), none] _ _
      refine sn_seq (sn_skip (pdt_is (PW.pt (pdw_or (pdt_val (pd_call (ok_sta T) (hr.mono (by decide)) (pds_two (pd_ix (pd_var 5) pd_int rfl) (pd_var 1)) ⟨p.st, x, rfl, rfl⟩)) (pdw_or1 (pdt_val (pd_call (ok_bgw T) (hr.mono (by decide)) (pds_cons (pd_var 0) (pds_cons (pd_var 5) (pds_cons (pd_var 1) pds_nil))) ⟨wd, p, x, rfl, rfl⟩))))) ((Bool.not_eq_true' _).mp hc.1))) (sn_seq (sn_skip (pdt_is (pdt_not (pdt_val (pd_all (bs := (deedsAt p).map fun d => decide (plBy wd p ag d ∈ ps)) rfl T.fall (pd_to (pd_l (pdl_lcL (own := [("deed", 6)]) 6 (deedsAt p) dDeed (fun d => .bl (decide (plBy wd p ag d ∈ ps))) (fun _ => true) rfl sc_aca.nd
        (pd_l (pdl_call (ok_dat T) (hr.mono (by decide)) (pds_two (pd_var 0) (pd_var 5)) ⟨wd, p, rfl, rfl⟩))
        (blkOk_by (N := ["rules", "wish", "again", "places", "known", "place", "deed"]) (sc := defScope (top 49)) (own := [("deed", 6)]) (by decide +kernel)) (fun _ _ _ _ _ => pg_name (i := 6) sc_aca.nd rfl (Or.inl rfl)) (fun _ _ _ _ _ _ _ => pdts_nil)
        (fun d _ _ _ _ _ _ _ => pd_isb (pd_cmp (pd_call (ok_plb T) (hr.mono (by decide)) (pds_cons (pd_var 0) (pds_cons (pd_var 5) (pds_cons (pd_var 6) (pds_cons (pd_var 2) pds_nil)))) ⟨wd, p, d, ag, rfl, rfl⟩) (pd_var 4) (cmp_inP (units_of hr (by decide)))) (by rw [keys_true, Bool.eq_iff_iff, decide_eq_true_eq, decide_eq_true_eq]; exact hk _)) (fun d _ => rfl) (fun σ v => by simp [wipe, List.set_set]) (Nat.le_trans (lmv_len wd p ag) (by decide)))) (by rw [List.filter_eq_self.mpr (fun _ _ => rfl), List.map_map]; rfl))))) (show _ = false from by have e := hc.2; unfold closedAt at e; rw [e]; rfl))) sn_nil)
    · rw [keys_true] at hp
      have hpm := (hk p).mp (List.mem_of_getElem? hp)
      have hd : calmP wd x ag ps = false := by rw [calmP, all_f hpm hc, Bool.and_false]
      rw [hd]
      show SR _ [some (dW wd), some (dWish x), some (.bl ag), some (.lst (ps.map dL)), some (dPl P w K (kl.map fun p => (p, .bl true))), some (dL p), none] _ _
      refine sr_if (PW.pt (pdw_or (pdt_val (pd_call (ok_sta T) (hr.mono (by decide)) (pds_two (pd_ix (pd_var 5) pd_int rfl) (pd_var 1)) ⟨p.st, x, rfl, rfl⟩)) (pdw_or1 (pdt_val (pd_call (ok_bgw T) (hr.mono (by decide)) (pds_cons (pd_var 0) (pds_cons (pd_var 5) (pds_cons (pd_var 1) pds_nil))) ⟨wd, p, x, rfl, rfl⟩))))) (fun _ => sr_ret pd_bl) (fun h1 => sr_if (pdt_is (pdt_not (pdt_val (pd_all (bs := (deedsAt p).map fun d => decide (plBy wd p ag d ∈ ps)) rfl T.fall (pd_to (pd_l (pdl_lcL (own := [("deed", 6)]) 6 (deedsAt p) dDeed (fun d => .bl (decide (plBy wd p ag d ∈ ps))) (fun _ => true) rfl sc_aca.nd
        (pd_l (pdl_call (ok_dat T) (hr.mono (by decide)) (pds_two (pd_var 0) (pd_var 5)) ⟨wd, p, rfl, rfl⟩))
        (blkOk_by (N := ["rules", "wish", "again", "places", "known", "place", "deed"]) (sc := defScope (top 49)) (own := [("deed", 6)]) (by decide +kernel)) (fun _ _ _ _ _ => pg_name (i := 6) sc_aca.nd rfl (Or.inl rfl)) (fun _ _ _ _ _ _ _ => pdts_nil)
        (fun d _ _ _ _ _ _ _ => pd_isb (pd_cmp (pd_call (ok_plb T) (hr.mono (by decide)) (pds_cons (pd_var 0) (pds_cons (pd_var 5) (pds_cons (pd_var 6) (pds_cons (pd_var 2) pds_nil)))) ⟨wd, p, d, ag, rfl, rfl⟩) (pd_var 4) (cmp_inP (units_of hr (by decide)))) (by rw [keys_true, Bool.eq_iff_iff, decide_eq_true_eq, decide_eq_true_eq]; exact hk _)) (fun d _ => rfl) (fun σ v => by simp [wipe, List.set_set]) (Nat.le_trans (lmv_len wd p ag) (by decide)))) (by rw [List.filter_eq_self.mpr (fun _ _ => rfl), List.map_map]; rfl))))) (show _ = !closedAt wd ag ps p from rfl)) (fun _ => sr_ret pd_bl) (fun h2 => ?_))
      rw [h1, Bool.not_false, Bool.true_and] at hc
      rw [hc] at h2
      cases h2
    · rw [keys_true] at ha
      rw [calmP, h, Bool.true_and, eq_comm]
      refine congrArg D.bl (List.all_eq_true.mpr fun p hp => ha p ((hk p).mpr hp))
end
/-! ### loops that fill a list and may hand back -/
def tOG (K : PySem.W.Frag) (l : Addr) (κ : (V → Hp → Prop) → Hp → Prop) (ρ : Kn) (ds : List D) : TS := fun D σ H => EA K (mask l H) σ ρ ∧ (∃ ys, H l = some (.lst ys) ∧ AtL K (mask l H) ds ys) ∧ κ D.rt H
def κR (K : PySem.W.Frag) (l : Addr) (d : D) (rt : V → Hp → Prop) (H : Hp) : Prop := ∀ v H', Same (mask l H) (mask l H') → At K H' d v → rt v H'
def κL (K : PySem.W.Frag) (l : Addr) (es : List D) (rt : V → Hp → Prop) (H : Hp) : Prop := ∀ xs H', Same (mask l H) (mask l H') → H' l = some (.lst xs) → AtL K H' es xs → rt (.ref l) H'
theorem κR_s {K : PySem.W.Frag} {l : Addr} {d : D} {rt : V → Hp → Prop} {H H' : Hp} (e : Same (mask l H) (mask l H')) (h : κR K l d rt H) : κR K l d rt H' := fun v H2 e2 => h v H2 (e.trans e2)
theorem κL_s {K : PySem.W.Frag} {l : Addr} {es : List D} {rt : V → Hp → Prop} {H H' : Hp} (e : Same (mask l H) (mask l H')) (h : κL K l es rt H) : κL K l es rt H' := fun v H2 e2 => h v H2 (e.trans e2)
def dSq (b : Bool) (ds : List D) : D := cond b (.tup ds) (.lst ds)
section
variable {X : Cx} {l : Addr} {κ : (V → Hp → Prop) → Hp → Prop} {α : Type} {as : List α} {g : α → D} {body rest : List Stmt} {tg : Expr} {F : Nat → List D} {ρs : Nat → Kn} {ρ3 : Nat → α → Kn} {i ic : Nat} {pos p : Pos} {xc : Str} {b : Bool}
def tbG (X : Cx) (l : Addr) (κ : (V → Hp → Prop) → Hp → Prop) (as : List α) (g : α → D) (body : List Stmt) (F : Nat → List D) (ρs : Nat → Kn) (ρ3 : Nat → α → Kn) (i : Nat) (al : Nat → Prop) : TS := fun D σ H => ∃ n a, as[n]? = some a ∧ al n ∧ ((PSs X body (tO X.K l ((ρs n).set i (some (g a))) (F n) (ρ3 n a) (F (n + 1))) ∧ tO X.K l ((ρs n).set i (some (g a))) (F n) (ρ3 n a) (F (n + 1)) D σ H) ∨ (PSs X body (tOG X.K l κ ((ρs n).set i (some (g a))) (F n)) ∧ tOG X.K l κ ((ρs n).set i (some (g a))) (F n) D σ H))
theorem so_forG (i ic : Nat) (b : Bool) (as : List α) (g : α → D) (F : Nat → List D) (ρs : Nat → Kn) (ρ3 : Nat → α → Kn) (al : Nat → Prop) (h0 : al 0) (hκ : ∀ rt H H', Same (mask l H) (mask l H') → κ rt H → κ rt H') (hc : X.calm = true) (hp : PassesOwn (model X.prog X.w) X.A X.env X.xe) (hg : PG X tg (gName i))
    (hb : ∀ n a, as[n]? = some a → al n → (PSs X body (tO X.K l ((ρs n).set i (some (g a))) (F n) (ρ3 n a) (F (n + 1))) ∧ Le (ρs (n + 1)) (ρ3 n a) ∧ al (n + 1)) ∨ PSs X body (tOG X.K l κ ((ρs n).set i (some (g a))) (F n)))
    (hr : al as.length → PSs X rest (tOG X.K l κ (ρs as.length) (F as.length)))
    (h1 : (ρs 0)[ic]? = some (some (dSq b (as.map g))) := by rfl) (n1 : X.N[ic]? = some xc := by rfl) (v1 : Vis X.env.scope xc := by first | exact Or.inl rfl | exact Or.inr (Or.inl rfl) | exact Or.inr (Or.inr rfl)) (q1 : (xc == ("__debug__" : Str)) = false := by decide) (q2 : (xc == ("__classdict__" : Str)) = false := by decide)
    (hs : ∀ x, foldedSetIterable (.Name xc p) X.env x = pure x := by intro _; rfl) : PSs X (.For tg (.Name xc p) body [] pos :: rest) (tOG X.K l κ (ρs 0) (F 0)) := by
  have hbody : PSs X body (tbG X l κ as g body F ρs ρ3 i al) := ⟨fun pins s σ H D I ⟨n, a, _, _, q⟩ => by
    rcases q with ⟨hb, q⟩ | ⟨hb, q⟩
    · exact hb.run pins s σ H D I q
    · exact hb.run pins s σ H D I q⟩
  have hrest : PSs X rest (fun D σ H => al as.length ∧ tOG X.K l κ (ρs as.length) (F as.length) D σ H) := ⟨fun pins s σ H D I ⟨ha, q⟩ => (hr ha).run pins s σ H D I q⟩
  have turn : ∀ (H1 : Hp) (D : Ends) (n : Nat) (a : α) (v : V) (σ : L2.St) (H' : Hp), as[n]? = some a → At X.K (mask l H') (g a) v → (Same (mask l H1) (mask l H') ∧ al n ∧ EA X.K (mask l H') σ (ρs n) ∧ (∃ ys, H' l = some (.lst ys) ∧ AtL X.K (mask l H') (F n) ys) ∧ κ D.rt H') →
      gName i v σ H' fun σ2 H2 => (tbG X l κ as g body F ρs ρ3 i al)
        { D with nx := fun σ H' => Same (mask l H1) (mask l H') ∧ al (n + 1) ∧ EA X.K (mask l H') σ (ρs (n + 1)) ∧ (∃ ys, H' l = some (.lst ys) ∧ AtL X.K (mask l H') (F (n + 1)) ys) ∧ κ D.rt H', ct := fun σ H' => Same (mask l H1) (mask l H') ∧ al (n + 1) ∧ EA X.K (mask l H') σ (ρs (n + 1)) ∧ (∃ ys, H' l = some (.lst ys) ∧ AtL X.K (mask l H') (F (n + 1)) ys) ∧ κ D.rt H', bk := D.nx } σ2 H2 := by
    intro H1 D n a v σ H' ha av ⟨sm, hal, ea, ⟨ys, hl, hal2⟩, hk⟩
    refine ⟨n, a, ha, hal, ?_⟩
    rcases hb n a ha hal with ⟨hb, hle, hal'⟩ | hb
    · exact .inl ⟨hb, ea.set av, ⟨ys, hl, hal2⟩, fun σ3 H3 ys3 e3 ea3 hl3 al3 => ⟨sm.trans e3, hal', ea3.le hle, ⟨ys3, hl3, al3⟩, hκ _ _ _ e3 hk⟩⟩
    · exact .inr ⟨hb, ea.set av, ⟨ys, hl, hal2⟩, hk⟩
  cases b with
  | true =>
    refine pss_w (pss_cons (ps_for hp hc (pi_tup (pe_var n1 v1 q1 q2)) hg hbody hs) hrest) fun D σ H ⟨ea, ow, hk⟩ => ?_
    obtain ⟨u1, hu1, a1⟩ := ea.2 ic _ h1
    simp only [dSq, cond_true, At] at a1
    obtain ⟨b1, xs, rfl, hx, bl1⟩ := a1
    refine ⟨_, hu1, b1, rfl, ⟨xs, sqT_same mask_le hx⟩, ?_⟩
    refine for_tup (K := X.K) (g := gName i) (tb := tbG X l κ as g body F ρs ρ3 i al) (D := { D with nx := fun σ H => al as.length ∧ tOG X.K l κ (ρs as.length) (F as.length) D σ H }) (xs := xs) (fun n σ H' => Same (mask l H) (mask l H') ∧ al n ∧ EA X.K (mask l H') σ (ρs n) ∧ (∃ ys, H' l = some (.lst ys) ∧ AtL X.K (mask l H') (F n) ys) ∧ κ D.rt H') ⟨Same.refl _, h0, ea, ow, hk⟩ (fun n σ H' _ p => sqT_same (p.1.trans mask_le) hx) (fun n v σ H' hv p => ?_) (fun σ H' p => ?_)
    · obtain ⟨d0, hd0, ad⟩ := bl1.get' hv
      obtain ⟨a, ha, rfl⟩ := get_map hd0
      exact turn H _ n a v σ H' ha (ad.same p.1) p
    · rw [bl1.length, List.length_map] at p
      exact ⟨p.2.1, p.2.2.1, p.2.2.2.1, p.2.2.2.2⟩
  | false =>
    refine pss_w (pss_cons (ps_for hp hc (pi_list (pe_var n1 v1 q1 q2)) hg hbody hs) hrest) fun D σ H ⟨ea, ow, hk⟩ => ?_
    obtain ⟨u1, hu1, a1⟩ := ea.2 ic _ h1
    simp only [dSq, cond_false, At] at a1
    obtain ⟨b1, xs, rfl, hx, bl1⟩ := a1
    refine ⟨_, hu1, b1, rfl, ⟨xs, mask_le.seq hx⟩, ?_⟩
    refine for_list (K := X.K) (g := gName i) (tb := tbG X l κ as g body F ρs ρ3 i al) (D := { D with nx := fun σ H => al as.length ∧ tOG X.K l κ (ρs as.length) (F as.length) D σ H }) (xs := xs) (fun n σ H' => Same (mask l H) (mask l H') ∧ al n ∧ EA X.K (mask l H') σ (ρs n) ∧ (∃ ys, H' l = some (.lst ys) ∧ AtL X.K (mask l H') (F n) ys) ∧ κ D.rt H') ⟨Same.refl _, h0, ea, ow, hk⟩ (fun n σ H' _ p => (p.1.trans mask_le).seq hx) (fun n v σ H' hv p => ?_) (fun σ H' p => ?_)
    · obtain ⟨d0, hd0, ad⟩ := bl1.get' hv
      obtain ⟨a, ha, rfl⟩ := get_map hd0
      exact turn H _ n a v σ H' ha (ad.same p.1) p
    · rw [bl1.length, List.length_map] at p
      exact ⟨p.2.1, p.2.2.1, p.2.2.2.1, p.2.2.2.2⟩
end
end CM
set_option Elab.async false
set_option linter.all false
set_option maxRecDepth 100000
set_option maxHeartbeats 4000000
/-! CM15: histories: places_on, _law_lose_row. -/
namespace CM
open PySem L2
open PyProof.Rows (envOfC)
/-- the words of a history: a deed, or a word that is none -/
def hW : Option Deed → Str
  | none => "moment"
  | some d => d.str
def dHw (o : Option Deed) : D := .str (hW o)
def stepP (w : Wd) (ag : Bool) (p : Pl) : Option Deed → Option Pl
  | none => none
  | some d => cond (decide (d ∈ deedsAt p)) (some (plBy w p ag d)) none
def rowsP (w : Wd) (ag : Bool) : Pl → List (Option Deed) → List Pl
  | _, [] => []
  | p, o :: r => match stepP w ag p o with
    | none => []
    | some q => q :: rowsP w ag q r
def rowL (w : Wd) (ag : Bool) : Pl → List (Option Deed) → Option (List Pl)
  | _, [] => some []
  | p, o :: r => match stepP w ag p o with
    | none => none
    | some q => (rowL w ag q r).map (q :: ·)
theorem rowsP_le (w : Wd) (ag : Bool) : ∀ (hs : List (Option Deed)) (p : Pl), (rowsP w ag p hs).length ≤ hs.length
  | [], _ => Nat.le_refl _
  | o :: r, p => by
    rw [rowsP]
    cases stepP w ag p o with
    | none => exact Nat.zero_le _
    | some q => exact Nat.succ_le_succ (rowsP_le w ag r q)
theorem rowL_eq (w : Wd) (ag : Bool) : ∀ (hs : List (Option Deed)) (p : Pl), rowL w ag p hs = if (rowsP w ag p hs).length < hs.length then none else some (rowsP w ag p hs)
  | [], _ => rfl
  | o :: r, p => by
    rw [rowL, rowsP]
    cases stepP w ag p o with
    | none =>
      show none = if ([] : List Pl).length < (o :: r).length then none else some []
      rw [if_pos (by simp)]
    | some q =>
      show (rowL w ag q r).map (q :: ·) = if (q :: rowsP w ag q r).length < (o :: r).length then none else some (q :: rowsP w ag q r)
      rw [rowL_eq w ag r q, List.length_cons, List.length_cons]
      by_cases h : (rowsP w ag q r).length < r.length
      · rw [if_pos h, if_pos (by omega)]; rfl
      · rw [if_neg h, if_neg (by omega)]; rfl
def lastD (p : Pl) (xs : List Pl) : Pl := xs.getLast?.getD p
theorem lastD_cons (p q : Pl) (xs : List Pl) : lastD p (q :: xs) = lastD q xs := by
  cases xs with
  | nil => rfl
  | cons y ys => simp [lastD, List.getLast?_cons_cons, List.getLast?_cons]
theorem lastD_snoc (p q : Pl) (xs : List Pl) : lastD p (xs ++ [q]) = q := by simp [lastD]
theorem rowsP_app (w : Wd) (ag : Bool) : ∀ (as bs : List (Option Deed)) (p : Pl), rowsP w ag p (as ++ bs) = if (rowsP w ag p as).length = as.length then rowsP w ag p as ++ rowsP w ag (lastD p (rowsP w ag p as)) bs else rowsP w ag p as
  | [], bs, p => by
    show rowsP w ag p bs = if (0 : Nat) = 0 then [] ++ rowsP w ag p bs else []
    rw [if_pos rfl]; rfl
  | o :: r, bs, p => by
    rw [List.cons_append, rowsP, rowsP]
    cases stepP w ag p o with
    | none => rw [if_neg (by simp)]
    | some q =>
      show q :: rowsP w ag q (r ++ bs) = _
      rw [rowsP_app w ag r bs q, lastD_cons]
      by_cases h : (rowsP w ag q r).length = r.length
      · rw [if_pos h, if_pos (by rw [List.length_cons, List.length_cons, h])]; rfl
      · rw [if_neg h, if_neg (by rw [List.length_cons, List.length_cons]; omega)]
def alive (w : Wd) (ag : Bool) (hs : List (Option Deed)) (n : Nat) : Prop := (rowsP w ag begin0 (hs.take n)).length = (hs.take n).length
def plN (w : Wd) (ag : Bool) (hs : List (Option Deed)) (n : Nat) : Pl := lastD begin0 (rowsP w ag begin0 (hs.take n))
theorem row_some {w : Wd} {ag : Bool} {hs : List (Option Deed)} {n : Nat} {o : Option Deed} {q : Pl} (ho : hs[n]? = some o) (ha : alive w ag hs n) (e : stepP w ag (plN w ag hs n) o = some q) : rowsP w ag begin0 (hs.take (n + 1)) = rowsP w ag begin0 (hs.take n) ++ [q] ∧ alive w ag hs (n + 1) ∧ plN w ag hs (n + 1) = q := by
  have h1 : rowsP w ag begin0 (hs.take (n + 1)) = rowsP w ag begin0 (hs.take n) ++ [q] := by
    have ha' := ha
    unfold alive at ha'
    rw [filter_snoc ho, rowsP_app, if_pos ha']
    show _ ++ rowsP w ag (plN w ag hs n) [o] = _
    rw [rowsP, e]; rfl
  refine ⟨h1, ?_, ?_⟩
  · unfold alive at ha ⊢
    rw [h1, List.length_append, ha, filter_snoc ho, List.length_append]; rfl
  · unfold plN
    rw [h1, lastD_snoc]
theorem row_none {w : Wd} {ag : Bool} {hs : List (Option Deed)} {n : Nat} {o : Option Deed} (ho : hs[n]? = some o) (ha : alive w ag hs n) (e : stepP w ag (plN w ag hs n) o = none) : rowsP w ag begin0 hs = rowsP w ag begin0 (hs.take n) ∧ (rowsP w ag begin0 hs).length < hs.length := by
  have h0 : hs = hs.take n ++ (o :: hs.drop (n + 1)) := by
    have hlt := (List.getElem?_eq_some_iff.mp ho).1
    have e2 : hs.drop n = o :: hs.drop (n + 1) := by
      rw [List.drop_eq_getElem_cons hlt, (List.getElem?_eq_some_iff.mp ho).2]
    rw [← e2, List.take_append_drop]
  have h1 : rowsP w ag begin0 hs = rowsP w ag begin0 (hs.take n) := by
    have : rowsP w ag begin0 (hs.take n ++ (o :: hs.drop (n + 1))) = rowsP w ag begin0 (hs.take n) := by
      have ha' := ha
      unfold alive at ha'
      rw [rowsP_app, if_pos ha']
      show _ ++ rowsP w ag (plN w ag hs n) (o :: hs.drop (n + 1)) = _
      rw [rowsP, e]; exact List.append_nil _
    rwa [← h0] at this
  refine ⟨h1, ?_⟩
  rw [h1, ha, List.length_take]
  have hlt := (List.getElem?_eq_some_iff.mp ho).1
  omega
theorem eqV_deed (x y : Deed) : eqV (vD (dDeed x)) (vD (.str y.str)) = decide (y = x) := by cases x <;> cases y <;> decide +kernel
theorem eqV_mom (x : Deed) : eqV (vD (dDeed x)) (vD (.str "moment")) = false := by cases x <;> decide +kernel
theorem inD_hw (o : Option Deed) (xs : List Deed) : inD (.str (hW o)) (xs.map dDeed) = (match o with | none => false | some d => decide (d ∈ xs)) := by
  unfold inD inV
  induction xs with
  | nil => cases o <;> rfl
  | cons y ys ih =>
    rw [List.map_cons, List.map_cons, List.any_cons, ih]
    cases o with
    | none => show (eqV (vD (dDeed y)) (vD (.str "moment")) || false) = false; rw [eqV_mom]; rfl
    | some d => show (eqV (vD (dDeed y)) (vD (.str d.str)) || decide (d ∈ ys)) = decide (d ∈ y :: ys); rw [eqV_deed, Bool.eq_iff_iff]; simp
theorem stepP_in (w : Wd) (ag : Bool) (p : Pl) (o : Option Deed) : inD (.str (hW o)) ((deedsAt p).map dDeed) = (stepP w ag p o).isSome := by
  rw [inD_hw]
  cases o with
  | none => rfl
  | some d => show decide (d ∈ deedsAt p) = (cond (decide (d ∈ deedsAt p)) (some (plBy w p ag d)) none).isSome; cases decide (d ∈ deedsAt p) <;> rfl
theorem stepP_some {w : Wd} {ag : Bool} {p q : Pl} {o : Option Deed} (h : stepP w ag p o = some q) : ∃ d, o = some d ∧ d ∈ deedsAt p ∧ q = plBy w p ag d := by
  cases o with
  | none => cases h
  | some d =>
    have h2 : cond (decide (d ∈ deedsAt p)) (some (plBy w p ag d)) none = some q := h
    by_cases hd : d ∈ deedsAt p
    · rw [decide_eq_true hd] at h2
      exact ⟨d, rfl, hd, (Option.some.inj h2).symm⟩
    · rw [decide_eq_false hd] at h2; cases h2
section
variable {X : Cx} {ρ : Kn} {l : Addr} {κ : (V → Hp → Prop) → Hp → Prop} {ds : List D} {c : Expr} {thn rest : List Stmt} {pos : Pos}
/-- a test that holds: the way of the if hands back -/
theorem so_ifG (hκ : ∀ rt H H', Same (mask l H) (mask l H') → κ rt H → κ rt H') (hc : PDT X ρ c true) (h : PSs X thn (tOG X.K l κ ρ ds)) : PSs X (.If c thn [] pos :: rest) (tOG X.K l κ ρ ds) :=
  pss_w (pss_cons (ps_if hc h pss_never') pss_never') fun D σ H ⟨ea, ⟨ys, hl, al⟩, hk⟩ => ⟨ea.same mask_le, fun H1 e1 => iteT ⟨ea.same (mask_same e1), ⟨ys, e1 _ _ hl, al.same (mask_same e1)⟩, hκ _ _ _ (mask_same e1) hk⟩⟩
theorem so_skip (hc : PDT X ρ c false) : PS X (.If c thn [] pos) (tO X.K l ρ ds ρ ds) := so_if (k := false) hc (fun h => nomatch h) fun _ => so_nil
theorem so_seqG {st : Stmt} {ρ1 : Kn} {ds1 : List D} (hκ : ∀ rt H H', Same (mask l H) (mask l H') → κ rt H → κ rt H') (h : PS X st (tO X.K l ρ ds ρ1 ds1)) (t : PSs X rest (tOG X.K l κ ρ1 ds1)) : PSs X (st :: rest) (tOG X.K l κ ρ ds) :=
  pss_w (pss_cons h t) fun D σ H ⟨ea, ow, q⟩ => ⟨ea, ow, fun σ1 H1 ys1 e1 ea1 h1 al1 => ⟨ea1, ⟨ys1, h1, al1⟩, hκ _ _ _ e1 q⟩⟩
end
section
variable {P : Program} {w : World} {K : PySem.W.Frag} {mg : Str → Option Value} {base : Heap}
theorem sc_pon : FnScope ["rules", "history", "again", "place", "found", "deed"] ["rules", "history", "again"] (defScope (top 46)) := ⟨rfl, rfl, rfl, by decide +kernel, rfl, by decide +kernel, by decide +kernel⟩
def rPon (ds : List D) (es : List D) : Prop := ∃ w b hs ag, ds = [dW w, dSq b (hs.map dHw), .bl ag] ∧ hs.length ≤ 8000000 ∧ es = (rowsP w ag begin0 hs).map dL
theorem ok_pon (T : Top K w mg) : Dok P w K mg base 7 "places_on" ["rules", "history", "again"] (spDL K rPon) :=
  dokL T.dplaces_on sc_pon (fun ds d ⟨w, b, hs, ag, e, _⟩ => by subst e; rfl) (fun _ _ _ _ _ _ us hl => match us, hl with | [_, _, _], _ => rfl) fun ds d ⟨wd, b, hs, ag, e, hz, ed⟩ f cdv A outer s' H E hr => by
    subst e ed
    refine srl_ownP 3 4 (pd_to (pd_gl T.gBEGIN) (show _ = dL begin0 from rfl)) sc_pon.nd (fun l => ?_) rfl
    show PSs _ _ (tOG K l (κL K l ((rowsP wd ag begin0 hs).map dL)) [some (dW wd), some (dSq b (hs.map dHw)), some (.bl ag), some (dL (plN wd ag hs 0)), some (.adr l), none] ((rowsP wd ag begin0 (hs.take 0)).map dL))
    refine so_forG 5 1 b hs dHw (fun n => (rowsP wd ag begin0 (hs.take n)).map dL) (fun n => [some (dW wd), some (dSq b (hs.map dHw)), some (.bl ag), some (dL (plN wd ag hs n)), some (.adr l), none])
      (fun n o => [some (dW wd), some (dSq b (hs.map dHw)), some (.bl ag), some (dL (plN wd ag hs (n + 1))), some (.adr l), some (dHw o)]) (alive wd ag hs) rfl (fun _ _ _ => κL_s) rfl PassesOwn.never (pg_name (i := 5) sc_pon.nd rfl (Or.inl rfl)) (fun n o ho ha => ?_) (fun ha => ?_)
    · have hlen : ((rowsP wd ag begin0 (hs.take n)).map dL).length ≤ 10000000 := by
        rw [List.length_map]
        have h1 := rowsP_le wd ag (hs.take n) begin0
        rw [List.length_take] at h1
        omega
      cases hq : stepP wd ag (plN wd ag hs n) o with
      | some q =>
        obtain ⟨h1, h2, h3⟩ := row_some ho ha hq
        obtain ⟨d, rfl, hd, rfl⟩ := stepP_some hq
        refine .inl ⟨?_, by repeat (first | exact Le.nil | refine Le.no ?_ | refine Le.yes ?_), h2⟩
        show PSs _ _ (tO _ l [some (dW wd), some (dSq b (hs.map dHw)), some (.bl ag), some (dL (plN wd ag hs n)), some (.adr l), some (.str d.str)] _ _ _)
        refine so_toS (so_seq (so_skip (pdt_is (PW.pt (pdw_or (pdt_not (pdt_val (pd_isiB (T := "str") (r := true) T.fisinstance T.fstr (by decide +kernel) (pd_var 5) tyStr (kit_ty (by decide +kernel))))) (pdw_or1 (pdt_cmp (pd_var 5) (pd_l (pdl_call (ok_dat T) (hr.mono (by decide)) (pds_two (pd_var 0) (pd_var 3)) ⟨wd, plN wd ag hs n, rfl, rfl⟩)) (cmp_niL rfl (by rw [List.all_map]; exact List.all_eq_true.mpr fun _ _ => rfl)))))) ?_))
          (so_seq (so_asg 3 (pd_to (pd_call (ok_plb T) (hr.mono (by decide)) (pds_cons (pd_var 0) (pds_cons (pd_var 3) (pds_cons (pd_var 5) (pds_cons (pd_var 2) pds_nil)))) ⟨wd, plN wd ag hs n, d, ag, rfl, rfl⟩) (show _ = dL (plN wd ag hs (n + 1)) by rw [h3])) (noL_dL _) sc_pon.nd)
          (so_seq (so_app 4 (pd_var 3) (noL_dL _) hlen) so_nil))) (by rw [h1, List.map_append, h3]; rfl)
        have e := stepP_in wd ag (plN wd ag hs n) (some d)
        rw [hq] at e
        rw [show inD (.str d.str) ((deedsAt (plN wd ag hs n)).map dDeed) = true from e]; rfl
      | none =>
        obtain ⟨h1, _⟩ := row_none ho ha hq
        refine .inr ?_
        show PSs _ _ (tOG _ l _ [some (dW wd), some (dSq b (hs.map dHw)), some (.bl ag), some (dL (plN wd ag hs n)), some (.adr l), some (.str (hW o))] _)
        refine so_ifG (fun _ _ _ => κL_s) (pdt_is (PW.pt (pdw_or (pdt_not (pdt_val (pd_isiB (T := "str") (r := true) T.fisinstance T.fstr (by decide +kernel) (pd_var 5) tyStr (kit_ty (by decide +kernel))))) (pdw_or1 (pdt_cmp (pd_var 5) (pd_l (pdl_call (ok_dat T) (hr.mono (by decide)) (pds_two (pd_var 0) (pd_var 3)) ⟨wd, plN wd ag hs n, rfl, rfl⟩)) (cmp_niL rfl (by rw [List.all_map]; exact List.all_eq_true.mpr fun _ _ => rfl)))))) ?_) ?_
        · have e := stepP_in wd ag (plN wd ag hs n) o
          rw [hq] at e
          rw [e]; rfl
        · rw [h1]
          exact so_ret 4
    · rw [List.take_of_length_le (Nat.le_refl _)]
      exact so_ret 4
end
end CM
set_option Elab.async false
set_option linter.all false
set_option maxRecDepth 100000
set_option maxHeartbeats 4000000
/-! CM16: _law_lose_row, is_upset, _law_is_upset. -/
namespace CM
open PySem L2
open PyProof.Rows (envOfC)
theorem atI_m1 {α : Type} {ds as : List α} {d : α} (h : ds = as ++ [d]) : L2.atI ds (-1) = some d := by
  subst h
  have e : ixN (as ++ [d]).length (-1) = some as.length := by
    unfold ixN
    rw [if_neg (by omega), if_pos (by simp; omega), List.length_append, List.length_singleton]
    congr 1
    omega
  unfold L2.atI
  rw [e]
  simp
theorem atI_m2 {α : Type} {ds as : List α} {d d2 : α} (h : ds = as ++ [d, d2]) : L2.atI ds (-2) = some d := by
  subst h
  have e : ixN (as ++ [d, d2]).length (-2) = some as.length := by
    unfold ixN
    rw [if_neg (by omega), if_pos (by simp; omega), List.length_append]
    congr 1
    simp; omega
  unfold L2.atI
  rw [e]
  simp
theorem snoc_of {α : Type} : ∀ {xs : List α}, xs ≠ [] → ∃ as d, xs = as ++ [d]
  | [], h => absurd rfl h
  | [x], _ => ⟨[], x, rfl⟩
  | x :: y :: r, _ => by
    obtain ⟨as, d, e⟩ := snoc_of (xs := y :: r) (List.cons_ne_nil _ _)
    exact ⟨x :: as, d, by rw [e]; rfl⟩
section
variable {X : Cx} {ρ : Kn} {e : Expr} {ds : List D} {pos p : Pos}
theorem pd_lenS (b : Bool) (hm : X.mg "len" = none) (h : PD X ρ e (dSq b ds)) (hg : Gl X "len" := by exact rfl) (hs : starEach [e] X.env = [(false, eval e X.env)] := by rfl) : PD X ρ (.Call (.Name "len" p) [e] [] pos) (.int (ds.length : Int)) :=
  pe_w (pe_callB call_len_seq hg hm (by decide +kernel) (pds_cons h pds_nil hs) (by decide) (by decide) hs rfl) fun σ H Q q => ⟨q.1, fun vs H1 e1 a1 => by
    obtain ⟨v, rfl, a⟩ := atL_one a1
    cases b with
    | true =>
      simp only [dSq, cond_true, At] at a
      obtain ⟨c, xs, rfl, hx, al⟩ := a
      exact ⟨c, xs, rfl, .inr hx, by rw [al.length]; exact q.2 _ H1 e1 (by simp only [At])⟩
    | false =>
      simp only [dSq, cond_false, At] at a
      obtain ⟨c, xs, rfl, hx, al⟩ := a
      exact ⟨c, xs, rfl, .inl hx, by rw [al.length]; exact q.2 _ H1 e1 (by simp only [At])⟩⟩
theorem pd_lenL (hm : X.mg "len" = none) (h : PD X ρ e (.lst ds)) (hg : Gl X "len" := by exact rfl) (hs : starEach [e] X.env = [(false, eval e X.env)] := by rfl) : PD X ρ (.Call (.Name "len" p) [e] [] pos) (.int (ds.length : Int)) := pd_lenS false hm h hg hs
theorem pd_ixS (b : Bool) {i : Int} {d : D} {ix : Expr} (ha : PD X ρ e (dSq b ds)) (hb : PD X ρ ix (.int i)) (q : L2.atI ds i = some d) (hp : PlainIx ix := by exact fun _ _ => rfl) : PD X ρ (.Subscript e ix pos) d := by
  cases b with
  | true => exact pd_ix ha hb q hp
  | false => exact pd_ixL ha hb q hp
end
section
variable {X : Cx} {ρ : Kn} {l : Addr} {ds : List D} {α : Type} {own : List (Str × Nat)} {iter elt tg : Expr} {ifs : List Expr} {scope : Scope} {pos spos py : Pos} {y : Str}
theorem so_lc2L (ix : Nat) (i j : Nat) (as : List α) (g1 g2 : α → D) (f : α → D) (t : α → Bool) (hc : X.calm = true) (hN : X.N.Nodup) (hi : PD X ρ iter (.lst (as.map fun x => .tup [g1 x, g2 x]))) (ok : BlkOk X.N X.env.scope scope own)
    (hg : ∀ (s : Shared) (H : Hp) (C : Addr) (cl : List (Str × Addr)) (fp : List Addr), PG (X.blk s H scope (compEnvC scope cl C X.env) fp) tg (gTup X.K 2 (gSets [i, j])))
    (ht : ∀ d ∈ as, ∀ (s : Shared) (H : Hp) (C : Addr) (cl : List (Str × Addr)) (fp : List Addr), PTs (X.blk s H scope (compEnvC scope cl C X.env) fp) ifs (tDT X.K (K2 (wipeK ρ (own.map (·.2))) i j (g1 d) (g2 d)) (t d)))
    (he : ∀ d ∈ as, t d = true → ∀ (s : Shared) (H : Hp) (C : Addr) (cl : List (Str × Addr)) (fp : List Addr), PD (X.blk s H scope (compEnvC scope cl C X.env) fp) (K2 (wipeK ρ (own.map (·.2))) i j (g1 d) (g2 d)) elt (f d))
    (nl : ∀ d ∈ as, noL (f d) = true) (hw : ∀ (σ : L2.St) v u, wipe (((wipe σ (own.map (·.2))).set i v).set j u) (own.map (·.2)) = wipe σ (own.map (·.2))) (hy : X.N[ix]? = some y := by rfl) (hyl : X.env.scope.names.lookup y = some .local := by rfl) (hsw : swapsWith (.ListComp elt [⟨tg, iter, ifs, 0⟩] scope pos) (some (.Name y py)) spos.line X.env = pure true := by exact sw_true rfl rfl rfl (by decide +kernel)) (hsz : as.length ≤ 8000000 := by exact Nat.le_of_ble_eq_true rfl) (hs : ∀ x, foldedSetIterable iter X.env x = pure x := by intro _; rfl) :
    PS X (.Assign [.Name y py] (.ListComp elt [⟨tg, iter, ifs, 0⟩] scope pos) spos) (tO X.K l ρ ds (ρ.set ix (some (.lst ((as.filter t).map f)))) ds) :=
  ps_w (ps_setLc (tt := ttX X.K as (fun d => (K2 (wipeK ρ (own.map (·.2))) i j (g1 d) (g2 d))) t) (te := teX X.K as (fun d => (K2 (wipeK ρ (own.map (·.2))) i j (g1 d) (g2 d))) f t) hc hN hy hyl hsw (pi_list hi) ok hg (fun s H C cl fp => pts_x fun ρ' b ⟨d, hd, e1, e2⟩ => by subst e1 e2; exact ht d hd s H C cl fp) (fun s H C cl fp => pe_x fun ρ' e ⟨d, hd, h1, e1, e2⟩ => by subst e1 e2; exact he d hd h1 s H C cl fp) hs) fun D σ H ⟨ea, ⟨ys, hl, al⟩, q⟩ =>
    rd_lc2L i j as g1 g2 f t nl hw hsz (Q := fun x H1 => gName ix x σ H1 D.nx) ⟨ea.same mask_le, fun p xs H' n e hp al2 => by
      have hpl : p ≠ l := fun z => by rw [z, hl] at n; cases n
      have hl' := e _ _ hl
      have nls : noLs ((as.filter t).map f) = true := noLs_mem.mpr fun d hd => by
        obtain ⟨a, ha, rfl⟩ := List.mem_map.mp hd
        exact nl a (List.mem_filter.mp ha).1
      exact q _ H' ys (mask_same e) ((ea.same (mask_same e)).set (at_lst (SqL.of (by rw [mask_at hpl]; exact hp)) (al2.ties (ties_mask hl') nls))) hl' (al.same (mask_same e))⟩
end
theorem Valid.step {w : Wd} {ag : Bool} {p : Pl} (h : Valid p) (d : Deed) : Valid (plBy w p ag d) := by
  obtain ⟨⟨st, g, wb, a, b⟩, pa⟩ := p
  cases d with
  | lose => cases pa <;> exact fun _ => rfl
  | begin => intro z; exfalso; revert z; show (cond _ Step.opened Step.done) = _ → _; cases toRead w ⟨st, g, wb, a, b⟩ <;> intro z <;> cases z
  | read => intro z; exfalso; revert z; show (cond _ Step.half (cond _ Step.read Step.done)) = _ → _; cases decide (st = .opened) <;> cases decide (w.cl = .behind) <;> intro z <;> cases z
  | clear => intro z; cases z
  | end_ => intro z; exfalso; revert z; show (ended w ⟨st, g, wb, a, b⟩).s = _ → _; unfold ended; cases w.mb <;> intro z <;> cases z
  | wboth | wfirst | wsecond =>
    intro z
    have e : st = .none := by
      revert z
      show (written w ⟨st, g, wb, a, b⟩ _ _).s = _ → _
      unfold written
      cases a.f.isNone <;> exact id
    have e2 : pa = none := h e
    subst e2
    rfl
theorem rows_valid {w : Wd} {ag : Bool} : ∀ {hs : List (Option Deed)} {p : Pl}, Valid p → ∀ q ∈ rowsP w ag p hs, Valid q
  | [], _, _, q, hq => by cases hq
  | o :: r, p, h, q, hq => by
    rw [rowsP] at hq
    cases e : stepP w ag p o with
    | none => rw [e] at hq; cases hq
    | some z =>
      rw [e] at hq
      obtain ⟨d, _, _, rfl⟩ := stepP_some e
      rcases List.mem_cons.mp hq with k | k
      · rw [k]; exact h.step d
      · exact rows_valid (h.step d) q k
theorem valid0 : Valid begin0 := fun _ => rfl
theorem lastD_mem {p : Pl} {xs : List Pl} : lastD p xs = p ∨ lastD p xs ∈ xs := by
  unfold lastD
  cases h : xs.getLast? with
  | none => exact .inl rfl
  | some y => exact .inr (List.mem_of_getLast? h)
theorem plN_valid (w : Wd) (ag : Bool) (hs : List (Option Deed)) (n : Nat) : Valid (plN w ag hs n) := by
  unfold plN
  rcases lastD_mem (p := begin0) (xs := rowsP w ag begin0 (hs.take n)) with h | h
  · rw [h]; exact valid0
  · exact rows_valid valid0 _ h
theorem eq_hw (x : Deed) (o : Option Deed) : eqD (dDeed x) (.str (hW o)) = decide (some x = o) := by
  cases o with
  | none => cases x <;> decide +kernel
  | some d => cases x <;> cases d <;> decide +kernel
/-- what fits the word -/
def fits (w : Wd) (ag : Bool) (p : Pl) (o : Option Deed) : List Pl := ((deedsAt p).filter fun x => decide (some x = o)).map (plBy w p ag)
theorem fits_none {w : Wd} {ag : Bool} {p : Pl} {o : Option Deed} (h : stepP w ag p o = none) : fits w ag p o = [] := by
  unfold fits
  rw [List.filter_eq_nil_iff.mpr, List.map_nil]
  intro x hx hd
  have e := of_decide_eq_true hd
  subst e
  have h2 : cond (decide (x ∈ deedsAt p)) (some (plBy w p ag x)) none = none := h
  rw [decide_eq_true hx] at h2
  cases h2
theorem fits_some {w : Wd} {ag : Bool} {p q : Pl} {o : Option Deed} (h : stepP w ag p o = some q) : ∃ r, fits w ag p o = q :: r := by
  obtain ⟨d, rfl, hd, rfl⟩ := stepP_some h
  unfold fits
  have hm : d ∈ (deedsAt p).filter fun x => decide (some x = some d) := List.mem_filter.mpr ⟨hd, by simp⟩
  cases e : (deedsAt p).filter fun x => decide (some x = some d) with
  | nil => rw [e] at hm; cases hm
  | cons y ys =>
    have hy : y ∈ (deedsAt p).filter fun x => decide (some x = some d) := by rw [e]; exact List.mem_cons_self
    have := of_decide_eq_true (List.mem_filter.mp hy).2
    have e2 : y = d := Option.some.inj this
    rw [e2]
    exact ⟨_, rfl⟩
section
variable {P : Program} {w : World} {K : PySem.W.Frag} {mg : Str → Option Value} {base : Heap}
theorem sc_llr : FnScope ["_law_words_here", "_law_history", "_law_flag", "_law_place", "_law_found", "_law_deed", "_law_some", "_law_one", "_law_late"] ["_law_words_here", "_law_history", "_law_flag"] (defScope (top 74)) := ⟨rfl, rfl, rfl, by decide +kernel, rfl, by decide +kernel, by decide +kernel⟩
def dRow : Option (List Pl) → D
  | none => .non
  | some rs => .lst (rs.map dL)
def rLlr (ds : List D) (d : D) : Prop := ∃ w hs ag, ds = [dWs w, .lst (hs.map dHw), .bl ag] ∧ hs.length ≤ 8000000 ∧ d = dRow (rowL w ag begin0 hs)
theorem fits_len (w : Wd) (ag : Bool) (p : Pl) (o : Option Deed) : (fits w ag p o).length ≤ 8 := by
  unfold fits
  rw [List.length_map]
  exact Nat.le_trans (List.length_filter_le _ _) (lmv_len w p ag)
theorem sr_ownP {X : Cx} {ρ : Kn} {a : Expr} {d d2 : D} {rest : List Stmt} {pos pt pt2 px py pl : Pos} {kt k2 : Nat} {x y : Str} (i j : Nat) (ha : PD X ρ a d) (nd : X.N.Nodup) (h : ∀ l, PSs X rest (tOR X.K l ((ρ.set i (some d)).set j (some (.adr l))) [] d2)) (hc : X.calm = true) (hij : i ≠ j := by decide) (hi : X.N[i]? = some x := by rfl) (hj : X.N[j]? = some y := by rfl)
    (hx : X.env.scope.names.lookup x = some .local := by rfl) (hy : X.env.scope.names.lookup y = some .local := by rfl) (hs1 : starEach [a, Expr.List [] pl] X.env = (false, eval a X.env) :: starEach [Expr.List [] pl] X.env := by rfl) (hs2 : starEach [Expr.List [] pl] X.env = (false, eval (Expr.List [] pl) X.env) :: starEach [] X.env := by rfl)
    (hw : swappedStores [.Tuple [.Name x px, .Name y py] kt pt] (.Tuple [a, .List [] pl] k2 pt2) X.env = pure (some [x, y]) := by rfl) (hs : swapsWithSole [.Tuple [.Name x px, .Name y py] kt pt] (.Tuple [a, .List [] pl] k2 pt2) pos.line X.env = pure false := by rfl) :
    SR X ρ (.Assign [.Tuple [.Name x px, .Name y py] kt pt] (.Tuple [a, .List [] pl] k2 pt2) pos :: rest) d2 := by
  refine pss_w (pss_cons (ps_par hc nd hi hj hij hx hy (pa_cons ha (pa_cons (pe_lst pa_nil) pa_nil hs2) hs1) hw hs) (u := fun D σ H => ∃ l, tOR X.K l ((ρ.set i (some d)).set j (some (.adr l))) [] d2 D σ H) ⟨fun pins s σ H D I ⟨l, q⟩ => (h l).run pins s σ H D I q⟩) fun D σ H q => ?_
  refine ⟨q.1, fun v H1 e1 a1 => ⟨Nat.zero_le _, fun l hl => ⟨v, .ref l, rfl, l, ?_, ⟨[], upd_same, AtL.nil⟩, fun u H' e al => q.2 u H' (e1.trans (mask_out hl ?_)) al⟩⟩⟩
  · rw [mask_upd, mask_new hl]
    exact ((q.1.same e1).set a1).set (by simp only [At])
  · rw [mask_upd] at e; exact e
theorem ok_llr (T : Top K w mg) : Dok P w K mg base 5 "_law_lose_row" ["_law_words_here", "_law_history", "_law_flag"] (spD K rLlr) :=
  dokD T.d_law_lose_row sc_llr (fun ds d ⟨w, hs, ag, e, _⟩ => by subst e; rfl) (fun _ _ _ _ _ _ us hl => match us, hl with | [_, _, _], _ => rfl) fun ds d ⟨wd, hs, ag, e, hz, ed⟩ f cdv A outer s' H E hr => by
    subst e ed
    refine sr_ownP 3 4 (pd_to (pd_tup (pds_two (pd_tup (pds_cons pd_str (pds_cons pd_bl (pds_cons pd_bl (pds_cons (pd_tup (pds_two (pd_tup (pds_two pd_bl pd_non)) (pd_tup (pds_two pd_bl pd_non)))) pds_nil))))) pd_non)) (show _ = dL begin0 from rfl)) sc_llr.nd (fun l => ?_) rfl
    show PSs _ _ (tOG K l (κR K l (dRow (rowL wd ag begin0 hs))) [some (dWs wd), some (dSq false (hs.map dHw)), some (.bl ag), some (dL (plN wd ag hs 0)), some (.adr l), none, none, none, none] ((rowsP wd ag begin0 (hs.take 0)).map dL))
    refine so_forG 5 1 false hs dHw (fun n => (rowsP wd ag begin0 (hs.take n)).map dL) (fun n => [some (dWs wd), some (dSq false (hs.map dHw)), some (.bl ag), some (dL (plN wd ag hs n)), some (.adr l), none, none, none, none])
      (fun n o => [some (dWs wd), some (dSq false (hs.map dHw)), some (.bl ag), some (dL (plN wd ag hs (n + 1))), some (.adr l), some (dHw o), some (.lst ((fits wd ag (plN wd ag hs n) o).map dL)), none, none]) (alive wd ag hs) rfl (fun _ _ _ => κR_s) rfl PassesOwn.never (pg_name (i := 5) sc_llr.nd rfl (Or.inr rfl)) (fun n o ho ha => ?_) (fun ha => ?_)
    · have hlen : ((rowsP wd ag begin0 (hs.take n)).map dL).length ≤ 10000000 := by
        rw [List.length_map]
        have h1 := rowsP_le wd ag (hs.take n) begin0
        rw [List.length_take] at h1
        omega
      have hfit : (((deedsAt (plN wd ag hs n)).filter fun x => decide (some x = o)).map fun x => dL (plBy wd (plN wd ag hs n) ag x)) = (fits wd ag (plN wd ag hs n) o).map dL := by rw [fits, List.map_map]; rfl
      cases hq : stepP wd ag (plN wd ag hs n) o with
      | some q =>
        obtain ⟨h1, h2, h3⟩ := row_some ho ha hq
        obtain ⟨r, hf⟩ := fits_some hq
        refine .inl ⟨?_, by repeat (first | exact Le.nil | refine Le.no ?_ | refine Le.yes ?_), h2⟩
        show PSs _ _ (tO _ l [some (dWs wd), some (.lst (hs.map dHw)), some (.bl ag), some (dL (plN wd ag hs n)), some (.adr l), some (.str (hW o)), none, none, none] _ _ _)
        refine so_seq (so_lc2L (own := [("_law_one", 7), ("_law_late", 8)]) 6 7 8 (deedsAt (plN wd ag hs n)) dDeed (fun x => dL (plBy wd (plN wd ag hs n) ag x)) (fun x => dL (plBy wd (plN wd ag hs n) ag x)) (fun x => decide (some x = o)) rfl sc_llr.nd
          (pd_l (pdl_call (ok_llm T) (hr.mono (by decide)) (pds_cons (pd_var 0) (pds_cons (pd_var 3) (pds_cons (pd_var 2) pds_nil))) ⟨wd, plN wd ag hs n, ag, rfl, plN_valid wd ag hs n, rfl⟩))
          (blkOk_by (N := ["_law_words_here", "_law_history", "_law_flag", "_law_place", "_law_found", "_law_deed", "_law_some", "_law_one", "_law_late"]) (sc := defScope (top 74)) (own := [("_law_one", 7), ("_law_late", 8)]) (by decide +kernel)) (fun _ _ _ _ _ => pg_tup rfl (pgs_cons (pg_name (i := 7) sc_llr.nd rfl (Or.inl rfl)) (pgs_cons (pg_name (i := 8) sc_llr.nd rfl (Or.inl rfl)) pgs_nil)))
          (fun x _ _ _ _ _ _ => pdts_one (pdt_is (pdt_cmp (pd_var 7) (pd_var 5) cmp_eq) (eq_hw x o))) (fun x _ _ _ _ _ _ _ => pd_var 8) (fun x _ => noL_dL _) (fun σ v u => by simp [wipe, List.set_set, List.set_comm]) rfl rfl (sw_true rfl rfl rfl (by decide +kernel)) (Nat.le_trans (lmv_len wd _ ag) (by decide))) ?_
        rw [hfit]
        show PSs _ _ (tO _ l [some (dWs wd), some (.lst (hs.map dHw)), some (.bl ag), some (dL (plN wd ag hs n)), some (.adr l), some (.str (hW o)), some (.lst ((fits wd ag (plN wd ag hs n) o).map dL)), none, none] _ _ _)
        exact so_toS (so_seq (so_skip (pdt_is (pdt_cmp (pd_var 6) (pd_lst pds_nil) (cmp_eqN (units_of hr (by decide)))) (by rw [hf]; rfl)))
          (so_seq (so_asg 3 (pd_ixL (pd_var 6) pd_int (by rw [hf, h3]; exact atI_nn (j := 0) rfl)) (noL_dL (plN wd ag hs (n + 1))) sc_llr.nd)
          (so_seq (so_app 4 (pd_var 3) (noL_dL _) hlen) so_nil))) (by rw [h1, List.map_append, h3]; rfl)
      | none =>
        obtain ⟨h1, h2⟩ := row_none ho ha hq
        have hf := fits_none hq
        refine .inr ?_
        show PSs _ _ (tOG _ l _ [some (dWs wd), some (.lst (hs.map dHw)), some (.bl ag), some (dL (plN wd ag hs n)), some (.adr l), some (.str (hW o)), none, none, none] _)
        refine so_seqG (fun _ _ _ => κR_s) (so_lc2L (own := [("_law_one", 7), ("_law_late", 8)]) 6 7 8 (deedsAt (plN wd ag hs n)) dDeed (fun x => dL (plBy wd (plN wd ag hs n) ag x)) (fun x => dL (plBy wd (plN wd ag hs n) ag x)) (fun x => decide (some x = o)) rfl sc_llr.nd
          (pd_l (pdl_call (ok_llm T) (hr.mono (by decide)) (pds_cons (pd_var 0) (pds_cons (pd_var 3) (pds_cons (pd_var 2) pds_nil))) ⟨wd, plN wd ag hs n, ag, rfl, plN_valid wd ag hs n, rfl⟩))
          (blkOk_by (N := ["_law_words_here", "_law_history", "_law_flag", "_law_place", "_law_found", "_law_deed", "_law_some", "_law_one", "_law_late"]) (sc := defScope (top 74)) (own := [("_law_one", 7), ("_law_late", 8)]) (by decide +kernel)) (fun _ _ _ _ _ => pg_tup rfl (pgs_cons (pg_name (i := 7) sc_llr.nd rfl (Or.inl rfl)) (pgs_cons (pg_name (i := 8) sc_llr.nd rfl (Or.inl rfl)) pgs_nil)))
          (fun x _ _ _ _ _ _ => pdts_one (pdt_is (pdt_cmp (pd_var 7) (pd_var 5) cmp_eq) (eq_hw x o))) (fun x _ _ _ _ _ _ _ => pd_var 8) (fun x _ => noL_dL _) (fun σ v u => by simp [wipe, List.set_set, List.set_comm]) rfl rfl (sw_true rfl rfl rfl (by decide +kernel)) (Nat.le_trans (lmv_len wd _ ag) (by decide))) ?_
        rw [hfit]
        show PSs _ _ (tOG _ l _ [some (dWs wd), some (.lst (hs.map dHw)), some (.bl ag), some (dL (plN wd ag hs n)), some (.adr l), some (.str (hW o)), some (.lst ((fits wd ag (plN wd ag hs n) o).map dL)), none, none] _)
        refine so_ifG (fun _ _ _ => κR_s) (pdt_is (pdt_cmp (pd_var 6) (pd_lst pds_nil) (cmp_eqN (units_of hr (by decide)))) (by rw [hf]; rfl)) ?_
        rw [rowL_eq, if_pos h2]
        exact so_endR 4 (sr_ret pd_non)
    · have h1 : ¬ (rowsP wd ag begin0 hs).length < hs.length := by
        unfold alive at ha
        rw [List.take_of_length_le (Nat.le_refl _)] at ha
        omega
      rw [List.take_of_length_le (Nat.le_refl _), rowL_eq, if_neg h1]
      exact so_endR 4 (sr_ret (pd_var 4))
end
end CM
set_option Elab.async false
set_option linter.all false
set_option maxRecDepth 100000
set_option maxHeartbeats 4000000
/-! CM17: is_upset, _law_is_upset. -/
namespace CM
open PySem L2
open PyProof.Rows (envOfC)
def noRow (w : Wd) (ag : Bool) (hs : List (Option Deed)) : Bool := decide ((rowsP w ag begin0 hs).length < hs.length) || decide (hs.length = 0)
def lastIs (hs : List (Option Deed)) : Bool := decide (hs.getLast? = some (some .begin))
def upsetP (w : Wd) (x : Wish) (ag : Bool) (hs : List (Option Deed)) : Bool :=
  cond (noRow w ag hs) false (cond (lastIs hs && beginsBad w (lastD begin0 (rowsP w ag begin0 hs).dropLast) x) true (standsBad (lastD begin0 (rowsP w ag begin0 hs)).st x))
def upsetL (w : Wd) (x : Wish) (ag : Bool) (hs : List (Option Deed)) : Bool :=
  cond (noRow w ag hs) false (cond (!decide (x = .left)) (decide (x ∈ lawBad (lastD begin0 (rowsP w ag begin0 hs)).st)) (lastIs hs && lawLeft w (lastD begin0 (rowsP w ag begin0 hs).dropLast).st))
def rIup (ds : List D) (d : D) : Prop := ∃ w x ag hs, ds = [dW w, dWish x, .bl ag, .tup (hs.map dHw)] ∧ hs.length ≤ 8000000 ∧ d = .bl (upsetP w x ag hs)
def rLiu (ds : List D) (d : D) : Prop := ∃ w x ag hs, ds = [dWs w, dWish x, .bl ag, .lst (hs.map dHw)] ∧ hs.length ≤ 8000000 ∧ d = .bl (upsetL w x ag hs)
theorem eq_hb (o : Option Deed) : eqD (dHw o) (.str "begin") = decide (o = some .begin) := by
  cases o with
  | none => decide +kernel
  | some d => cases d <;> decide +kernel
/-- the parts of a history that goes through -/
theorem parts {w : Wd} {ag : Bool} {hs : List (Option Deed)} (h : noRow w ag hs = false) : ∃ hi o ri z, hs = hi ++ [o] ∧ rowsP w ag begin0 hs = ri ++ [z] ∧ lastIs hs = decide (o = some .begin) ∧ lastD begin0 (rowsP w ag begin0 hs) = z ∧ (rowsP w ag begin0 hs).dropLast = ri := by
  unfold noRow at h
  rw [Bool.or_eq_false_iff] at h
  have h1 := of_decide_eq_false h.1
  have h2 := of_decide_eq_false h.2
  obtain ⟨hi, o, e⟩ := snoc_of (xs := hs) (fun z => h2 (by rw [z]; rfl))
  obtain ⟨ri, z, e2⟩ := snoc_of (xs := rowsP w ag begin0 hs) (fun z => by rw [z] at h1; simp at h1; exact h2 (by rw [h1]; rfl))
  refine ⟨hi, o, ri, z, e, e2, ?_, by rw [e2, lastD_snoc], by rw [e2, List.dropLast_concat]⟩
  unfold lastIs
  rw [e, List.getLast?_concat, Bool.eq_iff_iff, decide_eq_true_eq, decide_eq_true_eq]
  exact ⟨fun z => Option.some.inj z, fun z => by rw [z]⟩
theorem ahead_at (ri : List Pl) : ∃ as, begin0 :: ri = as ++ [lastD begin0 ri] := by
  obtain ⟨as, d, e⟩ := snoc_of (xs := begin0 :: ri) (List.cons_ne_nil _ _)
  refine ⟨as, ?_⟩
  have h := lastD_cons begin0 begin0 ri
  rw [e, lastD_snoc] at h
  rw [e, h]
section
variable {P : Program} {w : World} {K : PySem.W.Frag} {mg : Str → Option Value} {base : Heap}
theorem sc_iup : FnScope ["rules", "wish", "again", "history", "rows", "ahead"] ["rules", "wish", "again", "history"] (defScope (top 50)) := ⟨rfl, rfl, rfl, by decide +kernel, rfl, by decide +kernel, by decide +kernel⟩
theorem ok_iup (T : Top K w mg) : Dok P w K mg base 8 "is_upset" ["rules", "wish", "again", "history"] (spD K rIup) :=
  dokD T.dis_upset sc_iup (fun ds d ⟨w, x, ag, hs, e, _⟩ => by subst e; rfl) (fun _ _ _ _ _ _ us hl => match us, hl with | [_, _, _, _], _ => rfl) fun ds d ⟨wd, x, ag, hs, e, hz, ed⟩ f cdv A outer s' H E hr => by
    subst e ed
    refine sr_seq (sn_asg 4 (pd_l (pdl_call (ok_pon T) (hr.mono (by decide)) (pds_cons (pd_var 0) (pds_cons (pd_var 3) (pds_cons (pd_var 2) pds_nil))) ⟨wd, true, hs, ag, rfl, hz, rfl⟩)) sc_iup.nd) ?_
    refine sr_norm [some (dW wd), some (dWish x), some (.bl ag), some (dSq true (hs.map dHw)), some (.lst ((rowsP wd ag begin0 hs).map dL)), none] ?_
    refine sr_if (k := noRow wd ag hs) (PW.pt (pdw_or (pdt_is (pdt_cmp (pd_lenL T.flen (pd_var 4)) (pd_lenS true T.flen (pd_var 3)) cmp_lt) (show _ = decide ((rowsP wd ag begin0 hs).length < hs.length) by rw [Bool.eq_iff_iff, decide_eq_true_eq, decide_eq_true_eq, List.length_map, List.length_map]; omega))
      (pdw_or1 (pdt_is (pdt_cmp (pd_lenS true T.flen (pd_var 3)) pd_int cmp_eq) (show _ = decide (hs.length = 0) by rw [eqD_int, Bool.eq_iff_iff, decide_eq_true_eq, decide_eq_true_eq, List.length_map]; omega))))) (fun h => sr_ret (pd_to pd_bl (by rw [upsetP, h]; rfl))) (fun h => ?_)
    obtain ⟨hi, o, ri, z, e1, e2, e3, e4, e5⟩ := parts h
    obtain ⟨as, e6⟩ := ahead_at ri
    rw [upsetP, h, cond_false, e3, e4, e5]
    refine sr_seq (sn_asg 5 (pd_ixL (ds := dL begin0 :: ((rowsP wd ag begin0 hs).map dL ++ [])) (pd_lst (pds_cons (pd_to (pd_gl T.gBEGIN) (show _ = dL begin0 from rfl)) (pds_star (pd_var 4) pds_nil)) (by
        rw [List.append_nil, List.length_cons, List.length_map]
        have := rowsP_le wd ag hs begin0
        omega)) pd_neg (show _ = some (dL (lastD begin0 ri)) from atI_m2 (as := as.map dL) (d2 := dL z) (by
        rw [List.append_nil, e2, List.map_append, ← List.cons_append, ← List.map_cons, e6, List.map_append, List.append_assoc]; rfl))) sc_iup.nd) ?_
    refine sr_norm [some (dW wd), some (dWish x), some (.bl ag), some (dSq true (hs.map dHw)), some (.lst ((rowsP wd ag begin0 hs).map dL)), some (dL (lastD begin0 ri))] ?_
    refine sr_if (PW.pt (pdw_and (pdt_is (pdt_cmp (pd_ixS true (pd_var 3) pd_neg (show _ = some (dHw o) from atI_m1 (as := hi.map dHw) (by rw [e1, List.map_append]; rfl))) pd_str cmp_eq) (eq_hb o)) (pdw_and1 (pdt_val (pd_call (ok_bgw T) (hr.mono (by decide)) (pds_cons (pd_var 0) (pds_cons (pd_var 5) (pds_cons (pd_var 1) pds_nil))) ⟨wd, lastD begin0 ri, x, rfl, rfl⟩)))))
      (fun h2 => sr_ret (pd_to pd_bl (by rw [h2]; rfl))) (fun h2 => sr_ret (pd_to (pd_call (ok_sta T) (hr.mono (by decide)) (pds_two (pd_ix (pd_ixL (pd_var 4) pd_neg (show _ = some (dL z) from atI_m1 (as := ri.map dL) (by rw [e2, List.map_append]; rfl))) pd_int rfl) (pd_var 1)) ⟨z.st, x, rfl, rfl⟩) (by rw [h2]; rfl)))
theorem sc_liu : FnScope ["_law_words_here", "_law_wish", "_law_flag", "_law_history", "_law_rows", "_law_start", "_law_row"] ["_law_words_here", "_law_wish", "_law_flag", "_law_history"] (defScope (top 75)) := ⟨rfl, rfl, rfl, by decide +kernel, rfl, by decide +kernel, by decide +kernel⟩
theorem ok_liu (T : Top K w mg) : Dok P w K mg base 6 "_law_is_upset" ["_law_words_here", "_law_wish", "_law_flag", "_law_history"] (spD K rLiu) :=
  dokD T.d_law_is_upset sc_liu (fun ds d ⟨w, x, ag, hs, e, _⟩ => by subst e; rfl) (fun _ _ _ _ _ _ us hl => match us, hl with | [_, _, _, _], _ => rfl) fun ds d ⟨wd, x, ag, hs, e, hz, ed⟩ f cdv A outer s' H E hr => by
    subst e ed
    refine sr_seq (sn_asg 4 (pd_call (ok_llr T) (hr.mono (by decide)) (pds_cons (pd_var 0) (pds_cons (pd_var 3) (pds_cons (pd_var 2) pds_nil))) ⟨wd, hs, ag, rfl, hz, rfl⟩) sc_liu.nd) ?_
    refine sr_norm [some (dWs wd), some (dWish x), some (.bl ag), some (.lst (hs.map dHw)), some (dRow (rowL wd ag begin0 hs)), none, none] ?_
    rw [rowL_eq]
    by_cases hlt : (rowsP wd ag begin0 hs).length < hs.length
    · rw [if_pos hlt]
      exact sr_if (k := true) (PW.pt (pdw_orT (pdt_cmp (pd_var 4) pd_non cmp_isN))) (fun _ => sr_ret (pd_to pd_bl (by rw [upsetL, noRow, decide_eq_true hlt]; rfl))) (fun h => nomatch h)
    rw [if_neg hlt]
    have hem : (rowsP wd ag begin0 hs).isEmpty = noRow wd ag hs := by
      rw [noRow, decide_eq_false hlt, Bool.false_or, Bool.eq_iff_iff, decide_eq_true_eq, List.isEmpty_iff_length_eq_zero]
      have := rowsP_le wd ag hs begin0
      omega
    refine sr_norm [some (dWs wd), some (dWish x), some (.bl ag), some (.lst (hs.map dHw)), some (.lst ((rowsP wd ag begin0 hs).map dL)), none, none] ?_
    refine sr_if (k := noRow wd ag hs) (pdt_is (PW.pt (pdw_or (k1 := false) (pdt_cmp (pd_var 4) pd_non cmp_isN) (pdw_or1 (pdt_cmp (pd_var 4) (pd_lst pds_nil) (cmp_eqN (units_of hr (by decide))))))) (by rw [hem, Bool.false_or])) (fun h => sr_ret (pd_to pd_bl (by rw [upsetL, h]; rfl))) (fun h => ?_)
    obtain ⟨hi, o, ri, z, e1, e2, e3, e4, e5⟩ := parts h
    obtain ⟨as, e6⟩ := ahead_at ri
    rw [upsetL, h, cond_false, e3, e4, e5]
    refine sr_if (pdt_is (pdt_cmp (pd_var 1) pd_str cmp_ne) (congrArg Bool.not (eq_Wish_left x))) (fun h2 => sr_ret (pd_to (pd_cmp (pd_var 1) (pd_l (pdl_call (ok_lba T) (hr.mono (by decide)) (pds_cons (pd_ix (pd_ixL (pd_var 4) pd_neg (show _ = some (dL z) from atI_m1 (as := ri.map dL) (by rw [e2, List.map_append]; rfl))) pd_int rfl) pds_nil) ⟨z.st, rfl, rfl⟩)) (cmp_inL rfl (by rw [List.all_map]; exact List.all_eq_true.mpr fun _ _ => rfl))) (by rw [h2, dWish, inD_wish]; rfl))) (fun h2 => ?_)
    rw [h2, cond_false]
    refine sr_seq (sn_asg 5 (pd_to (pd_tup (pds_cons pd_str (pds_cons pd_bl (pds_cons pd_bl (pds_cons (pd_tup (pds_two (pd_tup (pds_two pd_bl pd_non)) (pd_tup (pds_two pd_bl pd_non)))) pds_nil))))) (show _ = dS start0 from rfl)) sc_liu.nd) ?_
    refine sr_norm [some (dWs wd), some (dWish x), some (.bl ag), some (.lst (hs.map dHw)), some (.lst ((rowsP wd ag begin0 hs).map dL)), some (dS start0), none] ?_
    have hlen : (rowsP wd ag begin0 hs).length ≤ 8000000 := Nat.le_trans (rowsP_le wd ag hs begin0) hz
    refine sr_ret (pd_and (pd_isb (pd_cmp (pd_ixL (pd_var 3) pd_neg (show _ = some (dHw o) from atI_m1 (as := hi.map dHw) (by rw [e1, List.map_append]; rfl))) pd_str cmp_eq) (eq_hb o)) (pd_one (pd_call (ok_lil T) (hr.mono (by decide)) (pds_two (pd_var 0) (pd_ixL (pd_l (pdl_cat (pdl_lst (pds_cons (pd_var 5) pds_nil)) (pdl_to (pdl_lcL (own := [("_law_row", 6)]) 6 (rowsP wd ag begin0 hs) dL (fun p => dS p.st) (fun _ => true) rfl sc_liu.nd (pd_var 4)
      (blkOk_by (N := ["_law_words_here", "_law_wish", "_law_flag", "_law_history", "_law_rows", "_law_start", "_law_row"]) (sc := defScope (top 75)) (own := [("_law_row", 6)]) (by decide +kernel)) (fun _ _ _ _ _ => pg_name (i := 6) sc_liu.nd rfl (Or.inl rfl)) (fun _ _ _ _ _ _ _ => pdts_nil) (fun p _ _ _ _ _ _ _ => pd_ix (pd_var 6) pd_int rfl) (fun p _ => noL_dS _) (fun σ v => by simp [wipe, List.set_set]) hlen) (show _ = (rowsP wd ag begin0 hs).map (fun p => dS p.st) by rw [List.filter_eq_self.mpr (fun _ _ => rfl)])) (by rw [List.length_map, List.length_singleton]; omega)))
        pd_neg (show _ = some (dS (lastD begin0 ri).st) from atI_m2 (as := as.map fun p => dS p.st) (d2 := dS z.st) (by
          have e7 : (([dS start0] : List D) ++ (rowsP wd ag begin0 hs).map fun p => dS p.st) = (begin0 :: rowsP wd ag begin0 hs).map fun p => dS p.st := rfl
          rw [e7, e2, ← List.cons_append, e6, List.map_append, List.map_append, List.append_assoc]; rfl)))) ⟨wd, (lastD begin0 ri).st, rfl, rfl⟩)))
end
end CM
set_option Elab.async false
set_option linter.all false
set_option maxRecDepth 100000
set_option maxHeartbeats 4000000
/-! CMM: the law's word and the program's are one, at places that hold together. -/
namespace CM
open PySem L2
def Ev (a b : Hf) : Prop := a.f.isNone = b.f.isNone
structure Good (p : Pl) : Prop where
  v : Valid p
  e : Ev p.st.a p.st.b
  q : ∀ q, p.pa = some q → Ev q.a q.b
theorem good0 : Good begin0 := ⟨valid0, rfl, fun q h => nomatch h⟩
theorem mem_lawBad {s : Sta} (x : Wish) (h : Ev s.a s.b) : decide (x ∈ lawBad s) = standsBad s x := by
  unfold Ev at h
  unfold lawBad standsBad
  rw [← h, Bool.or_self]
  cases hk : ((!decide (s.s = .kept)) || s.a.f.isNone) with
  | true => simp
  | false =>
    rw [cond_false, cond_false]
    cases x with
    | elder => cases h1 : (decide (s.a.f = some .elder) || decide (s.b.f = some .elder)) <;> cases h2 : (!decide (s.a.f = s.b.f)) <;> simp [fateIn, h1]
    | twice => cases h1 : (decide (s.a.f = some .twice) || decide (s.b.f = some .twice)) <;> cases h2 : (!decide (s.a.f = s.b.f)) <;> simp [fateIn, h1]
    | left => cases h2 : (!decide (s.a.f = s.b.f)) <;> simp
    | torn => cases h2 : (!decide (s.a.f = s.b.f)) <;> simp
theorem begins_eq (w : Wd) (p : Pl) (x : Wish) : beginsBad w p x = (lawLeft w p.st && decide (x = .left)) := by
  obtain ⟨⟨st, g, wb, a, b⟩, pa⟩ := p
  unfold beginsBad goesBad lawLeft
  cases st with
  | none => simp [toRead]
  | kept =>
    cases toRead w ⟨.kept, g, wb, a, b⟩ <;> cases x <;> simp
  | opened => simp
  | half => simp
  | read => simp
  | done => simp
theorem bad_eq {w : Wd} {p : Pl} (x : Wish) (h : Ev p.st.a p.st.b) : (standsBad p.st x || beginsBad w p x) = decide (x ∈ lawLoseBad w p) := by
  rw [begins_eq, ← mem_lawBad x h, lawLoseBad, Bool.eq_iff_iff]
  cases lawLeft w p.st <;> simp
theorem calm_eq {w : Wd} {x : Wish} {ag : Bool} {ps : List Pl} (h : ∀ p ∈ ps, Good p) : calmP w x ag ps = calmL w x ag ps := by
  unfold calmP calmL
  congr 1
  rw [Bool.eq_iff_iff, List.all_eq_true, List.all_eq_true]
  constructor
  · intro k p hp
    rw [← bad_eq x (h p hp).e]; exact k p hp
  · intro k p hp
    rw [bad_eq x (h p hp).e]; exact k p hp
theorem fateB_some {w : Wd} {f : Option Fate} {a b c : Bool} (h : f.isNone = false) : (fateB w f a b c).isNone = false := by
  unfold fateB
  cases c
  · cases b
    · cases a
      · exact h
      · cases decide (w.rc = .part)
        · cases decide (f = some .due)
          · exact h
          · rfl
        · rfl
    · rfl
  · cases (a && decide (f = some .right))
    · exact h
    · rfl
theorem Ev.written {w : Wd} {s : Sta} (h : Ev s.a s.b) (x y : Bool) : Ev (written w s x y).a (written w s x y).b := by
  unfold Ev at h ⊢
  unfold CM.written
  cases hn : s.a.f.isNone with
  | true => rw [cond_true]; exact h
  | false =>
    rw [cond_false]
    rw [hn] at h
    show (fateB w s.a.f _ _ _).isNone = (fateB w s.b.f _ _ _).isNone
    rw [fateB_some hn, fateB_some h.symm]
theorem Ev.doneBy {w : Wd} {s : Sta} (h : Ev s.a s.b) : ∀ d : Deed, Ev (doneBy w s d).a (doneBy w s d).b
  | .begin => by
    show ((s.a.begun w (toRead w s)).f).isNone = ((s.b.begun w (toRead w s)).f).isNone
    unfold Hf.begun
    cases w.mb <;> cases toRead w s <;> rfl
  | .read => by
    show (Hf.f (cond (at2 w s) s.a ⟨true, readF s.a.f⟩)).isNone = (Hf.f (cond (at2 w s) ⟨true, readF s.b.f⟩ s.b)).isNone
    have hr : ∀ f : Option Fate, (readF f).isNone = f.isNone := fun f => by
      cases f with
      | none => rfl
      | some f => cases f <;> rfl
    cases at2 w s
    · exact (hr _).trans h
    · exact h.trans (hr _).symm
  | .clear => h
  | .end_ => by
    show ((ended w s).a.f).isNone = ((ended w s).b.f).isNone
    unfold ended
    cases w.mb
    · exact h
    · rfl
  | .wboth => h.written _ _
  | .wfirst => h.written _ _
  | .wsecond => h.written _ _
  | .lose => h.written _ _
theorem Good.step {w : Wd} {ag : Bool} {p : Pl} (h : Good p) (d : Deed) : Good (plBy w p ag d) := by
  refine ⟨h.v.step d, ?_, ?_⟩
  · by_cases hd : d = .lose
    · subst hd
      obtain ⟨s, pa⟩ := p
      cases pa with
      | none => rfl
      | some q => exact h.q q rfl
    · rw [plBy_of hd]
      exact h.e.doneBy d
  · intro q hq
    by_cases hd : d = .lose
    · subst hd
      obtain ⟨s, pa⟩ := p
      cases pa <;> cases hq
    · rw [plBy_of hd] at hq
      have hq' : pastBy w p d = some q := hq
      obtain ⟨s, pa⟩ := p
      cases hb : decide (d = .begin) with
      | true =>
        rw [of_decide_eq_true hb] at hq'
        have z : cond (decide (s.s = .none)) none (some (⟨s.wb && w.mb, s.a, s.b⟩ : Pst)) = some q := hq'
        revert z
        cases decide (s.s = .none)
        · intro z; cases z; exact h.e
        · intro z; cases z
      | false =>
        cases pa with
        | none =>
          have : pastBy w ⟨s, none⟩ d = none := by cases d <;> first | rfl | cases hb
          rw [this] at hq'; cases hq'
        | some r =>
          have hr := h.q r rfl
          rw [pastBy_some hb] at hq'
          revert hq'
          cases (decide (d = .end_) && w.mb)
          · cases isWr d
            · intro z; cases z; exact hr
            · intro z; cases z
              exact Ev.written (s := ⟨.kept, true, r.wb, r.a, r.b⟩) hr _ _
          · intro z; cases z; exact hr
theorem rows_good {w : Wd} {ag : Bool} : ∀ {hs : List (Option Deed)} {p : Pl}, Good p → ∀ q ∈ rowsP w ag p hs, Good q
  | [], _, _, q, hq => by cases hq
  | o :: r, p, h, q, hq => by
    rw [rowsP] at hq
    cases e : stepP w ag p o with
    | none => rw [e] at hq; cases hq
    | some z =>
      rw [e] at hq
      obtain ⟨d, _, _, rfl⟩ := stepP_some e
      rcases List.mem_cons.mp hq with k | k
      · rw [k]; exact h.step d
      · exact rows_good (h.step d) q k
theorem last_good {w : Wd} {ag : Bool} {hs : List (Option Deed)} : Good (lastD begin0 (rowsP w ag begin0 hs)) := by
  rcases lastD_mem (p := begin0) (xs := rowsP w ag begin0 hs) with h | h
  · rw [h]; exact good0
  · exact rows_good good0 _ h
theorem upset_eq {w : Wd} {x : Wish} {ag : Bool} {hs : List (Option Deed)} : upsetP w x ag hs = upsetL w x ag hs := by
  unfold upsetP upsetL
  cases noRow w ag hs with
  | true => rfl
  | false =>
    rw [cond_false, cond_false, begins_eq, mem_lawBad x last_good.e]
    cases x with
    | left =>
      have e : standsBad (lastD begin0 (rowsP w ag begin0 hs)).st .left = false := by
        unfold standsBad
        cases ((!decide ((lastD begin0 (rowsP w ag begin0 hs)).st.s = .kept)) || ((lastD begin0 (rowsP w ag begin0 hs)).st.a.f.isNone || (lastD begin0 (rowsP w ag begin0 hs)).st.b.f.isNone)) <;> rfl
      rw [e]
      cases lastIs hs <;> cases lawLeft w (lastD begin0 (rowsP w ag begin0 hs).dropLast).st <;> rfl
    | elder => cases lastIs hs <;> cases lawLeft w (lastD begin0 (rowsP w ag begin0 hs).dropLast).st <;> rfl
    | torn => cases lastIs hs <;> cases lawLeft w (lastD begin0 (rowsP w ag begin0 hs).dropLast).st <;> rfl
    | twice => cases lastIs hs <;> cases lawLeft w (lastD begin0 (rowsP w ag begin0 hs).dropLast).st <;> rfl
end CM
set_option Elab.async false
set_option linter.all false
set_option maxRecDepth 100000
set_option maxHeartbeats 4000000
/-! CMC: Calm and Upset made, asked. -/
namespace CM
open PySem L2
open PyProof.Rows (envOfC)
/-! ### tuples and flat data stay -/
def TiesT (H H' : Hp) : Prop := (∀ b xs, H b = some (.tup xs) → H' b = some (.tup xs)) ∧ ∀ b o xs, H b = some (.frz o (.tup xs)) → H' b = some (.frz o (.tup xs))
section
variable {K : PySem.W.Frag} {H H' : Hp}
mutual
theorem At.tiesT (e : TiesT H H') : ∀ {d : D} {v : V}, keyD d = true → At K H d v → At K H' d v
  | .non, _, _, h => by simpa only [At] using h
  | .bl _, _, _, h => by simpa only [At] using h
  | .int _, _, _, h => by simpa only [At] using h
  | .str _, _, _, h => by simpa only [At] using h
  | .tup ds, _, n, h => by
    simp only [At] at h ⊢
    obtain ⟨a, xs, h1, h2, h3⟩ := h
    refine ⟨a, xs, h1, ?_, AtL.tiesT e (by simpa only [keyD] using n) h3⟩
    rcases h2 with (h | ⟨o, h⟩) | h
    · exact .inl (.inl (e.1 _ _ h))
    · exact .inl (.inr ⟨o, e.2 _ _ _ h⟩)
    · exact .inr h
  | .lst ds, _, n, h => by simp [keyD] at n
  | .adr _, _, n, h => by simp [keyD] at n
  | .ob _, _, n, h => by simp [keyD] at n
  | .rul ws, _, n, h => by simp [keyD] at n
theorem AtL.tiesT (e : TiesT H H') : ∀ {ds : List D} {vs : List V}, keyDs ds = true → AtL K H ds vs → AtL K H' ds vs
  | [], _, _, h => by simpa only [AtL] using h
  | d :: ds, _, n, h => by
    simp only [AtL] at h ⊢
    simp only [keyDs, Bool.and_eq_true] at n
    obtain ⟨x, r, h1, h2, h3⟩ := h
    exact ⟨x, r, h1, At.tiesT e n.1 h2, AtL.tiesT e n.2 h3⟩
end
theorem TiesT.ins {p C dx : Addr} {fs : List (Str × V)} {o : HO} (h : H p = some (.ins C dx fs)) : TiesT H (upd H p o) :=
  ⟨fun b xs q => by rw [upd_ne (ne_of q h (by intro z; cases z))]; exact q, fun b o xs q => by rw [upd_ne (ne_of q h (by intro z; cases z))]; exact q⟩
end
theorem key_dLs : ∀ ps : List Pl, keyDs (ps.map dL) = true
  | [] => rfl
  | p :: ps => by simp [keyDs, key_dL, key_dLs ps]
theorem key_dHws : ∀ hs : List (Option Deed), keyDs (hs.map dHw) = true
  | [] => rfl
  | h :: hs => by simp [keyDs, key_dHws hs, dHw, keyD]
/-! ### the things -/
def calmAt (K : PySem.W.Frag) (H : Hp) (a : Addr) (ps : List Pl) : Prop := ∃ dx l ys, H a = some (.ins (He.ga K "Calm") dx [("places", .ref l)]) ∧ H l = some (.lst ys) ∧ AtL K H (ps.map dL) ys
def dCalm (K : PySem.W.Frag) (ps : List Pl) : D := .ob fun H v => ∃ a, v = .ref a ∧ calmAt K H a ps
def upsAt (K : PySem.W.Frag) (H : Hp) (a : Addr) (hs : List (Option Deed)) : Prop := ∃ dx t, H a = some (.ins (He.ga K "Upset") dx [("history", .ref t)]) ∧ At K H (.tup (hs.map dHw)) (.ref t)
def dUps (K : PySem.W.Frag) (hs : List (Option Deed)) : D := .ob fun H v => ∃ a, v = .ref a ∧ upsAt K H a hs
section
variable {K : PySem.W.Frag} {H H' : Hp} {a : Addr} {ps : List Pl} {hs : List (Option Deed)}
theorem calmAt.same (e : Same H H') (h : calmAt K H a ps) : calmAt K H' a ps := by
  obtain ⟨dx, l, ys, h1, h2, h3⟩ := h
  exact ⟨dx, l, ys, e _ _ h1, e _ _ h2, h3.same e⟩
theorem upsAt.same (e : Same H H') (h : upsAt K H a hs) : upsAt K H' a hs := by
  obtain ⟨dx, t, h1, h2⟩ := h
  exact ⟨dx, t, e _ _ h1, h2.same e⟩
theorem at_calm (h : calmAt K H a ps) : At K H (dCalm K ps) (.ref a) := by
  simp only [dCalm, At]
  exact ⟨⟨a, rfl⟩, fun H' e => ⟨a, rfl, h.same e⟩⟩
theorem at_ups (h : upsAt K H a hs) : At K H (dUps K hs) (.ref a) := by
  simp only [dUps, At]
  exact ⟨⟨a, rfl⟩, fun H' e => ⟨a, rfl, h.same e⟩⟩
theorem calm_at {v : V} (h : At K H (dCalm K ps) v) : ∃ a, v = .ref a ∧ calmAt K H a ps := by
  simp only [dCalm, At] at h
  exact h.2 H (Same.refl H)
theorem ups_at {v : V} (h : At K H (dUps K hs) v) : ∃ a, v = .ref a ∧ upsAt K H a hs := by
  simp only [dUps, At] at h
  exact h.2 H (Same.refl H)
end
section
variable {X : Cx} {ρ : Kn} {e o : Expr} {ds : List D} {pos p : Pos}
theorem pdl_listL (hm : X.mg "list" = none) (h : PD X ρ e (.lst ds)) (hg : Gl X "list" := by exact rfl) (hs : starEach [e] X.env = [(false, eval e X.env)] := by rfl) : PDL X ρ (.Call (.Name "list" p) [e] [] pos) ds :=
  pe_w (pe_callTy call_list_of hg hm (by decide +kernel) (pds_cons h pds_nil hs) (by decide) (by decide) hs rfl) fun σ H Q q => ⟨q.1, fun vs H1 e1 a1 => by
    obtain ⟨v, rfl, a⟩ := atL_one a1
    simp only [At] at a
    obtain ⟨c, xs, rfl, hx, al⟩ := a
    exact ⟨c, xs, rfl, .inl hx, fun l hl => q.2 l xs _ (Same.free e1 hl) (e1.trans (same_new hl)) upd_same (al.same (same_new hl))⟩⟩
theorem pd_tupleS (b : Bool) (hm : X.mg "tuple" = none) (h : PD X ρ e (dSq b ds)) (hg : Gl X "tuple" := by exact rfl) (hs : starEach [e] X.env = [(false, eval e X.env)] := by rfl) : PD X ρ (.Call (.Name "tuple" p) [e] [] pos) (.tup ds) := by
  cases b with
  | false => exact pd_tuple hm h hg hs
  | true =>
    exact pe_w (pe_callTy call_tuple_of hg hm (by decide +kernel) (pds_cons h pds_nil hs) (by decide) (by decide) hs rfl) fun σ H Q q => ⟨q.1, fun vs H1 e1 a1 => by
      obtain ⟨v, rfl, a⟩ := atL_one a1
      simp only [dSq, cond_true, At] at a
      obtain ⟨c, xs, rfl, hx, al⟩ := a
      exact ⟨c, xs, rfl, .inr ⟨hx, q.2 _ H1 e1 (at_tup hx al)⟩⟩⟩
theorem pd_places {ps : List Pl} (O : Own X.K X.mg "Calm") (na : NoAttr X.K (He.ga X.K "Calm") "places") (h : PD X ρ o (dCalm X.K ps)) (hb : attributeBase o "places" X.env (eval o X.env) = eval o X.env := by rfl) : PD X ρ (.Attribute o "places" pos) (.lst (ps.map dL)) :=
  pe_w (pe_fld h hb) fun σ H Q q => ⟨q.1, fun v H1 e1 a1 => by
    obtain ⟨a, rfl, dx, l, ys, h1, h2, h3⟩ := calm_at a1
    exact ⟨a, _, dx, _, .ref l, rfl, h1, O.cl, na, by simp [List.lookup], q.2 _ H1 e1 (at_lst (SqL.of h2) h3)⟩⟩
theorem pd_history {hs : List (Option Deed)} (O : Own X.K X.mg "Upset") (na : NoAttr X.K (He.ga X.K "Upset") "history") (h : PD X ρ o (dUps X.K hs)) (hb : attributeBase o "history" X.env (eval o X.env) = eval o X.env := by rfl) : PD X ρ (.Attribute o "history" pos) (.tup (hs.map dHw)) :=
  pe_w (pe_fld h hb) fun σ H Q q => ⟨q.1, fun v H1 e1 a1 => by
    obtain ⟨a, rfl, dx, t, h1, h2⟩ := ups_at a1
    exact ⟨a, _, dx, _, .ref t, rfl, h1, O.cl, na, by simp [List.lookup], q.2 _ H1 e1 h2⟩⟩
end
/-! ### o.m(e, .., k = v, ..) -/
def tMethN (C : Addr) (m : Str) (n mm : Nat) (sp : Sp) (gV : List V → List V → List V) (E : XK) (ta : TE) (t tk : TA) : TE := fun σ H Q => ta σ H fun x H1 => ∃ a dx fs, x = .ref a ∧ H1 a = some (.ins C dx fs) ∧ fs.lookup m = none ∧
  t σ H1 fun vs H2 => tk σ H2 fun zs H3 => vs.length = n ∧ zs.length = mm ∧ sp (gV (.ref a :: vs) zs) H3 Q E
theorem pe_methN {X : Cx} {CX : CXT} {k n : Nat} {C f : Addr} {m : Str} {fd : FuncData} {ps ks : List Str} {sp : Sp} {E : XK} {o e : Expr} {es : List Expr} {kws : List Keyword} {ta : TE} {t tk : TA} {g : List Value → List Value → List Value} {gV : List V → List V → List V} {apos pos : Pos} {pl : Sem Bool}
    (he : PE X o ta) (c : Cls X.K C) (hm : Meth X.K C m f) (F : FnOk X.prog X.w X.K X.mg X.base CX k f fd ps sp) (hr : Room k X.A) (hb : KBn X.K fd ps (n + 1) ks g gV) (hx : Passes CX X E) (ha : PA X (e :: es) t) (hkw : PK X kws tk)
    (hall : (backToKw pos (keywordEach kws X.env)).all (·.1.isSome) = true := by rfl) (hks : (backToKw pos (keywordEach kws X.env)).filterMap (·.1) = ks := by rfl)
    (hst : starEach (e :: es) X.env = (false, eval e X.env) :: starEach es X.env := by rfl) (hpl : ((backTo pos (starEach (e :: es) X.env)).any (·.1) || (backToKw pos (keywordEach kws X.env)).any (·.1.isNone)) = false := by rfl)
    (ht : eval (.Call (.Attribute o m apos) (e :: es) kws pos) X.env = (do
      let ov ← eval o X.env
      standAt apos.atName
      let (f, first) ← holding [ov] (getMethod ov m pl)
      callWith pos f first (backTo pos (starEach (e :: es) X.env)) (backToKw pos (keywordEach kws X.env))) := by rfl) :
    PE X (.Call (.Attribute o m apos) (e :: es) kws pos) (tMethN C m n ks.length sp gV E ta t tk) := by
  refine ⟨fun pins s σ H Q I h => PySem.W.methodCall_KW (pl := pl) (thn (he.run pins s σ H _ I h) ?_) ht⟩
  rintro self s1 ⟨_, H1, I1, rs, a, dx, fs, rfl, isC, free, q1⟩
  cases (show self = Value.ref a from rs)
  refine getmeth_ok I1 isC c hm free (PySem.W.callWith_KW (first := [.ref a]) (h₀ := X.base) I.ok.mod.kin hm.kp hall (thn (ha.run pos pins s1 σ H1 _ I1 q1) ?_) hpl hst)
  rintro us s2 ⟨vs, H2, I2, rv, q2⟩
  refine thn (hkw.run pos pins s2 σ H2 _ I2 q2) ?_
  rintro ws s3 ⟨zs, H3, I3, rz, nv, nz, q3⟩
  exact ⟨I3.kIn, hks.symm ▸ run_fnN (us := .ref a :: us) (vs := .ref a :: vs) F hr hb hx I3 (.cons rfl rv) rz (congrArg (· + 1) nv) nz q3⟩
section
variable {P : Program} {w : World} {K : PySem.W.Frag} {mg : Str → Option Value} {base : Heap}
/-! ### __init__ -/
def spIC (K : PySem.W.Frag) : Sp := fun vs H Q _ => ∃ (a dx : Addr) (v : V) (ps : List Pl), vs = [.ref a, v] ∧ H a = some (.ins (He.ga K "Calm") dx []) ∧ At K H (.lst (ps.map dL)) v ∧
  ∀ (H1 : Hp) (l : Addr) (ys : List V), Same H H1 → H l = none → H1 l = some (.lst ys) → AtL K H1 (ps.map dL) ys → Q .non (upd H1 a (.ins (He.ga K "Calm") dx [("places", .ref l)]))
def spIU (K : PySem.W.Frag) : Sp := fun vs H Q _ => ∃ (a dx : Addr) (v : V) (b : Bool) (hs : List (Option Deed)), vs = [.ref a, v] ∧ H a = some (.ins (He.ga K "Upset") dx []) ∧ At K H (dSq b (hs.map dHw)) v ∧
  ∀ (H1 : Hp) (t : Addr), Same H H1 → At K H1 (.tup (hs.map dHw)) (.ref t) → Q .non (upd H1 a (.ins (He.ga K "Upset") dx [("history", .ref t)]))
theorem sc_ci : FnScope ["self", "places"] ["self", "places"] (defScope (inClass (top 38) 0)) := ⟨rfl, rfl, rfl, by decide +kernel, rfl, by decide +kernel, by decide +kernel⟩
theorem sc_ui : FnScope ["self", "history"] ["self", "history"] (defScope (inClass (top 39) 0)) := ⟨rfl, rfl, rfl, by decide +kernel, rfl, by decide +kernel, by decide +kernel⟩
theorem ok_ci (T : Top K w mg) : ∃ f fd, Mk K (He.ga K "Calm") f ∧ FnOk P w K mg base CX0 1 f fd ["self", "places"] (spIC K) ∧ Binds K fd ["self", "places"] [] := by
  obtain ⟨fd, F, h1, h2⟩ := T.mCalminit
  refine ⟨_, fd, ⟨T.mkCalm.1, h1, h2, T.mkCalm.2⟩, F.ok sc_ci (fun vs H Q E ⟨a, dx, v, ps, e, _⟩ => by subst e; rfl) fun cdv A outer s H vs Q E hr ⟨a, dx, v, ps, e, ha, av, q⟩ => ?_, F.bindsN fun _ _ _ _ _ _ us hl => match us, hl with | [_, _], _ => rfl⟩
  subst e
  refine ⟨_, PSs.nox (pss_one (ps_fld (pe_var (i := 0) rfl (Or.inl rfl)) (pdl_listL (ρ := [some (.adr a), some (.lst (ps.map dL))]) T.flist (pd_var 1)) rfl)), ?_⟩
  refine ⟨EA.start (ds := [.adr a, .lst (ps.map dL)]) (AtL.cons (by simp only [At]) (AtL.cons av AtL.nil)), fun l ys H1 hl e1 h1 al => ⟨.ref a, rfl, a, _, dx, [], rfl, e1 _ _ ha, T.oCalm.cl, T.aPlaces, by decide, q H1 l ys e1 hl h1 al⟩⟩
theorem ok_ui (T : Top K w mg) : ∃ f fd, Mk K (He.ga K "Upset") f ∧ FnOk P w K mg base CX0 1 f fd ["self", "history"] (spIU K) ∧ Binds K fd ["self", "history"] [] := by
  obtain ⟨fd, F, h1, h2⟩ := T.mUpsetinit
  refine ⟨_, fd, ⟨T.mkUpset.1, h1, h2, T.mkUpset.2⟩, F.ok sc_ui (fun vs H Q E ⟨a, dx, v, b, hs, e, _⟩ => by subst e; rfl) fun cdv A outer s H vs Q E hr ⟨a, dx, v, b, hs, e, ha, av, q⟩ => ?_, F.bindsN fun _ _ _ _ _ _ us hl => match us, hl with | [_, _], _ => rfl⟩
  subst e
  refine ⟨_, PSs.nox (pss_one (ps_fld (pe_var (i := 0) rfl (Or.inl rfl)) (pd_tupleS (ρ := [some (.adr a), some (dSq b (hs.map dHw))]) b T.ftuple (pd_var 1)) rfl)), ?_⟩
  refine ⟨EA.start (ds := [.adr a, dSq b (hs.map dHw)]) (AtL.cons (by simp only [At]) (AtL.cons av AtL.nil)), fun v H1 e1 a1 => ?_⟩
  have a1' := a1
  simp only [At] at a1
  obtain ⟨t, xs, rfl, _, _⟩ := a1
  exact ⟨.ref a, rfl, a, _, dx, [], rfl, e1 _ _ ha, T.oUpset.cl, T.aHistory, by decide, q H1 t e1 a1'⟩
end
section
variable {X : Cx} {ρ : Kn} {e : Expr} {p pos : Pos} {ps : List Pl} {hs : List (Option Deed)}
/-- Calm(places): new -/
def tCalm (K : PySem.W.Frag) (ρ : Kn) (ps : List Pl) : TE := fun σ H Q => EA K H σ ρ ∧ ∀ a dx l ys H', H a = none → H l = none → Same H H' → H' a = some (.ins (He.ga K "Calm") dx [("places", .ref l)]) → H' l = some (.lst ys) → AtL K H' (ps.map dL) ys → Q (.ref a) H'
theorem pe_calm (T : Top X.K X.w X.mg) (hr : Room 2 X.A) (h : PD X ρ e (.lst (ps.map dL))) (hg : Gl X "Calm" := by exact rfl) (he : starEach [e] X.env = (false, eval e X.env) :: starEach [] X.env := by rfl) : PE X (.Call (.Name "Calm" p) [e] [] pos) (tCalm X.K ρ ps) := by
  obtain ⟨f, fd, M, F, hb⟩ := ok_ci (P := X.prog) (base := X.base) T
  refine pe_w (pe_make M F hr hg T.oCalm.mg hb .nil pass0 (pds_cons h pds_nil he) (by decide) he rfl) fun σ H Q q => ⟨q.1, fun vs H1 e1 a1 x dx hx hdx hne => ?_⟩
  obtain ⟨v, rfl, a⟩ := atL_one a1
  have hx2 : upd H1 dx (.own x) x = none := by rw [upd_ne (Ne.symm hne)]; exact hx
  have e2 : Same H1 (upd (upd H1 dx (.own x)) x (.ins (He.ga X.K "Calm") dx [])) := (same_new hdx).trans (same_new hx2)
  refine ⟨x, dx, v, ps, rfl, upd_same, a.same e2, fun H2 l ys e3 hl h1 al => ⟨rfl, ?_⟩⟩
  have hx3 : H2 x = some (.ins (He.ga X.K "Calm") dx []) := e3 _ _ upd_same
  have hlx : l ≠ x := fun z => by rw [z, hx3] at h1; cases h1
  have hxH : H x = none := Same.free e1 hx
  refine q.2 x dx l ys _ hxH (Same.free (e1.trans e2) hl) (same_mut ((e1.trans e2).trans e3) hxH) upd_same (by rw [upd_ne hlx]; exact h1) (al.tiesT (TiesT.ins hx3) (key_dLs ps))
theorem pd_calm (T : Top X.K X.w X.mg) (hr : Room 2 X.A) (h : PD X ρ e (.lst (ps.map dL))) (hg : Gl X "Calm" := by exact rfl) (he : starEach [e] X.env = (false, eval e X.env) :: starEach [] X.env := by rfl) : PD X ρ (.Call (.Name "Calm" p) [e] [] pos) (dCalm X.K ps) :=
  pe_w (pe_calm T hr h hg he) fun σ H Q q => ⟨q.1, fun a dx l ys H' ha hl e1 h1 h2 al => q.2 _ H' e1 (at_calm ⟨dx, l, ys, h1, h2, al⟩)⟩
theorem pd_ups (b : Bool) (T : Top X.K X.w X.mg) (hr : Room 2 X.A) (h : PD X ρ e (dSq b (hs.map dHw))) (hg : Gl X "Upset" := by exact rfl) (he : starEach [e] X.env = (false, eval e X.env) :: starEach [] X.env := by rfl) : PD X ρ (.Call (.Name "Upset" p) [e] [] pos) (dUps X.K hs) := by
  obtain ⟨f, fd, M, F, hb⟩ := ok_ui (P := X.prog) (base := X.base) T
  refine pe_w (pe_make M F hr hg T.oUpset.mg hb .nil pass0 (pds_cons h pds_nil he) (by decide) he rfl) fun σ H Q q => ⟨q.1, fun vs H1 e1 a1 x dx hx hdx hne => ?_⟩
  obtain ⟨v, rfl, a⟩ := atL_one a1
  have hx2 : upd H1 dx (.own x) x = none := by rw [upd_ne (Ne.symm hne)]; exact hx
  have e2 : Same H1 (upd (upd H1 dx (.own x)) x (.ins (He.ga X.K "Upset") dx [])) := (same_new hdx).trans (same_new hx2)
  refine ⟨x, dx, v, b, hs, rfl, upd_same, a.same e2, fun H2 t e3 at2 => ⟨rfl, ?_⟩⟩
  have hx3 : H2 x = some (.ins (He.ga X.K "Upset") dx []) := e3 _ _ upd_same
  have hxH : H x = none := Same.free e1 hx
  exact q.2 _ _ (same_mut ((e1.trans e2).trans e3) hxH) (at_ups ⟨dx, t, upd_same, at2.tiesT (TiesT.ins hx3) (by simp only [keyD]; exact key_dHws hs)⟩)
end
/-! ### shows -/
def rCsh (K : PySem.W.Frag) (ds : List D) (d : D) : Prop := ∃ w x ag ps, ds = [dCalm K ps, dW w, dWish x, .bl ag] ∧ ps.length ≤ 8000000 ∧ d = .bl (calmP w x ag ps)
def rUsh (K : PySem.W.Frag) (ds : List D) (d : D) : Prop := ∃ w x ag hs, ds = [dUps K hs, dW w, dWish x, .bl ag] ∧ hs.length ≤ 8000000 ∧ d = .bl (upsetP w x ag hs)
/-- a method with again behind the star -/
structure MokA (P : Program) (w : World) (K : PySem.W.Frag) (mg : Str → Option Value) (base : Heap) (k : Nat) (C m : Str) (ps : List Str) (sp : Sp) : Prop where
  ex : ∃ f fd mv, FnOk P w K mg base CX0 k f fd ps sp ∧ Meth K (He.ga K C) m f ∧ KBn K fd ps 3 ["again"] (fun us ws => us ++ (mv ++ ws)) (fun vs zs => vs ++ zs)
section
variable {P : Program} {w : World} {K : PySem.W.Frag} {mg : Str → Option Value} {base : Heap}
theorem sc_csh : FnScope ["self", "rules", "wish", "again"] ["self", "rules", "wish", "again"] (defScope (inClass (top 38) 2)) := ⟨rfl, rfl, rfl, by decide +kernel, rfl, by decide +kernel, by decide +kernel⟩
theorem sc_ush : FnScope ["self", "rules", "wish", "again"] ["self", "rules", "wish", "again"] (defScope (inClass (top 39) 2)) := ⟨rfl, rfl, rfl, by decide +kernel, rfl, by decide +kernel, by decide +kernel⟩
theorem ok_csh (T : Top K w mg) : MokA P w K mg base 8 "Calm" "shows" ["self", "rules", "wish", "again"] (spD K (rCsh K)) := by
  obtain ⟨fd, F, h1, h2⟩ := T.mCalmshows
  obtain ⟨mv, kb⟩ := F.kbinds0 (ps := ["self", "rules", "wish", "again"]) 3 ["again"] [] (fun us mz ws => us ++ (mz ++ ws)) (by simp) (by simp) (fun r1 r2 r3 => r1.append (r2.append r3)) (fun D doc pm an cdv ct us mv ws l1 l2 l3 => by
    match us, mv, ws, l1, l2, l3 with
    | [_, _, _], [], [_], _, _, _ => rfl)
  refine ⟨_, fd, mv, F.ok sc_csh (fun vs H Q E ⟨ds, d, ⟨w, x, ag, ps, e, _⟩, al, _⟩ => by subst e; rw [al.length]; rfl) fun cdv A outer s H vs Q E hr ⟨ds, d, ⟨wd, x, ag, ps, e, hz, ed⟩, al, q⟩ => ?_, ⟨h1, h2, F.kp⟩, kb⟩
  subst e ed
  refine ⟨_, PSs.nox (t := tR K (kn0 ["self", "rules", "wish", "again"] [dCalm K ps, dW wd, dWish x, .bl ag]) (.bl (calmP wd x ag ps))) ?_, EA.start al, q⟩
  exact sr_seq (sn_exp (pd_call (ok_clo T) (hr.mono (by decide)) (pds_cons (pd_var 1) (pds_cons (pd_var 2) (pds_cons (pd_var 3) pds_nil))) ⟨⟨wd, x, ag, rfl⟩, rfl⟩))
    (sr_ret (pd_call (ok_aca T) (hr.mono (by decide)) (pds_cons (pd_var 1) (pds_cons (pd_var 2) (pds_cons (pd_var 3) (pds_cons (pd_places T.oCalm T.aPlaces (pd_var 0)) pds_nil)))) ⟨wd, x, ag, ps, rfl, hz, rfl⟩))
theorem ok_ush (T : Top K w mg) : MokA P w K mg base 9 "Upset" "shows" ["self", "rules", "wish", "again"] (spD K (rUsh K)) := by
  obtain ⟨fd, F, h1, h2⟩ := T.mUpsetshows
  obtain ⟨mv, kb⟩ := F.kbinds0 (ps := ["self", "rules", "wish", "again"]) 3 ["again"] [] (fun us mz ws => us ++ (mz ++ ws)) (by simp) (by simp) (fun r1 r2 r3 => r1.append (r2.append r3)) (fun D doc pm an cdv ct us mv ws l1 l2 l3 => by
    match us, mv, ws, l1, l2, l3 with
    | [_, _, _], [], [_], _, _, _ => rfl)
  refine ⟨_, fd, mv, F.ok sc_ush (fun vs H Q E ⟨ds, d, ⟨w, x, ag, ps, e, _⟩, al, _⟩ => by subst e; rw [al.length]; rfl) fun cdv A outer s H vs Q E hr ⟨ds, d, ⟨wd, x, ag, hs, e, hz, ed⟩, al, q⟩ => ?_, ⟨h1, h2, F.kp⟩, kb⟩
  subst e ed
  refine ⟨_, PSs.nox (t := tR K (kn0 ["self", "rules", "wish", "again"] [dUps K hs, dW wd, dWish x, .bl ag]) (.bl (upsetP wd x ag hs))) ?_, EA.start al, q⟩
  exact sr_seq (sn_exp (pd_call (ok_clo T) (hr.mono (by decide)) (pds_cons (pd_var 1) (pds_cons (pd_var 2) (pds_cons (pd_var 3) pds_nil))) ⟨⟨wd, x, ag, rfl⟩, rfl⟩))
    (sr_ret (pd_call (ok_iup T) (hr.mono (by decide)) (pds_cons (pd_var 1) (pds_cons (pd_var 2) (pds_cons (pd_var 3) (pds_cons (pd_history T.oUpset T.aHistory (pd_var 0)) pds_nil)))) ⟨wd, x, ag, hs, rfl, hz, rfl⟩))
end
section
variable {X : Cx} {ρ : Kn} {o e1 e2 e3 : Expr} {apos pos kpos : Pos} {ps : List Pl} {hs : List (Option Deed)} {wd : Wd} {x : Wish} {ag : Bool} {pl : Sem Bool}
theorem pd_csh (T : Top X.K X.w X.mg) (hr : Room 8 X.A) (ho : PD X ρ o (dCalm X.K ps)) (h1 : PD X ρ e1 (dW wd)) (h2 : PD X ρ e2 (dWish x)) (h3 : PD X ρ e3 (.bl ag)) (hz : ps.length ≤ 8000000)
    (hst : starEach [e1, e2] X.env = (false, eval e1 X.env) :: starEach [e2] X.env := by rfl) (hst2 : starEach [e2] X.env = (false, eval e2 X.env) :: starEach [] X.env := by rfl)
    (hall : (backToKw pos (keywordEach [⟨some "again", e3, kpos⟩] X.env)).all (·.1.isSome) = true := by rfl) (hks : (backToKw pos (keywordEach [⟨some "again", e3, kpos⟩] X.env)).filterMap (·.1) = (["again"] : List Str) := by rfl) (hpl : ((backTo pos (starEach [e1, e2] X.env)).any (·.1) || (backToKw pos (keywordEach [⟨some "again", e3, kpos⟩] X.env)).any (·.1.isNone)) = false := by rfl)
    (ht : eval (.Call (.Attribute o "shows" apos) [e1, e2] [⟨some "again", e3, kpos⟩] pos) X.env = (do
      let ov ← eval o X.env
      standAt apos.atName
      let (f, first) ← holding [ov] (getMethod ov "shows" pl)
      callWith pos f first (backTo pos (starEach [e1, e2] X.env)) (backToKw pos (keywordEach [⟨some "again", e3, kpos⟩] X.env))) := by rfl) :
    PD X ρ (.Call (.Attribute o "shows" apos) [e1, e2] [⟨some "again", e3, kpos⟩] pos) (.bl (calmP wd x ag ps)) := by
  obtain ⟨f, fd, mv, F, hm, kb⟩ := (ok_csh (P := X.prog) (base := X.base) T).ex
  refine pe_w (pe_methN ho T.oCalm.cl hm F hr kb pass0 (pds_cons h1 (pds_cons h2 pds_nil hst2) hst) (pk_cons h3 pk_nil) hall hks hst hpl ht) fun σ H Q q => ⟨q.1, fun v H1 e1 a1 => ?_⟩
  obtain ⟨a, rfl, dx, l, ys, z1, z2, z3⟩ := calm_at a1
  have nl : (("shows" : Str) == "places") = false := by decide +kernel
  refine ⟨a, dx, _, rfl, z1, by simp only [List.lookup, nl], q.1.same e1, fun vs H2 e2 a2 => ⟨q.1.same (e1.trans e2), fun u H3 e3 a3 => ?_⟩⟩
  have hl := a2.length
  obtain ⟨v1, v2, rfl, b1, b2⟩ := atL_two a2
  refine ⟨rfl, rfl, [dCalm X.K ps, dW wd, dWish x, .bl ag], _, ⟨wd, x, ag, ps, rfl, hz, rfl⟩, AtL.cons (a1.same (e2.trans e3)) (AtL.cons (b1.same e3) (AtL.cons (b2.same e3) (AtL.cons a3 AtL.nil))), fun v H4 e4 a4 => q.2 v H4 (((e1.trans e2).trans e3).trans e4) a4⟩
theorem pd_ush (T : Top X.K X.w X.mg) (hr : Room 9 X.A) (ho : PD X ρ o (dUps X.K hs)) (h1 : PD X ρ e1 (dW wd)) (h2 : PD X ρ e2 (dWish x)) (h3 : PD X ρ e3 (.bl ag)) (hz : hs.length ≤ 8000000)
    (hst : starEach [e1, e2] X.env = (false, eval e1 X.env) :: starEach [e2] X.env := by rfl) (hst2 : starEach [e2] X.env = (false, eval e2 X.env) :: starEach [] X.env := by rfl)
    (hall : (backToKw pos (keywordEach [⟨some "again", e3, kpos⟩] X.env)).all (·.1.isSome) = true := by rfl) (hks : (backToKw pos (keywordEach [⟨some "again", e3, kpos⟩] X.env)).filterMap (·.1) = (["again"] : List Str) := by rfl) (hpl : ((backTo pos (starEach [e1, e2] X.env)).any (·.1) || (backToKw pos (keywordEach [⟨some "again", e3, kpos⟩] X.env)).any (·.1.isNone)) = false := by rfl)
    (ht : eval (.Call (.Attribute o "shows" apos) [e1, e2] [⟨some "again", e3, kpos⟩] pos) X.env = (do
      let ov ← eval o X.env
      standAt apos.atName
      let (f, first) ← holding [ov] (getMethod ov "shows" pl)
      callWith pos f first (backTo pos (starEach [e1, e2] X.env)) (backToKw pos (keywordEach [⟨some "again", e3, kpos⟩] X.env))) := by rfl) :
    PD X ρ (.Call (.Attribute o "shows" apos) [e1, e2] [⟨some "again", e3, kpos⟩] pos) (.bl (upsetP wd x ag hs)) := by
  obtain ⟨f, fd, mv, F, hm, kb⟩ := (ok_ush (P := X.prog) (base := X.base) T).ex
  refine pe_w (pe_methN ho T.oUpset.cl hm F hr kb pass0 (pds_cons h1 (pds_cons h2 pds_nil hst2) hst) (pk_cons h3 pk_nil) hall hks hst hpl ht) fun σ H Q q => ⟨q.1, fun v H1 e1 a1 => ?_⟩
  obtain ⟨a, rfl, dx, t, z1, z2⟩ := ups_at a1
  have nl : (("shows" : Str) == "history") = false := by decide +kernel
  refine ⟨a, dx, _, rfl, z1, by simp only [List.lookup, nl], q.1.same e1, fun vs H2 e2 a2 => ⟨q.1.same (e1.trans e2), fun u H3 e3 a3 => ?_⟩⟩
  obtain ⟨v1, v2, rfl, b1, b2⟩ := atL_two a2
  refine ⟨rfl, rfl, [dUps X.K hs, dW wd, dWish x, .bl ag], _, ⟨wd, x, ag, hs, rfl, hz, rfl⟩, AtL.cons (a1.same (e2.trans e3)) (AtL.cons (b1.same e3) (AtL.cons (b2.same e3) (AtL.cons a3 AtL.nil))), fun v H4 e4 a4 => q.2 v H4 (((e1.trans e2).trans e3).trans e4) a4⟩
end
end CM
set_option Elab.async false
set_option linter.all false
set_option maxRecDepth 100000
set_option maxHeartbeats 4000000
/-! CMR: enumerate over a tuple; Rules made. -/
namespace CM
open PySem L2
open PyProof.Rows (envOfC)
/-- the cell of an enumerate that begins: its row's pen at it, from nought -/
abbrev counter (it : Addr) : Obj := { cls := .type "enumerate", data := .fields #[.none, .bool false, .ref it, rawInt 0, .none, .none] }
theorem meets_count {v : Value} {o : Obj} {St : Heap → Prop} (B : Begins v o St) :
    Meets (Builtin.«enumerate.__new__» ⟨[.type "enumerate", v], []⟩) (fun _ R s => St s.heap ∧ R (.ok (.ret (.ref (s.heap.push o).objs.size))) { s with heap := (s.heap.push o).push (counter s.heap.objs.size) }) :=
  .of_wp fun prog w A R ⟨hp, gs, dr, tk, ss⟩ ⟨st, next⟩ => by
    have sub := sub_enumerate
    have pen {A' : Around} {E Q : Value → Shared → Prop} (q : Q (.ref hp.objs.size) ⟨hp.push o, gs, dr, tk, ss⟩) : wpAny (model prog w) A' (pyIter v) Q E ⟨hp, gs, dr, tk, ss⟩ := B.iter prog w _ _ _ _ st q
    wp_walk using pen
    refine wpAny_stack_any fun _ => wpAny_pure ?_
    split
    · rename_i c _ _ _ _ _
      cases c == Value.type "enumerate" <;> (wp_walk using pen; exact ⟨_, rfl, next⟩)
    · wp_walk using pen; exact ⟨_, rfl, next⟩
theorem call_count {prog : Program} {w : World} {A : Around} {E Q : Value → Shared → Prop} {s : Shared} {v : Value} {o : Obj} {St : Heap → Prop} (B : Begins v o St) (st : St s.heap)
    (q : Q (.ref (s.heap.push o).objs.size) { s with heap := (s.heap.push o).push (counter s.heap.objs.size) }) : wpAny (model prog w) A (call (.type "enumerate") [v]) Q E s :=
  callType_new PySem.F.called_enumerate (by decide) (PySem.F.typeCall_enumerate_1 _) (PySem.F.newCall_enumerate_1 _) (fun obj => PySem.F.args_object_init_2 obj _) PySem.F.entry_enumerate_new (meets_count B) ⟨st, ⟨_, Heap.get?_push_size _ rfl, rfl⟩, q⟩
/-- a row, each item in a new pair behind its place -/
def IteT (K : PySem.W.Frag) (l : Bool) (a : Addr) (xs : List V) : It where
  go i H := Row K l H a xs ∧ i < xs.length
  yld i := YPair (fun j => some (.int (j : Nat))) (fun j => xs[j]?) i
  stop i H := Row K l H a xs ∧ i = xs.length
theorem walk_count {K : PySem.W.Frag} {l : Bool} {a : Addr} {xs : List V} : Walk (IteT K l a xs) xs.length (fun H => Row K l H a xs) (YPair (fun j => some (.int (j : Nat))) fun j => xs[j]?) :=
  ⟨fun _ _ lt q => ⟨q, lt⟩, fun _ q => ⟨q, rfl⟩, fun _ _ _ _ _ _ y => y⟩
theorem turn_count {P : Program} {w : World} {K : PySem.W.Frag} {elts : List Expr} {kk : Nat} {tpos : Pos} {l : Bool} {a e it : Addr} {xs : List V} (na : a ≠ it) (ne : e ≠ it) (nea : e ≠ a) :
    Turn P w K (.Tuple elts kk tpos) (IteT K l a xs) [e, it] e (fun i h => (∃ old, IsEnum h e it ((i : Nat) : Int) old) ∧ Pen l h it a i) where
  mem := List.mem_cons_self ..
  obj _ _ n := by
    simp only [List.forall_mem_cons]
    exact ⟨n.1.elim fun _ g => ⟨_, g, fun _ => nofun⟩, n.2.cell, nofun⟩
  keep _ _ _ n k := by
    simp only [List.forall_mem_cons] at k
    exact ⟨n.1.imp fun _ g => k.1 _ g, n.2.still k.2.1⟩
  self _ _ _ _ _ n := n.1.elim fun _ g => wpAny_pyIter_enum g
  item := by
    rintro X rfl rfl rfl calm i pins s σ H E I free ⟨⟨old, ge⟩, p⟩ ⟨qa, la⟩
    obtain ⟨its, _, va, -, wa, Da, -⟩ := qa.well I calm
    obtain ⟨u, gu, ru⟩ := va.get (List.getElem?_eq_getElem la)
    refine wpAny_pyNext_enum_itemD (Da it na) ge ⟨p, wa⟩ (Nat.lt_of_lt_of_eq la va.length) ne (by simp only [List.mem_cons, not_or]; exact ⟨ne, nea, nofun⟩) fun u' h1 tk du gz p1 gT _ same =>
      ⟨_, rfl, wpAny_letOwnedTupleGo_enum (s := { s with heap := h1, toks := tk + 1 }) gz fun h2 gz2 but => ?_⟩
    obtain rfl : u = u' := Option.some.inj (gu.symm.trans (by simpa using du))
    have move : ∀ c o, c ≠ e → h1.get? c = some o → h2.get? c = some o := fun c o n g => (but.2 c n).trans g
    have pair : ObjOk X.prog X.w (upd H s.heap.objs.size (.tup [.int (i : Nat), xs[i]])) h2 s.heap.objs.size (.tup [.int (i : Nat), xs[i]]) :=
      ⟨(by decide : 2 ≤ sizeLine), [.int i tk, u], .cons ⟨_, rfl⟩ (.cons ru .nil), _, move _ _ (Nat.ne_of_gt (Heap.lt_size ge)) gT, rfl, _, rfl⟩
    have below : ∀ c ∈ [e, it], c < s.heap.objs.size := by
      simp only [List.forall_mem_cons]
      exact ⟨Heap.lt_size ge, p.cell.elim fun _ g => Heap.lt_size g.1, nofun⟩
    refine ⟨.ref s.heap.objs.size, _, I.turnedNew (fun c o out g => ?_) free (Nat.le_refl _) pair, rfl, ⟨_, _, _, rfl, I.hok.fresh (Nat.le_refl _), rfl, rfl, List.getElem?_eq_getElem la⟩,
      ⟨⟨u, gz2⟩, p1.1.still fun o => move _ o ne.symm⟩, fun c hc => (upd_ne (Nat.ne_of_lt (below c hc))).trans (free c hc).1⟩
    simp only [List.mem_cons, not_or] at out
    exact move _ _ out.1 (same c o out.1 out.2.1 g)
  done := by
    rintro X rfl rfl rfl calm i pins s σ H E I free ⟨⟨old, ge⟩, p⟩ ⟨qa, ea⟩
    obtain ⟨its, _, va, -, wa, Da, -⟩ := qa.well I calm
    obtain rfl : i = its.toArray.size := ea.trans va.length
    refine wpAny_pyNext_enum_endD (Da it na) ge ⟨p, wa⟩ fun h1 but => ⟨rfl, I.turnedL (t' := s.toks) (fun c o out g => but c o (fun z => out ?_) g) free⟩
    exact z ▸ List.mem_cons_of_mem _ (List.mem_cons_self ..)
def iEnumT (K : PySem.W.Frag) (l : Bool) (ta : TA) : TI := fun σ H R => ta σ H fun vs H1 => ∃ a xs, vs = [.ref a] ∧ Row K l H1 a xs ∧ R (IteT K l a xs) H1
theorem pi_enumT {X : Cx} {l : Bool} {e : Expr} {ta : TA} {p pos tpos : Pos} {elts : List Expr} {kk : Nat} (calm : X.calm = true) (hg : Gl X "enumerate") (hm : X.mg "enumerate" = none) (ha : PA X [e] ta) (hs : starEach [e] X.env = [(false, eval e X.env)] := by rfl) :
    PI X (.Tuple elts kk tpos) (.Call (.Name "enumerate" p) [e] [] pos) (iEnumT X.K l ta) := by
  refine ⟨fun pins s σ H R I h => PyProof.Rows.Call_ (ld_blt I hg hm PyProof.Rows.boot_enumerate (PyProof.Rows.callWith_type1 (thn (ha.run pos pins s σ H _ I h) ?_) hs rfl))⟩
  rintro us s1 ⟨_, H1, I1, r, a, xs, rfl, qa, q⟩
  obtain ⟨_, rfl, rfl⟩ : ∃ u, us = [u] ∧ u = .ref a := by
    match us, r with
    | _, .cons ra .nil => exact ⟨_, rfl, ra⟩
  obtain ⟨its, _, -, la, wa, -, o, B, pen⟩ := qa.well I1 calm
  have e1 : (s1.heap.push o).objs.size = s1.heap.objs.size + 1 := Heap.size_push ..
  have ge := Heap.get?_push_size (s1.heap.push o) (o := counter s1.heap.objs.size) rfl
  refine call_count B wa (wpAny_pyIter_enum (e := (s1.heap.push o).objs.size) ge ?_)
  rw [e1] at ge ⊢
  refine ⟨_, [_, _], _, _, H1, rfl, I1.kept (t' := s1.toks) fun c u g => Heap.get?_push_of_some _ (Heap.get?_push_of_some _ g), turn_count (Nat.ne_of_lt la) (Nat.succ_ne_self _) (Nat.ne_of_gt (Nat.lt_succ_of_lt la)),
    ⟨⟨_, ge⟩, pen _ _ (Heap.get?_push_of_some _ (Heap.get?_push_size _ B.free))⟩, ?_, q⟩
  have new : ∀ j : Nat, FpOk X pins H1 (s1.heap.objs.size + j) := fun j => I1.fpOk (Nat.le_add_right _ j) (I1.hok.fresh (Nat.le_add_right _ j))
  simp only [List.forall_mem_cons]
  exact ⟨new 1, new 0, nofun⟩
section
variable {X : Cx} {ρ : Kn} {α : Type} {body : List Stmt} {tg e : Expr} {pos p cpos tpos : Pos} {elts : List Expr} {kk : Nat}
/-- for i, x in enumerate(a tuple): nothing changes -/
theorem sn_forE (i j : Nat) (as : List α) (g : α → D) (ρ3 : Nat → α → Kn) (hc : X.calm = true) (hm : X.mg "enumerate" = none) (he : PD X ρ e (.tup (as.map g))) (hp : PassesOwn (model X.prog X.w) X.A X.env X.xe) (hg : PG X (.Tuple elts kk tpos) (gTup X.K 2 (gSets [i, j])))
    (hle : ∀ (n : Nat) (a : α), as[n]? = some a → Le ρ (ρ3 n a)) (hb : ∀ (n : Nat) (a : α), as[n]? = some a → SN X (K2 ρ i j (.int (n : Int)) (g a)) body (ρ3 n a)) (hgl : Gl X "enumerate" := by exact rfl) (hs1 : starEach [e] X.env = [(false, eval e X.env)] := by rfl)
    (hs : ∀ x, foldedSetIterable (.Call (.Name "enumerate" p) [e] [] cpos) X.env x = pure x := by intro _; rfl) : SN1 X ρ (.For (.Tuple elts kk tpos) (.Call (.Name "enumerate" p) [e] [] cpos) body [] pos) ρ := by
  refine ps_w (ps_for (tb := fun D σ H => ∃ (n : Nat) (a : α), as[n]? = some a ∧ tN X.K (K2 ρ i j (.int (n : Int)) (g a)) (ρ3 n a) D σ H) hp hc (pi_enumT (l := false) hc hgl hm (pds_cons he pds_nil hs1) hs1) hg ⟨fun pins s σ H D I ⟨n, a, ha, q⟩ => (hb n a ha).run pins s σ H D I q⟩ hs) fun D σ H q => ⟨q.1, fun vs H1 e1 al1 => ?_⟩
  obtain ⟨v, rfl, a1⟩ := atL_one al1
  simp only [At] at a1
  obtain ⟨b, xs, rfl, hx, bl⟩ := a1
  refine ⟨b, xs, rfl, hx, ?_⟩
  refine for_it (walk_count (K := X.K) (l := false) (xs := xs)) (g := gTup X.K 2 (gSets [i, j])) (tb := fun D σ H => ∃ (n : Nat) (a : α), as[n]? = some a ∧ tN X.K (K2 ρ i j (.int (n : Int)) (g a)) (ρ3 n a) D σ H) (D := D) (fun n σ H' => Same H1 H' ∧ EA X.K H' σ ρ) ⟨Same.refl _, q.1.same e1⟩ (fun n σ H' _ p => sqT_same p.1 hx) (fun n v' σ H' H'' _ p yy => ?_) (fun σ H' p => q.2 σ H' (e1.trans p.1) p.2)
  obtain ⟨T, _, x, rfl, hT, rfl, hz, hn⟩ := yy
  cases hz
  obtain ⟨sm, ea⟩ := p
  obtain ⟨d0, hd0, ad⟩ := bl.get' hn
  obtain ⟨a, ha, rfl⟩ := get_map hd0
  have e2 : Same H' (upd H' T (.tup [.int (n : Nat), x])) := same_new hT
  have ap : At X.K (upd H' T (.tup [.int (n : Nat), x])) (.tup [.int (n : Int), g a]) (.ref T) := at_tup (SqT.of upd_same) (AtL.cons (by simp only [At]) (AtL.cons (ad.same (sm.trans e2)) AtL.nil))
  exact gPair_ok (ea.same e2) ap fun u u2 ea2 => ⟨n, a, ha, ea2, fun σ3 H3 e3 ea3 => ⟨sm.trans (e2.trans e3), ea3.le (hle n a ha)⟩⟩
end
/-! ### words_for, Rules -/
def canBe : List (List Str) := [["part", "step", "whole"], ["no", "yes"], ["no", "yes"], ["ahead", "behind"], ["ahead", "behind", "never"], ["first", "second"]]
def rWfo (ds : List D) (d : D) : Prop := ∃ (n : Nat) (ws : List Str), ds = [.int (n : Int)] ∧ canBe[n]? = some ws ∧ d = .tup (ws.map D.str)
def spRI (K : PySem.W.Frag) : Sp := fun vs H Q _ => ∃ (a dx : Addr) (wd : Wd), vs = .ref a :: wd.strs.map V.str ∧ H a = some (.ins (He.ga K "Rules") dx []) ∧
  ∀ (H1 : Hp) (t : Addr), Same H H1 → SqT K H1 t (wd.strs.map V.str) → Q .non (upd H1 a (.ins (He.ga K "Rules") dx [("row", .ref t)]))
theorem in_rec (x : Rec) : inD (.str x.str) [.str "part", .str "step", .str "whole"] = true := by cases x <;> decide +kernel
theorem in_yn (x : Bool) : inD (.str (yn x)) [.str "no", .str "yes"] = true := by cases x <;> decide +kernel
theorem in_ab (x : Bool) : inD (.str (ab x)) [.str "ahead", .str "behind"] = true := by cases x <;> decide +kernel
theorem in_clr (x : Clr) : inD (.str x.str) [.str "ahead", .str "behind", .str "never"] = true := by cases x <;> decide +kernel
theorem in_fs2 (x : Bool) : inD (.str (fs2 x)) [.str "first", .str "second"] = true := by cases x <;> decide +kernel
theorem wd_in (wd : Wd) (n : Nat) (x : Str) (h : wd.strs[n]? = some x) : ∃ ws, canBe[n]? = some ws ∧ inD (.str x) (ws.map D.str) = true := by
  have h6 : n < 6 := (List.getElem?_eq_some_iff.mp h).1
  obtain ⟨rc, gu, fi, mb, cl, o2⟩ := wd
  match n, h6, h with
  | 0, _, h => exact ⟨_, rfl, by cases h; exact in_rec rc⟩
  | 1, _, h => exact ⟨_, rfl, by cases h; exact in_yn gu⟩
  | 2, _, h => exact ⟨_, rfl, by cases h; exact in_yn fi⟩
  | 3, _, h => exact ⟨_, rfl, by cases h; exact in_ab mb⟩
  | 4, _, h => exact ⟨_, rfl, by cases h; exact in_clr cl⟩
  | 5, _, h => exact ⟨_, rfl, by cases h; exact in_fs2 o2⟩
section
variable {P : Program} {w : World} {K : PySem.W.Frag} {mg : Str → Option Value} {base : Heap}
theorem sc_wfo : FnScope ["place"] ["place"] (defScope (top 10)) := ⟨rfl, rfl, rfl, by decide +kernel, rfl, by decide +kernel, by decide +kernel⟩
theorem ok_wfo (T : Top K w mg) : Dok P w K mg base 1 "words_for" ["place"] (spD K rWfo) :=
  dokD T.dwords_for sc_wfo (fun ds d ⟨n, ws, e, _⟩ => by subst e; rfl) (fun _ _ _ _ _ _ us hl => match us, hl with | [_], _ => rfl) fun ds d ⟨n, ws, e, hn, ed⟩ f cdv A outer s' H E hr => by
    subst e ed
    exact sr_ret (pd_ix (pd_to (pd_gl T.gCAN_BE) (show _ = D.tup (canBe.map fun ws => D.tup (ws.map D.str)) from rfl)) (pd_var 0) (atI_nn (by rw [List.getElem?_map, hn]; rfl)))
theorem sc_ri : FnScope ["self", "record", "guard", "first", "mark", "clear", "order", "row", "place", "word"] ["self", "record", "guard", "first", "mark", "clear", "order"] (defScope (inClass (top 11) 0)) := ⟨rfl, rfl, rfl, by decide +kernel, rfl, by decide +kernel, by decide +kernel⟩
theorem ok_ri (T : Top K w mg) : ∃ f fd mv, Mk K (He.ga K "Rules") f ∧ FnOk P w K mg base CX0 2 f fd ["self", "record", "guard", "first", "mark", "clear", "order"] (spRI K) ∧ KBn K fd ["self", "record", "guard", "first", "mark", "clear", "order"] 2 ["guard", "first", "mark", "clear", "order"] (fun us ws => us ++ (mv ++ ws)) (fun vs zs => vs ++ zs) := by
  obtain ⟨fd, F, h1, h2⟩ := T.mRinit
  obtain ⟨mv, kb⟩ := F.kbinds0 (ps := ["self", "record", "guard", "first", "mark", "clear", "order"]) 2 ["guard", "first", "mark", "clear", "order"] [] (fun us mz ws => us ++ (mz ++ ws)) (by simp) (by simp) (fun r1 r2 r3 => r1.append (r2.append r3)) (fun D doc pm an cdv ct us mv ws l1 l2 l3 => by
    match us, mv, ws, l1, l2, l3 with
    | [_, _], [], [_, _, _, _, _], _, _, _ => rfl)
  refine ⟨_, fd, mv, ⟨T.mkRules.1, h1, h2, T.mkRules.2⟩, F.ok sc_ri (fun vs H Q E ⟨a, dx, wd, e, _⟩ => by subst e; rfl) fun cdv A outer s H vs Q E hr ⟨a, dx, wd, e, ha, q⟩ => ?_, kb⟩
  subst e
  refine ⟨_, PSs.nox (pss_cons (sn_asg (ρ := [some (.adr a), some (.str wd.rc.str), some (.str (yn wd.gu)), some (.str (yn wd.fi)), some (.str (ab wd.mb)), some (.str wd.cl.str), some (.str (fs2 wd.o2)), none, none, none]) 7
      (pd_to (pd_tup (pds_cons (pd_var 1) (pds_cons (pd_var 2) (pds_cons (pd_var 3) (pds_cons (pd_var 4) (pds_cons (pd_var 5) (pds_cons (pd_var 6) pds_nil))))))) (show _ = D.tup (wd.strs.map D.str) from rfl)) sc_ri.nd)
    (pss_cons (sn_forE (ρ := [some (.adr a), some (.str wd.rc.str), some (.str (yn wd.gu)), some (.str (yn wd.fi)), some (.str (ab wd.mb)), some (.str wd.cl.str), some (.str (fs2 wd.o2)), some (.tup (wd.strs.map D.str)), none, none]) 8 9 wd.strs D.str
        (fun n x => [some (.adr a), some (.str wd.rc.str), some (.str (yn wd.gu)), some (.str (yn wd.fi)), some (.str (ab wd.mb)), some (.str wd.cl.str), some (.str (fs2 wd.o2)), some (.tup (wd.strs.map D.str)), some (.int (n : Int)), some (.str x)]) rfl T.fenumerate (pd_var 7) PassesOwn.never
        (pg_tup rfl (pgs_cons (pg_name (i := 8) sc_ri.nd rfl (Or.inl rfl)) (pgs_cons (pg_name (i := 9) sc_ri.nd rfl (Or.inl rfl)) pgs_nil))) (fun n x _ => by repeat (first | exact Le.nil | refine Le.no ?_ | refine Le.yes ?_)) (fun n x hx => ?_))
    (pss_one (ps_fld (pe_var (i := 0) rfl (Or.inl rfl)) (pd_var (ρ := [some (.adr a), some (.str wd.rc.str), some (.str (yn wd.gu)), some (.str (yn wd.fi)), some (.str (ab wd.mb)), some (.str wd.cl.str), some (.str (fs2 wd.o2)), some (.tup (wd.strs.map D.str)), none, none]) 7) rfl)))), ?_⟩
  · obtain ⟨ws, e1, e2⟩ := wd_in wd n x hx
    show SN _ [some (.adr a), some (.str wd.rc.str), some (.str (yn wd.gu)), some (.str (yn wd.fi)), some (.str (ab wd.mb)), some (.str wd.cl.str), some (.str (fs2 wd.o2)), some (.tup (wd.strs.map D.str)), some (.int (n : Int)), some (.str x)] _ _
    exact sn_seq (sn_skip (pdt_is (PW.pt (pdw_or (pdt_not (pdt_val (pd_isiB (T := "str") (r := true) T.fisinstance T.fstr (by decide +kernel) (pd_var 9) tyStr (kit_ty (by decide +kernel))))) (pdw_or1 (pdt_cmp (pd_var 9) (pd_call (ok_wfo T) (hr.mono (by decide)) (pds_cons (pd_var 8) pds_nil) ⟨n, ws, rfl, e1, rfl⟩) (cmp_niT rfl (by rw [List.all_map]; exact List.all_eq_true.mpr fun _ _ => rfl)))))) (by rw [e2]; rfl))) sn_nil
  · refine ⟨EA.start (ds := [.adr a, .str wd.rc.str, .str (yn wd.gu), .str (yn wd.fi), .str (ab wd.mb), .str wd.cl.str, .str (fs2 wd.o2)]) (AtL.cons (by simp only [At]) (AtL.strs (ws := wd.strs))), fun σ1 H1 e1 ea1 => ⟨ea1, fun σ2 H2 e2 ea2 => ⟨ea2, fun v H3 e3 a3 => ?_⟩⟩⟩
    obtain ⟨va, hv1, hv2⟩ := ea2.2 0 _ rfl
    simp only [At] at hv2 a3
    subst hv2
    obtain ⟨t, xs, rfl, hx, al⟩ := a3
    have ex : xs = wd.strs.map V.str := by
      rw [atL_fl al (by rw [List.all_map]; exact List.all_eq_true.mpr fun _ _ => rfl), List.map_map]; rfl
    subst ex
    have e4 := (e1.trans e2).trans e3
    exact ⟨.ref a, hv1, a, _, dx, [], rfl, e4 _ _ ha, T.oRules.cl, T.aRow, by decide, q H3 t e4 hx⟩
end
end CM
set_option Elab.async false
set_option linter.all false
set_option maxRecDepth 100000
set_option maxHeartbeats 4000000
/-! CMN: _law_number, _law_words, _law_made. -/
namespace CM
open PySem L2
open PyProof.Rows (envOfC)
section
variable {X : Cx} {ρ : Kn} {e a b : Expr} {i j : Int} {ns : List Int} {pos p : Pos}
theorem pd_intc (hm : X.mg "int" = none) (h : PD X ρ e (.int i)) (hg : Gl X "int" := by exact rfl) (hs : starEach [e] X.env = [(false, eval e X.env)] := by rfl) : PD X ρ (.Call (.Name "int" p) [e] [] pos) (.int i) :=
  pe_w (pe_callTy call_int1 hg hm (by decide +kernel) (pds_cons h pds_nil hs) (by decide) (by decide) hs rfl) fun σ H Q q => ⟨q.1, fun vs H1 e1 a1 => by
    obtain ⟨v, rfl, a⟩ := atL_one a1
    simp only [At] at a
    exact .inl ⟨i, by rw [a], q.2 _ H1 e1 (by simp only [At])⟩⟩
theorem pd_mul (ha : PD X ρ a (.int i)) (hb : PD X ρ b (.int j)) (hc : CMul i j) : PD X ρ (.BinOp a .Mult b pos) (.int (i * j)) :=
  pd_op2 op_mul ha hb fun x y H Q a1 a2 q => by
    simp only [At] at a1 a2
    exact ⟨i, j, a1, a2, hc, q _ H (Same.refl H) (by simp only [At])⟩
theorem pd_fdiv (ha : PD X ρ a (.int i)) (hb : PD X ρ b (.int j)) (hc : CDiv i j) : PD X ρ (.BinOp a .FloorDiv b pos) (.int (i / j)) :=
  pd_op2 op_fdiv ha hb fun x y H Q a1 a2 q => by
    simp only [At] at a1 a2
    exact ⟨i, j, a1, a2, hc, q _ H (Same.refl H) (by simp only [At])⟩
theorem pd_mod (ha : PD X ρ a (.int i)) (hb : PD X ρ b (.int j)) (hc : 0 < j) : PD X ρ (.BinOp a .Mod b pos) (.int (i % j)) :=
  pd_op2 op_mod ha hb fun x y H Q a1 a2 q => by
    simp only [At] at a1 a2
    exact ⟨i, j, a1, a2, hc, q _ H (Same.refl H) (by simp only [At])⟩
theorem pd_sumc (hc : X.calm = true) (hm : X.mg "sum" = none) (h : PD X ρ e (.lst (ns.map D.int))) (hg : Gl X "sum" := by exact rfl) (hs : starEach [e] X.env = [(false, eval e X.env)] := by rfl) : PD X ρ (.Call (.Name "sum" p) [e] [] pos) (.int ns.sum) :=
  pe_w (pe_callB (cr_sum hc) hg hm (by decide +kernel) (pds_cons h pds_nil hs) (by decide) (by decide) hs rfl) fun σ H Q q => ⟨q.1, fun vs H1 e1 a1 => by
    obtain ⟨v, rfl, a⟩ := atL_one a1
    simp only [At] at a
    obtain ⟨c, xs, rfl, hx, al⟩ := a
    have ex : xs = ns.map V.int := by
      rw [atL_fl al (by rw [List.all_map]; exact List.all_eq_true.mpr fun _ _ => rfl), List.map_map]; rfl
    subst ex
    exact ⟨c, ns, rfl, hx, q.2 _ H1 e1 (by simp only [At])⟩⟩
end
section
variable {X : Cx} {ρ : Kn} {a b c : Expr} {d1 d2 d3 : D} {pos pt pt2 px py pz : Pos} {kt k2 : Nat} {x y z : Str}
/-- x, y = a, b -/
theorem sn_par (i j : Nat) (ha : PD X ρ a d1) (hb : PD X ρ b d2) (nd : X.N.Nodup) (hc : X.calm = true) (hij : i ≠ j := by decide) (hi : X.N[i]? = some x := by rfl) (hj : X.N[j]? = some y := by rfl)
    (hx : X.env.scope.names.lookup x = some .local := by rfl) (hy : X.env.scope.names.lookup y = some .local := by rfl) (hs1 : starEach [a, b] X.env = (false, eval a X.env) :: starEach [b] X.env := by rfl) (hs2 : starEach [b] X.env = (false, eval b X.env) :: starEach [] X.env := by rfl)
    (hw : swappedStores [.Tuple [.Name x px, .Name y py] kt pt] (.Tuple [a, b] k2 pt2) X.env = pure (some [x, y]) := by rfl) (hs : swapsWithSole [.Tuple [.Name x px, .Name y py] kt pt] (.Tuple [a, b] k2 pt2) pos.line X.env = pure false := by rfl) :
    SN1 X ρ (.Assign [.Tuple [.Name x px, .Name y py] kt pt] (.Tuple [a, b] k2 pt2) pos) ((ρ.set i (some d1)).set j (some d2)) :=
  ps_w (ps_par hc nd hi hj hij hx hy (pds_two ha hb hs1 hs2) hw hs) fun D σ H q => ⟨q.1, fun vs H1 e1 a1 => by
    obtain ⟨v, u, rfl, b1, b2⟩ := atL_two a1
    exact ⟨v, u, rfl, q.2 _ H1 e1 (((q.1.same e1).set b1).set b2)⟩⟩
theorem sn_par3 (i j l : Nat) (ha : PD X ρ a d1) (hb : PD X ρ b d2) (hcc : PD X ρ c d3) (nd : X.N.Nodup) (hc : X.calm = true) (hij : i ≠ j := by decide) (hil : i ≠ l := by decide) (hjl : j ≠ l := by decide) (hi : X.N[i]? = some x := by rfl) (hj : X.N[j]? = some y := by rfl) (hl : X.N[l]? = some z := by rfl)
    (hx : X.env.scope.names.lookup x = some .local := by rfl) (hy : X.env.scope.names.lookup y = some .local := by rfl) (hz : X.env.scope.names.lookup z = some .local := by rfl) (hs1 : starEach [a, b, c] X.env = (false, eval a X.env) :: starEach [b, c] X.env := by rfl) (hs2 : starEach [b, c] X.env = (false, eval b X.env) :: starEach [c] X.env := by rfl) (hs3 : starEach [c] X.env = (false, eval c X.env) :: starEach [] X.env := by rfl)
    (hw : swappedStores [.Tuple [.Name x px, .Name y py, .Name z pz] kt pt] (.Tuple [a, b, c] k2 pt2) X.env = pure (some [x, y, z]) := by rfl) (hs : swapsWithSole [.Tuple [.Name x px, .Name y py, .Name z pz] kt pt] (.Tuple [a, b, c] k2 pt2) pos.line X.env = pure false := by rfl) :
    SN1 X ρ (.Assign [.Tuple [.Name x px, .Name y py, .Name z pz] kt pt] (.Tuple [a, b, c] k2 pt2) pos) (((ρ.set i (some d1)).set j (some d2)).set l (some d3)) :=
  ps_w (ps_par3 hc nd hi hj hl hij hil hjl hx hy hz (pds_cons ha (pds_two hb hcc hs2 hs3) hs1) hw hs) fun D σ H q => ⟨q.1, fun vs H1 e1 a1 => by
    simp only [AtL] at a1
    obtain ⟨v, r, rfl, b1, u, r2, rfl, b2, t, r3, rfl, b3, rfl⟩ := a1
    exact ⟨v, u, t, rfl, q.2 _ H1 e1 ((((q.1.same e1).set b1).set b2).set b3)⟩⟩
end
theorem datInts : ∀ ns : List Int, datDs (ns.map D.int) = true
  | [] => rfl
  | n :: ns => by simp [datDs, datD, datInts ns]
theorem layInts : ∀ ns : List Int, PyData.canLayAll0 (pdDs (ns.map D.int)) = true
  | [] => rfl
  | n :: ns => by simp [pdDs, pdD, PyData.canLayAll0, PyData.canLay0, layInts ns]
theorem depInts : ∀ ns : List Int, PyData.depthAll (pdDs (ns.map D.int)) = 0
  | [] => by simp [pdDs, PyData.depthAll]
  | n :: ns => by simp [pdDs, pdD, PyData.depthAll, PyData.depth, depInts ns]
theorem shpInts (ns : List Int) : SeqAt.shaped (pdD (.lst (ns.map D.int))) = true := by
  simp [SeqAt.shaped, pdD, PyData.canLay0, PyData.depth, layInts, depInts]
theorem cmp_neI {X : Cx} {ns : List Int} (hu : X.A.units + 64 < cLine) : CmpD X .NotEq (.lst (ns.map D.int)) (.lst []) (!ns.isEmpty) := by
  have h := cmp_neX (X := X) (d := .lst (ns.map D.int)) (e := .lst []) hu (by simp only [datD]; exact datInts ns) rfl (shpInts ns) shp_nil
  have e : PyData.eqv (pdD (.lst (ns.map D.int))) (pdD (.lst [])) = ns.isEmpty := by cases ns <;> simp [pdD, pdDs, PyData.eqv, PyData.eqvAll]
  rw [e] at h; exact h
/-! ### the numbers -/
def cells (ns : List Int) : List Int := cond (!ns.isEmpty) ((ns.drop 0).take (min 63 ns.length - 0)) [5]
theorem cells_pos (ns : List Int) : 0 < (cells ns).length := by
  cases ns with
  | nil => exact Nat.zero_lt_one
  | cons n ns =>
    show 0 < (((n :: ns).drop 0).take (min 63 (n :: ns).length - 0)).length
    simp; omega
theorem cells_le (ns : List Int) : (cells ns).length ≤ 63 := by
  cases ns with
  | nil => exact (by decide : 1 ≤ 63)
  | cons n ns =>
    show (((n :: ns).drop 0).take (min 63 (n :: ns).length - 0)).length ≤ 63
    rw [List.length_take]
    omega
def cellAt (ns : List Int) (k : Int) : Int := (cells ns).getD (k % ((cells ns).length : Int)).toNat 0
def lawCell (ns : List Int) (k : Int) : Int := cellAt ns k + 13 * (k / ((cells ns).length : Int))
def lowN (ns : List Int) (k : Int) : Int := lawCell ns k % 1000003
def highN (ns : List Int) (k : Int) : Int := lawCell ns k / 1000003 % 999983
def blendN (ns : List Int) (k : Int) : Int := ((lowN ns k + 977 * k) * 48271 + 31 * highN ns k + (cells ns).sum % 65521) % 2147483647
def lawNum (ns : List Int) (k : Int) : Int := blendN ns k * (blendN ns k + 31 * k + 7) % 2147483629 * 65537 + highN ns k
theorem cellAt_ok (ns : List Int) (k : Int) : L2.atI ((cells ns).map D.int) (k % (((cells ns).map D.int).length : Int)) = some (.int (cellAt ns k)) := by
  have hp := cells_pos ns
  rw [List.length_map]
  have h0 : 0 ≤ k % ((cells ns).length : Int) := Int.emod_nonneg _ (by omega)
  have h1 : k % ((cells ns).length : Int) < ((cells ns).length : Int) := Int.emod_lt_of_pos _ (by omega)
  have e : ((k % ((cells ns).length : Int)).toNat : Int) = k % ((cells ns).length : Int) := Int.toNat_of_nonneg h0
  have hlt : (k % ((cells ns).length : Int)).toNat < (cells ns).length := by omega
  have q := atI_nn (xs := (cells ns).map D.int) (j := (k % ((cells ns).length : Int)).toNat) (v := .int (cellAt ns k)) (by
    rw [List.getElem?_map, List.getElem?_eq_getElem hlt]
    show some (D.int (cells ns)[(k % ((cells ns).length : Int)).toNat]) = _
    rw [cellAt, List.getD_eq_getElem?_getD, List.getElem?_eq_getElem hlt]; rfl)
  rw [e] at q
  exact q
def rNum (ds : List D) (d : D) : Prop := ∃ (ns : List Int) (k : Int), ds = [.lst (ns.map D.int), .int k] ∧ d = .int (lawNum ns k)
/-- the words by two numbers -/
def wRec (n : Int) : Rec := match (n % 4).toNat with
  | 0 => .step
  | 1 => .part
  | 2 => .whole
  | _ => .step
def wGu (n : Int) : Bool := decide ((n / 4 % 2).toNat = 1)
def wFi (n : Int) : Bool := decide ((n / 8 % 3).toNat = 1)
def wMb (n : Int) : Bool := decide ((n / 24 % 3).toNat = 2)
def wCl (n : Int) : Clr := match (n % 3).toNat with
  | 0 => .ahead
  | 1 => .behind
  | _ => .never
def wO2 (n : Int) : Bool := decide ((n / 3 % 2).toNat = 1)
def theWd (ns : List Int) (k : Int) : Wd := ⟨wRec (lawNum ns k), wGu (lawNum ns k), wFi (lawNum ns k), wMb (lawNum ns k), wCl (lawNum ns (k + 1)), wO2 (lawNum ns (k + 1))⟩
def rWds (ds : List D) (d : D) : Prop := ∃ (ns : List Int) (k : Int), ds = [.lst (ns.map D.int), .int k] ∧ d = dWs (theWd ns k)
theorem atI_mod {α : Type} {xs : List α} {n m : Int} {v : α} (hm : 0 < m) (h : xs[(n % m).toNat]? = some v) : L2.atI xs (n % m) = some v := by
  have h0 : 0 ≤ n % m := Int.emod_nonneg _ (by omega)
  have q := atI_nn (xs := xs) (j := (n % m).toNat) h
  rw [Int.toNat_of_nonneg h0] at q
  exact q
theorem small {n m : Int} {k : Nat} (hm : 0 < m) (hk : m ≤ k) : (n % m).toNat < k := by
  have h0 : 0 ≤ n % m := Int.emod_nonneg _ (by omega)
  have h1 : n % m < m := Int.emod_lt_of_pos _ hm
  omega
theorem at_rec (n : Int) : ([D.str "step", .str "part", .str "whole", .str "step"])[(n % 4).toNat]? = some (.str (wRec n).str) := by
  have h := small (n := n) (m := 4) (k := 4) (by decide) (by decide)
  unfold wRec
  revert h
  generalize (n % 4).toNat = j
  intro h
  match j, h with
  | 0, _ => rfl
  | 1, _ => rfl
  | 2, _ => rfl
  | 3, _ => rfl
theorem at_cl (n : Int) : ([D.str "ahead", .str "behind", .str "never"])[(n % 3).toNat]? = some (.str (wCl n).str) := by
  have h := small (n := n) (m := 3) (k := 3) (by decide) (by decide)
  unfold wCl
  revert h
  generalize (n % 3).toNat = j
  intro h
  match j, h with
  | 0, _ => rfl
  | 1, _ => rfl
  | 2, _ => rfl
theorem at_2 (n : Int) (a b : D) : ([a, b])[(n % 2).toNat]? = some (cond (decide ((n % 2).toNat = 1)) b a) := by
  have h := small (n := n) (m := 2) (k := 2) (by decide) (by decide)
  revert h
  generalize (n % 2).toNat = j
  intro h
  match j, h with
  | 0, _ => rfl
  | 1, _ => rfl
theorem at_31 (n : Int) (a b : D) : ([a, b, a])[(n % 3).toNat]? = some (cond (decide ((n % 3).toNat = 1)) b a) := by
  have h := small (n := n) (m := 3) (k := 3) (by decide) (by decide)
  revert h
  generalize (n % 3).toNat = j
  intro h
  match j, h with
  | 0, _ => rfl
  | 1, _ => rfl
  | 2, _ => rfl
theorem at_32 (n : Int) (a b : D) : ([a, a, b])[(n % 3).toNat]? = some (cond (decide ((n % 3).toNat = 2)) b a) := by
  have h := small (n := n) (m := 3) (k := 3) (by decide) (by decide)
  revert h
  generalize (n % 3).toNat = j
  intro h
  match j, h with
  | 0, _ => rfl
  | 1, _ => rfl
  | 2, _ => rfl
section
variable {P : Program} {w : World} {K : PySem.W.Frag} {mg : Str → Option Value} {base : Heap}
theorem sc_num : FnScope ["_law_script", "_law_index", "_law_cells", "_law_cell", "_law_low", "_law_high", "_law_total", "_law_blend"] ["_law_script", "_law_index"] (defScope (top 55)) := ⟨rfl, rfl, rfl, by decide +kernel, rfl, by decide +kernel, by decide +kernel⟩
theorem cut63 (ns : List Int) : cutD (ns.map D.int) none (some 63) = ((ns.drop 0).take (min 63 ns.length - 0)).map D.int := by
  unfold cutD
  have e1 : HT.sIx (ns.map D.int).length 0 none = 0 := rfl
  have e2 : HT.sIx (ns.map D.int).length (ns.map D.int).length (some 63) = min 63 ns.length := by rw [List.length_map]; exact HT.sIx_nat _ _ 63
  rw [e1, e2, List.map_take, List.map_drop]
theorem blend_lt (ns : List Int) (k : Int) : 0 ≤ blendN ns k ∧ blendN ns k < 2147483647 := ⟨Int.emod_nonneg _ (by decide), Int.emod_lt_of_pos _ (by decide)⟩
theorem ok_num (T : Top K w mg) : Dok P w K mg base 1 "_law_number" ["_law_script", "_law_index"] (spD K rNum) :=
  dokD T.d_law_number sc_num (fun ds d ⟨ns, k, e, _⟩ => by subst e; rfl) (fun _ _ _ _ _ _ us hl => match us, hl with | [_, _], _ => rfl) fun ds d ⟨ns, k, e, ed⟩ f cdv A outer s' H E hr => by
    subst e ed
    have hp := cells_pos ns
    have hl := cells_le ns
    have hdv : CDiv k (((cells ns).map D.int).length : Int) := ⟨by rw [List.length_map]; omega, by rw [List.length_map]; omega⟩
    have hb := blend_lt ns k
    refine sr_seq (sn_asg 2 (pd_l (pdl_to (pdl_ifC (pdt_cmp (pd_var 0) (pd_lst pds_nil) (cmp_neI (units_of hr (by decide)))) (pdl_to (pdl_slL (pd_var 0) pdo_none (pdo_some pd_int)) (cut63 ns)) (pdl_lst (pds_cons pd_int pds_nil))) (show _ = (cells ns).map D.int by unfold cells; cases (!ns.isEmpty) <;> rfl))) sc_num.nd) ?_
    refine sr_seq (sn_asg 3 (pd_to (pd_add (pd_ixL (pd_var 2) (pd_mod (pd_intc T.fint (pd_var 1)) (pd_lenL T.flen (pd_var 2)) hdv.1) (cellAt_ok ns k)) (pd_mul pd_int (pd_fdiv (pd_var 1) (pd_lenL T.flen (pd_var 2)) hdv) (.inl ⟨by decide, by decide⟩))) (show _ = D.int (lawCell ns k) by rw [List.length_map]; rfl)) sc_num.nd) ?_
    refine sr_norm [some (.lst (ns.map D.int)), some (.int k), some (.lst ((cells ns).map D.int)), some (.int (lawCell ns k)), none, none, none, none] ?_
    refine sr_seq (sn_par 4 5 (d1 := .int (lowN ns k)) (d2 := .int (highN ns k)) (pd_mod (pd_intc T.fint (pd_var 3)) pd_int (by decide)) (pd_mod (pd_intc T.fint (pd_fdiv (pd_var 3) pd_int ⟨by decide, by decide⟩)) pd_int (by decide)) sc_num.nd rfl) ?_
    refine sr_seq (sn_asg 6 (pd_mod (pd_intc T.fint (pd_sumc rfl T.fsum (pd_var 2))) pd_int (by decide)) sc_num.nd) ?_
    refine sr_seq (sn_asg 7 (pd_to (pd_mod (pd_intc T.fint (pd_add (pd_add (pd_mul (pd_add (pd_var 4) (pd_mul pd_int (pd_var 1) (.inl ⟨by decide, by decide⟩))) pd_int (.inr ⟨by decide, by decide⟩)) (pd_mul pd_int (pd_var 5) (.inl ⟨by decide, by decide⟩))) (pd_var 6))) pd_int (by decide)) (show _ = D.int (blendN ns k) from rfl)) sc_num.nd) ?_
    refine sr_norm [some (.lst (ns.map D.int)), some (.int k), some (.lst ((cells ns).map D.int)), some (.int (lawCell ns k)), some (.int (lowN ns k)), some (.int (highN ns k)), some (.int ((cells ns).sum % 65521)), some (.int (blendN ns k))] ?_
    exact sr_ret (pd_to (pd_add (pd_mul (pd_mod (pd_intc T.fint (pd_mul (pd_var 7) (pd_add (pd_add (pd_var 7) (pd_mul pd_int (pd_var 1) (.inl ⟨by decide, by decide⟩))) pd_int) (.inl ⟨by omega, by omega⟩))) pd_int (by decide)) pd_int (.inr ⟨by decide, by decide⟩)) (pd_var 5)) rfl)
theorem sc_wds : FnScope ["_law_script", "_law_at", "_law_seed", "_law_more", "_law_record", "_law_guarded", "_law_early", "_law_marked_here", "_law_cleared", "_law_half"] ["_law_script", "_law_at"] (defScope (top 56)) := ⟨rfl, rfl, rfl, by decide +kernel, rfl, by decide +kernel, by decide +kernel⟩
theorem ok_wds (T : Top K w mg) : Dok P w K mg base 2 "_law_words" ["_law_script", "_law_at"] (spD K rWds) :=
  dokD T.d_law_words sc_wds (fun ds d ⟨ns, k, e, _⟩ => by subst e; rfl) (fun _ _ _ _ _ _ us hl => match us, hl with | [_, _], _ => rfl) fun ds d ⟨ns, k, e, ed⟩ f cdv A outer s' H E hr => by
    subst e ed
    refine sr_seq (sn_par 2 3 (d1 := .int (lawNum ns k)) (d2 := .int (lawNum ns (k + 1))) (pd_intc T.fint (pd_call (ok_num T) (hr.mono (by decide)) (pds_two (pd_var 0) (pd_var 1)) ⟨ns, k, rfl, rfl⟩)) (pd_intc T.fint (pd_call (ok_num T) (hr.mono (by decide)) (pds_two (pd_var 0) (pd_add (pd_var 1) pd_int)) ⟨ns, k + 1, rfl, rfl⟩)) sc_wds.nd rfl) ?_
    refine sr_norm [some (.lst (ns.map D.int)), some (.int k), some (.int (lawNum ns k)), some (.int (lawNum ns (k + 1))), none, none, none, none, none, none] ?_
    refine sr_seq (sn_par 4 5 (d1 := .str (wRec (lawNum ns k)).str) (d2 := .str (yn (wGu (lawNum ns k)))) (pd_ix (pd_tup (pds_cons pd_str (pds_cons pd_str (pds_cons pd_str (pds_cons pd_str pds_nil))))) (pd_mod (pd_intc T.fint (pd_var 2)) pd_int (by decide)) (atI_mod (by decide) (at_rec _)))
      (pd_to (pd_ix (pd_tup (pds_two pd_str pd_str)) (pd_mod (pd_intc T.fint (pd_fdiv (pd_var 2) pd_int ⟨by decide, by decide⟩)) pd_int (by decide)) (atI_mod (by decide) (at_2 _ _ _))) (by unfold wGu; cases decide ((lawNum ns k / 4 % 2).toNat = 1) <;> rfl)) sc_wds.nd rfl) ?_
    refine sr_seq (sn_par 6 7 (d1 := .str (yn (wFi (lawNum ns k)))) (d2 := .str (ab (wMb (lawNum ns k)))) (pd_to (pd_ix (pd_tup (pds_cons pd_str (pds_cons pd_str (pds_cons pd_str pds_nil)))) (pd_mod (pd_intc T.fint (pd_fdiv (pd_var 2) pd_int ⟨by decide, by decide⟩)) pd_int (by decide)) (atI_mod (by decide) (at_31 _ _ _))) (by unfold wFi; cases decide ((lawNum ns k / 8 % 3).toNat = 1) <;> rfl))
      (pd_to (pd_ix (pd_tup (pds_cons pd_str (pds_cons pd_str (pds_cons pd_str pds_nil)))) (pd_mod (pd_intc T.fint (pd_fdiv (pd_var 2) pd_int ⟨by decide, by decide⟩)) pd_int (by decide)) (atI_mod (by decide) (at_32 _ _ _))) (by unfold wMb; cases decide ((lawNum ns k / 24 % 3).toNat = 2) <;> rfl)) sc_wds.nd rfl) ?_
    refine sr_norm [some (.lst (ns.map D.int)), some (.int k), some (.int (lawNum ns k)), some (.int (lawNum ns (k + 1))), some (.str (wRec (lawNum ns k)).str), some (.str (yn (wGu (lawNum ns k)))), some (.str (yn (wFi (lawNum ns k)))), some (.str (ab (wMb (lawNum ns k)))), none, none] ?_
    refine sr_seq (sn_par 8 9 (d1 := .str (wCl (lawNum ns (k + 1))).str) (d2 := .str (fs2 (wO2 (lawNum ns (k + 1))))) (pd_ix (pd_tup (pds_cons pd_str (pds_cons pd_str (pds_cons pd_str pds_nil)))) (pd_mod (pd_intc T.fint (pd_var 3)) pd_int (by decide)) (atI_mod (by decide) (at_cl _)))
      (pd_to (pd_ix (pd_tup (pds_two pd_str pd_str)) (pd_mod (pd_intc T.fint (pd_fdiv (pd_var 3) pd_int ⟨by decide, by decide⟩)) pd_int (by decide)) (atI_mod (by decide) (at_2 _ _ _))) (by unfold wO2; cases decide ((lawNum ns (k + 1) / 3 % 2).toNat = 1) <;> rfl)) sc_wds.nd rfl) ?_
    exact sr_ret (pd_to (pd_tup (pds_cons (pd_var 4) (pds_cons (pd_var 5) (pds_cons (pd_var 6) (pds_cons (pd_var 7) (pds_cons (pd_var 8) (pds_cons (pd_var 9) pds_nil))))))) rfl)
theorem sc_mad : FnScope ["_law_words_here"] ["_law_words_here"] (defScope (top 57)) := ⟨rfl, rfl, rfl, by decide +kernel, rfl, by decide +kernel, by decide +kernel⟩
def rMad (ds : List D) (d : D) : Prop := ∃ wd, ds = [dWs wd] ∧ d = dW wd
theorem pd_rules {X : Cx} {ρ : Kn} {e e1 e2 e3 e4 e5 : Expr} {p pos q1 q2 q3 q4 q5 : Pos} {wd : Wd} (T : Top X.K X.w X.mg) (hr : Room 3 X.A) (h : PD X ρ e (.str wd.rc.str)) (h1 : PD X ρ e1 (.str (yn wd.gu))) (h2 : PD X ρ e2 (.str (yn wd.fi))) (h3 : PD X ρ e3 (.str (ab wd.mb))) (h4 : PD X ρ e4 (.str wd.cl.str)) (h5 : PD X ρ e5 (.str (fs2 wd.o2)))
    (hg : Gl X "Rules" := by exact rfl) (he : starEach [e] X.env = (false, eval e X.env) :: starEach [] X.env := by rfl)
    (hall : (backToKw pos (keywordEach [⟨some "guard", e1, q1⟩, ⟨some "first", e2, q2⟩, ⟨some "mark", e3, q3⟩, ⟨some "clear", e4, q4⟩, ⟨some "order", e5, q5⟩] X.env)).all (·.1.isSome) = true := by rfl)
    (hks : (backToKw pos (keywordEach [⟨some "guard", e1, q1⟩, ⟨some "first", e2, q2⟩, ⟨some "mark", e3, q3⟩, ⟨some "clear", e4, q4⟩, ⟨some "order", e5, q5⟩] X.env)).filterMap (·.1) = (["guard", "first", "mark", "clear", "order"] : List Str) := by rfl)
    (hpl : ((backTo pos (starEach [e] X.env)).any (·.1) || (backToKw pos (keywordEach [⟨some "guard", e1, q1⟩, ⟨some "first", e2, q2⟩, ⟨some "mark", e3, q3⟩, ⟨some "clear", e4, q4⟩, ⟨some "order", e5, q5⟩] X.env)).any (·.1.isNone)) = false := by rfl) :
    PD X ρ (.Call (.Name "Rules" p) [e] [⟨some "guard", e1, q1⟩, ⟨some "first", e2, q2⟩, ⟨some "mark", e3, q3⟩, ⟨some "clear", e4, q4⟩, ⟨some "order", e5, q5⟩] pos) (dW wd) := by
  obtain ⟨f, fd, mv, M, F, kb⟩ := ok_ri (P := X.prog) (base := X.base) T
  refine pe_w (pe_makeK M F hr hg T.oRules.mg kb pass0 (pds_cons h pds_nil he) (pk_cons h1 (pk_cons h2 (pk_cons h3 (pk_cons h4 (pk_cons h5 pk_nil))))) hall hks (by decide) he hpl) fun σ H Q q => ⟨q.1, fun vs H1 a1e al1 => ?_⟩
  obtain ⟨v, rfl, a⟩ := atL_one al1
  simp only [At] at a
  subst a
  refine ⟨q.1.same a1e, fun v1 H2 s1 b1 => ⟨q.1.same (a1e.trans s1), fun v2 H3 s2 b2 => ⟨q.1.same ((a1e.trans s1).trans s2), fun v3 H4 s3 b3 => ⟨q.1.same (((a1e.trans s1).trans s2).trans s3), fun v4 H5 s4 b4 => ⟨q.1.same ((((a1e.trans s1).trans s2).trans s3).trans s4), fun v5 H6 s5 b5 => ?_⟩⟩⟩⟩⟩
  simp only [At] at b1 b2 b3 b4 b5
  subst b1 b2 b3 b4 b5
  refine ⟨rfl, rfl, fun x dx hx hdx hne => ?_⟩
  have e6 := ((((a1e.trans s1).trans s2).trans s3).trans s4).trans s5
  have hx2 : upd H6 dx (.own x) x = none := by rw [upd_ne (Ne.symm hne)]; exact hx
  have e7 : Same H6 (upd (upd H6 dx (.own x)) x (.ins (He.ga X.K "Rules") dx [])) := (same_new hdx).trans (same_new hx2)
  refine ⟨x, dx, wd, rfl, upd_same, fun H7 t e8 ht => ⟨rfl, ?_⟩⟩
  have hx3 : H7 x = some (.ins (He.ga X.K "Rules") dx []) := e8 _ _ upd_same
  have hxH : H x = none := Same.free e6 hx
  refine q.2 _ _ (same_mut ((e6.trans e7).trans e8) hxH) ?_
  simp only [dW, At]
  refine ⟨x, dx, t, rfl, upd_same, ?_⟩
  have tt := TiesT.ins (o := .ins (He.ga X.K "Rules") dx [("row", .ref t)]) hx3
  rcases ht with (h | ⟨o, h⟩) | h
  · exact .inl (.inl (tt.1 _ _ h))
  · exact .inl (.inr ⟨o, tt.2 _ _ _ h⟩)
  · exact .inr h
theorem ok_mad (T : Top K w mg) : Dok P w K mg base 4 "_law_made" ["_law_words_here"] (spD K rMad) :=
  dokD T.d_law_made sc_mad (fun ds d ⟨wd, e, _⟩ => by subst e; rfl) (fun _ _ _ _ _ _ us hl => match us, hl with | [_], _ => rfl) fun ds d ⟨wd, e, ed⟩ f cdv A outer s' H E hr => by
    subst e ed
    exact sr_ret (pd_rules T hr (pd_ix (pd_var 0) pd_int rfl) (pd_ix (pd_var 0) pd_int rfl) (pd_ix (pd_var 0) pd_int rfl) (pd_ix (pd_var 0) pd_int rfl) (pd_ix (pd_var 0) pd_int rfl) (pd_ix (pd_var 0) pd_int rfl))
end
end CM
set_option Elab.async false
set_option linter.all false
set_option maxRecDepth 100000
set_option maxHeartbeats 4000000
/-! CMP: all places found from one, in plain. -/
namespace CM
open PySem L2

/-! ### how many places there are -/
def cB : Bool → Nat | true => 1 | false => 0
def cF : Option Fate → Nat | none => 0 | some .right => 1 | some .elder => 2 | some .twice => 3 | some .due => 4 | some .doubled => 5
def cT : Step → Nat | .none => 0 | .opened => 1 | .half => 2 | .read => 3 | .done => 4 | .kept => 5
def cH (h : Hf) : Nat := cB h.c * 6 + cF h.f
def cP : Option Pst → Nat | none => 0 | some p => 1 + ((cB p.wb * 12 + cH p.a) * 12 + cH p.b)
def cL (p : Pl) : Nat := ((((cT p.st.s * 2 + cB p.st.g) * 2 + cB p.st.wb) * 12 + cH p.st.a) * 12 + cH p.st.b) * 289 + cP p.pa
theorem cB_lt (b : Bool) : cB b < 2 := by cases b <;> decide
theorem cF_lt (f : Option Fate) : cF f < 6 := by
  cases f with
  | none => decide
  | some f => cases f <;> decide
theorem cT_lt (s : Step) : cT s < 6 := by cases s <;> decide
theorem cH_lt (h : Hf) : cH h < 12 := by
  have h1 := cB_lt h.c
  have h2 := cF_lt h.f
  unfold cH; omega
theorem cP_lt (p : Option Pst) : cP p < 289 := by
  cases p with
  | none => decide
  | some p =>
    have h1 := cB_lt p.wb
    have h2 := cH_lt p.a
    have h3 := cH_lt p.b
    show 1 + ((cB p.wb * 12 + cH p.a) * 12 + cH p.b) < 289
    omega
theorem cB_inj {a b : Bool} (h : cB a = cB b) : a = b := by cases a <;> cases b <;> first | rfl | exact absurd h (by decide)
theorem cF_inj {a b : Option Fate} (h : cF a = cF b) : a = b := by
  cases a with
  | none => cases b with
    | none => rfl
    | some b => cases b <;> exact absurd h (by decide)
  | some a => cases b with
    | none => cases a <;> exact absurd h (by decide)
    | some b => cases a <;> cases b <;> first | rfl | exact absurd h (by decide)
theorem cT_inj {a b : Step} (h : cT a = cT b) : a = b := by cases a <;> cases b <;> first | rfl | exact absurd h (by decide)
theorem cH_inj {a b : Hf} (h : cH a = cH b) : a = b := by
  have h2 := cF_lt a.f
  have h4 := cF_lt b.f
  unfold cH at h
  have e1 : cB a.c = cB b.c := by omega
  have e2 : cF a.f = cF b.f := by omega
  obtain ⟨a1, a2⟩ := a
  obtain ⟨b1, b2⟩ := b
  rw [show a1 = b1 from cB_inj e1, show a2 = b2 from cF_inj e2]
theorem cP_inj {a b : Option Pst} (h : cP a = cP b) : a = b := by
  cases a with
  | none => cases b with
    | none => rfl
    | some b =>
      have h' : 0 = 1 + ((cB b.wb * 12 + cH b.a) * 12 + cH b.b) := h
      omega
  | some a => cases b with
    | none =>
      have h' : 1 + ((cB a.wb * 12 + cH a.a) * 12 + cH a.b) = 0 := h
      omega
    | some b =>
      obtain ⟨a1, a2, a3⟩ := a
      obtain ⟨b1, b2, b3⟩ := b
      have h2 := cH_lt a2
      have h3 := cH_lt a3
      have h4 := cH_lt b2
      have h5 := cH_lt b3
      simp only [cP] at h
      have e1 : cB a1 = cB b1 := by omega
      have e2 : cH a2 = cH b2 := by omega
      have e3 : cH a3 = cH b3 := by omega
      rw [cB_inj e1, cH_inj e2, cH_inj e3]
theorem cL_lt (p : Pl) : cL p < 998784 := by
  have h1 := cT_lt p.st.s
  have h2 := cB_lt p.st.g
  have h3 := cB_lt p.st.wb
  have h4 := cH_lt p.st.a
  have h5 := cH_lt p.st.b
  have h6 := cP_lt p.pa
  unfold cL; omega
theorem cL_inj {a b : Pl} (h : cL a = cL b) : a = b := by
  obtain ⟨⟨a1, a2, a3, a4, a5⟩, a6⟩ := a
  obtain ⟨⟨b1, b2, b3, b4, b5⟩, b6⟩ := b
  have h2 := cB_lt a2
  have h3 := cB_lt a3
  have h4 := cH_lt a4
  have h5 := cH_lt a5
  have h6 := cP_lt a6
  have k2 := cB_lt b2
  have k3 := cB_lt b3
  have k4 := cH_lt b4
  have k5 := cH_lt b5
  have k6 := cP_lt b6
  simp only [cL] at h
  have e6 : cP a6 = cP b6 := by omega
  have e5 : cH a5 = cH b5 := by omega
  have e4 : cH a4 = cH b4 := by omega
  have e3 : cB a3 = cB b3 := by omega
  have e2 : cB a2 = cB b2 := by omega
  have e1 : cT a1 = cT b1 := by omega
  rw [cT_inj e1, cB_inj e2, cB_inj e3, cH_inj e4, cH_inj e5, cP_inj e6]
theorem nodup_lt : ∀ (n : Nat) (xs : List Nat), xs.Nodup → (∀ x ∈ xs, x < n) → xs.length ≤ n
  | 0, xs, _, h => by
    cases xs with
    | nil => exact Nat.le_refl _
    | cons x xs => exact absurd (h x List.mem_cons_self) (Nat.not_lt_zero _)
  | n + 1, xs, hn, h => by
    have h1 := nodup_lt n (xs.erase n) (hn.erase n) (fun x hx => by
      have hm := List.mem_of_mem_erase hx
      have h2 := h x hm
      have h3 : x ≠ n := fun e => by
        rw [e] at hx
        exact hn.not_mem_erase hx
      omega)
    by_cases hm : n ∈ xs
    · rw [List.length_erase_of_mem hm] at h1
      omega
    · rw [List.erase_of_not_mem hm] at h1
      omega
theorem places_le {ps : List Pl} (h : ps.Nodup) : ps.length ≤ 998784 := by
  have q := nodup_lt 998784 (ps.map cL) (by
    unfold List.Nodup at h ⊢
    rw [List.pairwise_map]
    exact h.imp fun hab e => hab (cL_inj e)) (fun x hx => by
    obtain ⟨p, _, rfl⟩ := List.mem_map.mp hx
    exact cL_lt p)
  rwa [List.length_map] at q

/-! ### the search -/
abbrev BSt : Type := List Pl × List (Pl × D)
abbrev Val : Type := List (Pl × D) → Pl → Deed → D
def visit (v : D) (q : Pl) (st : BSt) : BSt := cond (decide (q ∈ st.2.map (·.1))) st (st.1 ++ [q], st.2 ++ [(q, v)])
def one (val : Val) (w : Wd) (ag : Bool) (p : Pl) (st : BSt) (d : Deed) : BSt := visit (val st.2 p d) (plBy w p ag d) st
def turn (val : Val) (w : Wd) (ag : Bool) (p : Pl) (ds : List Deed) (st : BSt) : BSt := ds.foldl (one val w ag p) st
theorem turn_snoc {val : Val} {w : Wd} {ag : Bool} {p : Pl} {ds : List Deed} {st : BSt} {n : Nat} {d : Deed} (h : ds[n]? = some d) : turn val w ag p (ds.take (n + 1)) st = one val w ag p (turn val w ag p (ds.take n) st) d := by
  unfold turn
  rw [filter_snoc h, List.foldl_append]
  rfl
def keys (ks : List (Pl × D)) : List Pl := ks.map (·.1)
structure Inv0 (Φ : List (Pl × D) → Prop) (st : BSt) : Prop where
  nd : (keys st.2).Nodup
  sub : ∀ q ∈ st.1, q ∈ keys st.2
  good : ∀ q ∈ keys st.2, Good q
  beg : begin0 ∈ keys st.2
  phi : Φ st.2
def mu (st : BSt) : Nat := 2 * (1000000 - st.2.length) + st.1.length
theorem Inv0.len {Φ : List (Pl × D) → Prop} {st : BSt} (h : Inv0 Φ st) : st.2.length ≤ 998784 := by
  have q := places_le h.nd
  unfold keys at q
  rwa [List.length_map] at q
/-- what a search keeps -/
def Keeps (Φ : List (Pl × D) → Prop) (val : Val) (w : Wd) (ag : Bool) : Prop := ∀ ks p d, Φ ks → p ∈ keys ks → d ∈ deedsAt p → ¬ plBy w p ag d ∈ keys ks → Φ (ks ++ [(plBy w p ag d, val ks p d)])
section
variable {Φ : List (Pl × D) → Prop} {val : Val} {w : Wd} {ag : Bool} {p : Pl} {st : BSt} {d : Deed}
theorem one_inv (K : Keeps Φ val w ag) (h : Inv0 Φ st) (hp : p ∈ keys st.2) (hd : d ∈ deedsAt p) :
    Inv0 Φ (one val w ag p st d) ∧ (∀ q ∈ keys st.2, q ∈ keys (one val w ag p st d).2) ∧ plBy w p ag d ∈ keys (one val w ag p st d).2 ∧ mu (one val w ag p st d) ≤ mu st ∧
      (∀ q ∈ st.1, q ∈ (one val w ag p st d).1) ∧ (∀ q ∈ keys (one val w ag p st d).2, q ∈ keys st.2 ∨ q ∈ (one val w ag p st d).1) := by
  unfold one visit
  by_cases e : plBy w p ag d ∈ st.2.map (·.1)
  · rw [decide_eq_true e, cond_true]
    exact ⟨h, fun q hq => hq, e, Nat.le_refl _, fun q hq => hq, fun q hq => .inl hq⟩
  · rw [decide_eq_false e, cond_false]
    have hk : keys (st.2 ++ [(plBy w p ag d, val st.2 p d)]) = keys st.2 ++ [plBy w p ag d] := by unfold keys; rw [List.map_append]; rfl
    have hlen := h.len
    have e' : ¬ plBy w p ag d ∈ keys st.2 := e
    refine ⟨⟨?_, ?_, ?_, ?_, K _ _ _ h.phi hp hd e⟩, ?_, ?_, ?_, ?_, ?_⟩
    · show (keys (st.2 ++ [(plBy w p ag d, val st.2 p d)])).Nodup
      rw [hk]
      exact List.nodup_append.mpr ⟨h.nd, by simp, fun a ha b hb z => by
        rw [List.mem_singleton.mp hb] at z
        rw [z] at ha
        exact e' ha⟩
    · intro q hq
      show q ∈ keys (st.2 ++ [(plBy w p ag d, val st.2 p d)])
      rw [hk]
      rcases List.mem_append.mp hq with z | z
      · exact List.mem_append_left _ (h.sub q z)
      · exact List.mem_append_right _ z
    · intro q hq
      have hq' : q ∈ keys (st.2 ++ [(plBy w p ag d, val st.2 p d)]) := hq
      rw [hk] at hq'
      rcases List.mem_append.mp hq' with z | z
      · exact h.good q z
      · rw [List.mem_singleton.mp z]
        exact (h.good p hp).step d
    · show begin0 ∈ keys (st.2 ++ [(plBy w p ag d, val st.2 p d)])
      rw [hk]; exact List.mem_append_left _ h.beg
    · intro q hq
      show q ∈ keys (st.2 ++ [(plBy w p ag d, val st.2 p d)])
      rw [hk]; exact List.mem_append_left _ hq
    · show plBy w p ag d ∈ keys (st.2 ++ [(plBy w p ag d, val st.2 p d)])
      rw [hk]; exact List.mem_append_right _ (List.mem_singleton.mpr rfl)
    · unfold mu
      simp only [List.length_append, List.length_singleton]
      omega
    · intro q hq; exact List.mem_append_left _ hq
    · intro q hq
      have hq' : q ∈ keys (st.2 ++ [(plBy w p ag d, val st.2 p d)]) := hq
      rw [hk] at hq'
      rcases List.mem_append.mp hq' with z | z
      · exact .inl z
      · exact .inr (List.mem_append_right _ z)
theorem turn_inv (K : Keeps Φ val w ag) : ∀ (ds : List Deed) (st : BSt), Inv0 Φ st → p ∈ keys st.2 → (∀ d ∈ ds, d ∈ deedsAt p) →
    Inv0 Φ (turn val w ag p ds st) ∧ (∀ q ∈ keys st.2, q ∈ keys (turn val w ag p ds st).2) ∧ (∀ d ∈ ds, plBy w p ag d ∈ keys (turn val w ag p ds st).2) ∧ mu (turn val w ag p ds st) ≤ mu st ∧
      (∀ q ∈ st.1, q ∈ (turn val w ag p ds st).1) ∧ (∀ q ∈ keys (turn val w ag p ds st).2, q ∈ keys st.2 ∨ q ∈ (turn val w ag p ds st).1)
  | [], st, h, _, _ => ⟨h, fun q hq => hq, (fun d hd => by cases hd), Nat.le_refl _, fun q hq => hq, fun q hq => .inl hq⟩
  | d :: ds, st, h, hp, hd => by
    obtain ⟨a1, a2, a3, a4, a5, a6⟩ := one_inv K h hp (hd d List.mem_cons_self)
    obtain ⟨b1, b2, b3, b4, b5, b6⟩ := turn_inv K ds (one val w ag p st d) a1 (a2 p hp) (fun x hx => hd x (List.mem_cons_of_mem _ hx))
    refine ⟨b1, fun q hq => b2 q (a2 q hq), fun x hx => ?_, Nat.le_trans b4 a4, fun q hq => b5 q (a5 q hq), fun q hq => ?_⟩
    · rcases List.mem_cons.mp hx with z | z
      · rw [z]; exact b2 _ a3
      · exact b3 x z
    · rcases b6 q hq with z | z
      · rcases a6 q z with y | y
        · exact .inl y
        · exact .inr (b5 q y)
      · exact .inr z
/-- what holds at the head of the loop -/
structure Loop (Φ : List (Pl × D) → Prop) (w : Wd) (ag : Bool) (st : BSt) : Prop where
  inv : Inv0 Φ st
  cl : ∀ p ∈ keys st.2, p ∈ st.1 ∨ ∀ d ∈ deedsAt p, plBy w p ag d ∈ keys st.2
  mb : mu st ≤ 2000000
theorem Inv0.pop {wt : List Pl} {ks : List (Pl × D)} (h : Inv0 Φ (p :: wt, ks)) : Inv0 Φ (wt, ks) := ⟨h.nd, fun q hq => h.sub q (List.mem_cons_of_mem _ hq), h.good, h.beg, h.phi⟩
theorem loop_turn (K : Keeps Φ val w ag) {wt : List Pl} {ks : List (Pl × D)} (h : Loop Φ w ag (p :: wt, ks)) :
    Loop Φ w ag (turn val w ag p (deedsAt p) (wt, ks)) ∧ mu (turn val w ag p (deedsAt p) (wt, ks)) < mu (p :: wt, ks) := by
  have hp : p ∈ keys ks := h.inv.sub p List.mem_cons_self
  obtain ⟨b1, b2, b3, b4, b5, b6⟩ := turn_inv K (deedsAt p) (wt, ks) h.inv.pop hp (fun d hd => hd)
  have e : mu (p :: wt, ks) = mu (wt, ks) + 1 := by
    unfold mu
    simp only [List.length_cons]
    omega
  have hm := h.mb
  refine ⟨⟨b1, fun q hq => ?_, by omega⟩, ?_⟩
  · rcases b6 q hq with z | z
    · rcases h.cl q z with y | y
      · rcases List.mem_cons.mp y with e | e
        · rw [e]; exact .inr b3
        · exact .inl (b5 q e)
      · exact .inr fun d hd => b2 _ (y d hd)
    · exact .inl z
  · rw [e]; exact Nat.lt_succ_of_le b4
theorem loop0 {v : D} (h : Φ [(begin0, v)]) : Loop Φ w ag ([begin0], [(begin0, v)]) :=
  ⟨⟨by simp [keys], fun q hq => hq, fun q hq => by rw [List.mem_singleton.mp hq]; exact good0, List.mem_singleton.mpr rfl, h⟩, fun q hq => .inl hq, by unfold mu; simp⟩
theorem one_new (h : ¬ plBy w p ag d ∈ keys st.2) : one val w ag p st d = (st.1 ++ [plBy w p ag d], st.2 ++ [(plBy w p ag d, val st.2 p d)]) := by
  unfold one visit
  rw [decide_eq_false (show ¬ plBy w p ag d ∈ st.2.map (·.1) from h)]; rfl
theorem one_old (h : plBy w p ag d ∈ keys st.2) : one val w ag p st d = st := by
  unfold one visit
  rw [decide_eq_true (show plBy w p ag d ∈ st.2.map (·.1) from h)]; rfl
theorem Loop.wl {wt : List Pl} {ks : List (Pl × D)} (h : Loop Φ w ag (p :: wt, ks)) : mu (wt, ks) ≤ 2000000 := by
  have h1 := h.mb
  have e : mu (p :: wt, ks) = mu (wt, ks) + 1 := by
    unfold mu
    simp only [List.length_cons]
    omega
  omega
theorem mu_wl (h : mu st ≤ 2000000) : st.1.length ≤ 10000000 := by unfold mu at h; omega
theorem look_mem {ks : List (Pl × D)} {q : Pl} {d : D} (h : look ks q = some d) : (q, d) ∈ ks := by
  induction ks with
  | nil => cases h
  | cons kv ks ih =>
    obtain ⟨r, e⟩ := kv
    rw [look] at h
    by_cases z : r = q
    · rw [if_pos z] at h
      cases h
      rw [z]; exact List.mem_cons_self
    · rw [if_neg z] at h
      exact List.mem_cons_of_mem _ (ih h)
theorem look_of {ks : List (Pl × D)} {q : Pl} (h : q ∈ keys ks) : ∃ d, look ks q = some d := by
  have e := look_isSome (ks := ks) (p := q)
  rw [decide_eq_true (show q ∈ ks.map (·.1) from h)] at e
  exact Option.isSome_iff_exists.mp e
end
/-! ### the law's search: lists of deeds -/
def valL : Val := fun ks p d => match look ks p with
  | some (.lst ds) => .lst (ds ++ [dDeed d])
  | _ => .non
def PhiL (ks : List (Pl × D)) : Prop := ∀ x ∈ ks, ∃ hs : List Deed, x.2 = .lst (hs.map dDeed) ∧ hs.length < ks.length
theorem keepsL (w : Wd) (ag : Bool) : Keeps PhiL valL w ag := fun ks p d h hp hd hn x hx => by
  rw [List.length_append, List.length_singleton]
  rcases List.mem_append.mp hx with z | z
  · obtain ⟨hs, h1, h2⟩ := h x z
    exact ⟨hs, h1, by omega⟩
  · have e := List.mem_singleton.mp z
    subst e
    obtain ⟨v, hv⟩ := look_of hp
    obtain ⟨hs, h1, h2⟩ := h _ (look_mem hv)
    simp only at h1
    subst h1
    refine ⟨hs ++ [d], ?_, by rw [List.length_append, List.length_singleton]; omega⟩
    show valL ks p d = _
    unfold valL
    rw [hv, List.map_append]
    rfl
theorem phiL0 : PhiL [(begin0, .lst [])] := fun x hx => by
  rw [List.mem_singleton.mp hx]
  exact ⟨[], rfl, Nat.zero_lt_one⟩
/-! ### the program's search: whence -/
def valP : Val := fun _ p d => .tup [dL p, dDeed d]
def PhiP (w : Wd) (ag : Bool) (ks : List (Pl × D)) : Prop := ∀ (i : Nat) (q : Pl) (v : D), ks[i]? = some (q, v) → (q = begin0 ∧ v = .non) ∨ ∃ (j : Nat) (p : Pl) (v2 : D) (d : Deed), j < i ∧ ks[j]? = some (p, v2) ∧ d ∈ deedsAt p ∧ q = plBy w p ag d ∧ v = .tup [dL p, dDeed d]
theorem keepsP (w : Wd) (ag : Bool) : Keeps (PhiP w ag) valP w ag := fun ks p d h hp hd hn i q v e => by
  by_cases hi : i < ks.length
  · rw [List.getElem?_append_left hi] at e
    rcases h i q v e with z | ⟨j, p2, v2, d2, z1, z2, z3⟩
    · exact .inl z
    · exact .inr ⟨j, p2, v2, d2, z1, by rw [List.getElem?_append_left (Nat.lt_trans z1 hi)]; exact z2, z3⟩
  · rw [List.getElem?_append_right (Nat.le_of_not_lt hi)] at e
    have hi2 : i - ks.length = 0 := by
      have := (List.getElem?_eq_some_iff.mp e).1
      rw [List.length_singleton] at this
      omega
    rw [hi2] at e
    have e2 : (plBy w p ag d, valP ks p d) = (q, v) := Option.some.inj e
    obtain ⟨v2, hv⟩ := look_of hp
    obtain ⟨j, hj⟩ := List.getElem?_of_mem (look_mem hv)
    have hjl := (List.getElem?_eq_some_iff.mp hj).1
    refine .inr ⟨j, p, v2, d, by omega, by rw [List.getElem?_append_left hjl]; exact hj, hd, (Prod.mk.inj e2).1.symm, (Prod.mk.inj e2).2.symm⟩
theorem phiP0 (w : Wd) (ag : Bool) : PhiP w ag [(begin0, .non)] := fun i q v e => by
  have hi : i = 0 := by
    have := (List.getElem?_eq_some_iff.mp e).1
    rw [List.length_singleton] at this
    omega
  subst hi
  have e2 : (begin0, D.non) = (q, v) := Option.some.inj e
  exact .inl ⟨(Prod.mk.inj e2).1.symm, (Prod.mk.inj e2).2.symm⟩
end CM
set_option Elab.async false
set_option linter.all false
set_option maxRecDepth 100000
set_option maxHeartbeats 4000000
/-! CMB: bodies that fill a list and a dict of their own. -/
namespace CM
open PySem L2
open PyProof.Rows (envOfC)

def mk2 (l a : Addr) (H : Hp) : Hp := mask l (mask a H)
section
variable {l a b : Addr} {H H' : Hp} {o : HO}
theorem mk2_le : Same (mk2 l a H) H := mask_le.trans mask_le
theorem mk2_same (e : Same H H') : Same (mk2 l a H) (mk2 l a H') := mask_same (mask_same e)
theorem mk2_at (h1 : b ≠ l) (h2 : b ≠ a) : mk2 l a H b = H b := by unfold mk2; rw [mask_at h1, mask_at h2]
theorem mk2_updL : mk2 l a (upd H l o) = mk2 l a H := by
  funext b
  by_cases h : b = l
  · subst h; simp [mk2, mask]
  · unfold mk2; rw [mask_at h, mask_at h]
    by_cases h2 : b = a
    · subst h2; simp [mask]
    · rw [mask_at h2, mask_at h2, upd_ne h]
theorem mk2_updA : mk2 l a (upd H a o) = mk2 l a H := by unfold mk2; rw [mask_upd]
theorem mk2_of (e : Same (mk2 l a H) (mk2 l a H')) (h1 : b ≠ l) (h2 : b ≠ a) (h : H b = some o) : H' b = some o := by
  have := e b o (by rw [mk2_at h1 h2]; exact h)
  rwa [mk2_at h1 h2] at this
theorem mk2_out (n1 : H l = none) (n2 : H a = none) (e : Same (mk2 l a H) (mk2 l a H')) : Same H H' := fun b o h => mk2_of e (ne_of_none h n1) (ne_of_none h n2) h
end
theorem PlAt.move {P : Program} {w : World} {K : PySem.W.Frag} {H H' Hm : Hp} {a : Addr} {ks : List (Pl × D)} (h : PlAt P w K H Hm a ks) (e : H' a = H a) : PlAt P w K H' Hm a ks := by
  obtain ⟨⟨es, ep, xs, h1, h2, h3, h4⟩, h5, h6⟩ := h
  exact ⟨⟨es, ep, xs, by rw [e]; exact h1, h2, h3, h4⟩, h5, h6⟩
/-- what stands: the words, the list, the dict -/
structure BS (P : Program) (w : World) (K : PySem.W.Frag) (l a : Addr) (ρ : Kn) (st : BSt) (σ : L2.St) (H : Hp) : Prop where
  ea : EA K (mk2 l a H) σ ρ
  ls : ∃ ys, H l = some (.lst ys) ∧ AtL K (mk2 l a H) (st.1.map dL) ys
  dc : PlAt P w K H (mk2 l a H) a st.2
def vw (P : Program) (w : World) (K : PySem.W.Frag) (il ia : Nat) (ρ : Kn) (st : BSt) : Kn := (ρ.set il (some (.lst (st.1.map dL)))).set ia (some (dPl P w K st.2))
theorem set_self {σ : L2.St} {i : Nat} {v : V} (h : σ[i]? = some (some v)) : σ.set i (some v) = σ := by
  refine List.ext_getElem? fun n => ?_
  by_cases hn : n = i
  · subst hn
    rw [List.getElem?_set_self (List.getElem?_eq_some_iff.mp h).1, h]
  · rw [List.getElem?_set_ne (Ne.symm hn)]
section
variable {P : Program} {w : World} {K : PySem.W.Frag} {l a : Addr} {ρ ρ1 ρ2 ρ3 : Kn} {st st1 st2 : BSt} {σ : L2.St} {H H' : Hp} {il ia : Nat}
theorem BS.ne (h : BS P w K l a ρ st σ H) : l ≠ a := by
  obtain ⟨ys, hl, _⟩ := h.ls
  obtain ⟨⟨es, ep, xs, h1, _⟩, _, _⟩ := h.dc
  intro e
  rw [e, h1] at hl
  cases hl
theorem BS.same (h : BS P w K l a ρ st σ H) (e : Same H H') : BS P w K l a ρ st σ H' := by
  obtain ⟨ys, hl, al⟩ := h.ls
  exact ⟨h.ea.same (mk2_same e), ⟨ys, e _ _ hl, al.same (mk2_same e)⟩, h.dc.same e (mk2_same e)⟩
theorem BS.ties (h : BS P w K l a ρ st σ H) : Ties H (mk2 l a H) := by
  obtain ⟨ys, hl, _⟩ := h.ls
  obtain ⟨⟨es, ep, xs, h1, _⟩, _, _⟩ := h.dc
  have g : ∀ {b : Addr} {o : HO}, H b = some o → (∀ φ, o ≠ .ext φ) → (∀ ys, o ≠ .lst ys) → mk2 l a H b = some o := fun {b o} hb q1 q2 => by
    rw [mk2_at]
    · exact hb
    · intro e; rw [e, hl] at hb; exact q2 _ (Option.some.inj hb).symm
    · intro e; rw [e, h1] at hb; exact q1 _ (Option.some.inj hb).symm
  exact ⟨fun b xs q => g q (fun _ z => nomatch z) (fun _ z => nomatch z), fun b o xs q => g q (fun _ z => nomatch z) (fun _ z => nomatch z), fun b C dx fs q => g q (fun _ z => nomatch z) (fun _ z => nomatch z)⟩
theorem BS.view (h : BS P w K l a ρ st σ H) (h1 : ρ[il]? = some (some (.adr l))) (h2 : ρ[ia]? = some (some (.adr a))) : EA K H σ (vw P w K il ia ρ st) := by
  obtain ⟨ys, hl, al⟩ := h.ls
  obtain ⟨v, a1, a2⟩ := h.ea.2 _ _ h1
  obtain ⟨u, b1, b2⟩ := h.ea.2 _ _ h2
  simp only [At] at a2 b2
  subst a2 b2
  have q := ((h.ea.same mk2_le).set (i := il) (at_lst (SqL.of hl) (al.same mk2_le))).set (i := ia) (at_dPl (h.dc.same (Same.refl _) mk2_le))
  rw [set_self a1, set_self b1] at q
  exact q
theorem BS.le (h : BS P w K l a ρ st σ H) (q : Le ρ1 ρ) : BS P w K l a ρ1 st σ H := ⟨h.ea.le q, h.ls, h.dc⟩
theorem BS.free (h : BS P w K l a ρ st σ H) {p : Addr} (n : H p = none) : p ≠ l ∧ p ≠ a := by
  obtain ⟨ys, hl, _⟩ := h.ls
  obtain ⟨⟨es, ep, xs, h1, _⟩, _, _⟩ := h.dc
  exact ⟨fun e => (by rw [e, hl] at n; cases n), fun e => (by rw [e, h1] at n; cases n)⟩
end
def tB (P : Program) (w : World) (K : PySem.W.Frag) (l a : Addr) (ρ : Kn) (st : BSt) (ρ' : Kn) (st' : BSt) : TS := fun D σ H => BS P w K l a ρ st σ H ∧ ∀ σ' H', Same (mk2 l a H) (mk2 l a H') → BS P w K l a ρ' st' σ' H' → D.nx σ' H'
/-- a value that may be kept -/
def tM (P : Program) (w : World) (K : PySem.W.Frag) (l a : Addr) (ρ : Kn) (st : BSt) (d : D) : TE := fun σ H Q => BS P w K l a ρ st σ H ∧ ∀ v H', Same H H' → At K (mk2 l a H') d v → Q v H'
section
variable {X : Cx} {l a : Addr} {ρ ρ1 ρ2 ρ3 : Kn} {st st1 st2 : BSt} {il ia : Nat} {e c : Expr} {d : D} {ds : List D} {s1 : Stmt} {rest thn els body : List Stmt} {pos p : Pos} {k : Bool}
abbrev PM (X : Cx) (l a : Addr) (ρ : Kn) (st : BSt) (e : Expr) (d : D) : Prop := PE X e (tM X.prog X.w X.K l a ρ st d)
abbrev BP (X : Cx) (l a : Addr) (ρ : Kn) (st : BSt) (b : List Stmt) (ρ' : Kn) (st' : BSt) : Prop := PSs X b (tB X.prog X.w X.K l a ρ st ρ' st')
abbrev BP1 (X : Cx) (l a : Addr) (ρ : Kn) (st : BSt) (b : Stmt) (ρ' : Kn) (st' : BSt) : Prop := PS X b (tB X.prog X.w X.K l a ρ st ρ' st')
theorem pm_d (il ia : Nat) (h : PD X (vw X.prog X.w X.K il ia ρ st) e d) (nl : noL d = true) (h1 : ρ[il]? = some (some (.adr l)) := by rfl) (h2 : ρ[ia]? = some (some (.adr a)) := by rfl) : PM X l a ρ st e d :=
  pe_w h fun σ H Q q => ⟨q.1.view h1 h2, fun v H1 e1 a1 => q.2 v H1 e1 (a1.ties (q.1.same e1).ties nl)⟩
theorem pm_l (il ia : Nat) (h : PDL X (vw X.prog X.w X.K il ia ρ st) e ds) (nl : noLs ds = true) (h1 : ρ[il]? = some (some (.adr l)) := by rfl) (h2 : ρ[ia]? = some (some (.adr a)) := by rfl) : PM X l a ρ st e (.lst ds) :=
  pe_w h fun σ H Q q => ⟨q.1.view h1 h2, fun v xs H1 n e1 hx al => q.2 _ H1 e1 (at_lst (SqL.of (by
    obtain ⟨z1, z2⟩ := q.1.free n
    rw [mk2_at z1 z2]; exact hx)) (al.ties (q.1.same e1).ties nl))⟩
theorem sb_nil : BP X l a ρ st [] ρ st := pss_w pss_nil fun D σ H ⟨b, q⟩ => q σ H (Same.refl _) b
theorem sb_seq (h : BP1 X l a ρ st s1 ρ1 st1) (t : BP X l a ρ1 st1 rest ρ2 st2) : BP X l a ρ st (s1 :: rest) ρ2 st2 :=
  pss_w (pss_cons h t) fun D σ H ⟨b, q⟩ => ⟨b, fun σ1 H1 e1 b1 => ⟨b1, fun σ2 H2 e2 => q σ2 H2 (e1.trans e2)⟩⟩
theorem sb_asg (i : Nat) {y : Str} (h : PM X l a ρ st e d) (nd : X.N.Nodup) (hN : X.N[i]? = some y := by rfl) (hx : Loc X.env.scope y := by first | exact Or.inl rfl | exact Or.inr rfl)
    (hf : X.fn y = true ∨ X.env.scope.names.lookup y = some .local := by first | exact .inl rfl | exact .inr rfl)
    (hs : swapsWithSole [.Name y p] e pos.line X.env = pure false := by rfl) (hw : swappedStores [.Name y p] e X.env = pure none := by rfl)
    (h1 : (assignEach [.Name y p] X.env).map (·.2) = [assign (.Name y p) X.env] := by rfl) : BP1 X l a ρ st (.Assign [.Name y p] e pos) (ρ.set i (some d)) st :=
  ps_w (ps_asg h (pg_name nd hN hx hf) hs hw h1) fun D σ H ⟨b, q⟩ => ⟨b, fun v H1 e1 a1 => q _ H1 (mk2_same e1) ⟨(b.ea.same (mk2_same e1)).set a1, (b.same e1).ls, (b.same e1).dc⟩⟩
theorem sb_if (il ia : Nat) (hc : PDT X (vw X.prog X.w X.K il ia ρ st) c k) (h1 : k = true → BP X l a ρ st thn ρ1 st1) (h2 : k = false → BP X l a ρ st els ρ1 st1) (g1 : ρ[il]? = some (some (.adr l)) := by rfl) (g2 : ρ[ia]? = some (some (.adr a)) := by rfl) :
    BP1 X l a ρ st (.If c thn els pos) ρ1 st1 := by
  cases k with
  | true => exact ps_w (ps_if hc (h1 rfl) pss_never') fun D σ H ⟨b, q⟩ => ⟨b.view g1 g2, fun H1 e1 => iteT ⟨b.same e1, fun σ2 H2 e2 => q σ2 H2 ((mk2_same e1).trans e2)⟩⟩
  | false => exact ps_w (ps_if hc pss_never' (h2 rfl)) fun D σ H ⟨b, q⟩ => ⟨b.view g1 g2, fun H1 e1 => iteF ⟨b.same e1, fun σ2 H2 e2 => q σ2 H2 ((mk2_same e1).trans e2)⟩⟩
/-- waiting.append(late) -/
theorem sb_app (il ia : Nat) {y : Str} {pf apos cpos : Pos} {q : Pl} {x : Expr} (hx : PD X (vw X.prog X.w X.K il ia ρ st) x (dL q)) (hl : st.1.length ≤ 10000000) (h1 : ρ[il]? = some (some (.adr l)) := by rfl) (h2 : ρ[ia]? = some (some (.adr a)) := by rfl) (hN : X.N[il]? = some y := by rfl)
    (hv : Vis X.env.scope y := by first | exact Or.inl rfl | exact Or.inr (Or.inl rfl) | exact Or.inr (Or.inr rfl)) (hd : (y == ("__debug__" : Str)) = false := by decide) (hcd : (y == ("__classdict__" : Str)) = false := by decide)
    (hbase : attributeBase (.Name y pf) "append" X.env (eval (.Name y pf) X.env) = eval (.Name y pf) X.env := by rfl)
    (hfew : ((backTo cpos (starEach [x] X.env)).all (fun x => !x.1) && (backToKw cpos (keywordEach [] X.env)).all (fun x => x.1.isSome)
      && decide ([x].length + ([] : List Keyword).length + (if ([] : List Keyword).isEmpty then 0 else 1) < 30)) = true := by rfl)
    (hline : (apos.endLine == cpos.line) = true := by rfl) (hs : starEach [x] X.env = (false, eval x X.env) :: starEach [] X.env := by rfl) (hplain : (backTo cpos (starEach [] X.env)).any (·.1) = false := by rfl)
    (hsw : swapsWith (.Call (.Attribute (.Name y pf) "append" apos) [x] [] cpos) none pos.line X.env = pure false := by rfl) :
    BP1 X l a ρ st (.Expr (.Call (.Attribute (.Name y pf) "append" apos) [x] [] cpos) pos) ρ (st.1 ++ [q], st.2) :=
  ps_w (ps_expr (pe_bm PySem.F.plainAttrs_list PySem.F.slot_list_append PySem.F.type_list_append mt_append (pe_var hN hv hd hcd) (pa_cons hx pa_nil hs) hbase hfew hline hs hplain) hsw) fun D σ H ⟨b, z⟩ => by
    obtain ⟨v, hv1, hv2⟩ := b.ea.2 il _ h1
    simp only [At] at hv2
    subst hv2
    obtain ⟨ys, h, al⟩ := b.ls
    refine ⟨_, hv1, .inl ⟨rfl, _, SqL.of h⟩, b.view h1 h2, fun u H1 e1 a1 => ⟨l, ys, u, rfl, rfl, e1 _ _ h, ?_, ?_⟩⟩
    · rw [al.length, List.length_map]; exact Nat.lt_of_le_of_lt hl (by decide)
    · have b1 := b.same e1
      refine z σ _ (by rw [mk2_updL]; exact mk2_same e1) ⟨by rw [mk2_updL]; exact b1.ea, ⟨ys ++ [u], upd_same, ?_⟩, ?_⟩
      · rw [mk2_updL, List.map_append]
        exact (al.same (mk2_same e1)).append (AtL.cons (a1.ties b1.ties (noL_dL q)) AtL.nil)
      · rw [mk2_updL]
        exact b1.dc.move (upd_ne (Ne.symm b.ne))
/-- place = waiting.pop(0) -/
theorem sb_pop (il i : Nat) {y z : Str} {pf apos cpos ipos : Pos} {q : Pl} {wt : List Pl} {ks : List (Pl × D)} {jj} (nd : X.N.Nodup) (h1 : ρ[il]? = some (some (.adr l)) := by rfl) (hN : X.N[il]? = some y := by rfl) (hN2 : X.N[i]? = some z := by rfl)
    (hx : Loc X.env.scope z := by first | exact Or.inl rfl | exact Or.inr rfl) (hf : X.fn z = true ∨ X.env.scope.names.lookup z = some .local := by first | exact .inl rfl | exact .inr rfl)
    (hv : Vis X.env.scope y := by first | exact Or.inl rfl | exact Or.inr (Or.inl rfl) | exact Or.inr (Or.inr rfl)) (hd : (y == ("__debug__" : Str)) = false := by decide) (hcd : (y == ("__classdict__" : Str)) = false := by decide)
    (hbase : attributeBase (.Name y pf) "pop" X.env (eval (.Name y pf) X.env) = eval (.Name y pf) X.env := by rfl)
    (hfew : ((backTo cpos (starEach [Expr.Constant (.int 0) jj ipos] X.env)).all (fun x => !x.1) && (backToKw cpos (keywordEach [] X.env)).all (fun x => x.1.isSome)
      && decide ([Expr.Constant (.int 0) jj ipos].length + ([] : List Keyword).length + (if ([] : List Keyword).isEmpty then 0 else 1) < 30)) = true := by rfl)
    (hline : (apos.endLine == cpos.line) = true := by rfl) (hs : starEach [Expr.Constant (.int 0) jj ipos] X.env = (false, eval (Expr.Constant (.int 0) jj ipos) X.env) :: starEach [] X.env := by rfl) (hplain : (backTo cpos (starEach [] X.env)).any (·.1) = false := by rfl)
    (hsw : swapsWithSole [.Name z p] (.Call (.Attribute (.Name y pf) "pop" apos) [.Constant (.int 0) jj ipos] [] cpos) pos.line X.env = pure false := by rfl) (hw : swappedStores [.Name z p] (.Call (.Attribute (.Name y pf) "pop" apos) [.Constant (.int 0) jj ipos] [] cpos) X.env = pure none := by rfl)
    (ha : (assignEach [.Name z p] X.env).map (·.2) = [assign (.Name z p) X.env] := by rfl) :
    BP1 X l a ρ (q :: wt, ks) (.Assign [.Name z p] (.Call (.Attribute (.Name y pf) "pop" apos) [.Constant (.int 0) jj ipos] [] cpos) pos) (ρ.set i (some (dL q))) (wt, ks) :=
  ps_w (ps_asg (pe_bm PySem.F.plainAttrs_list PySem.F.slot_list_pop PySem.F.type_list_pop mt_popAt (pe_var hN hv hd hcd) (pa_cons pe_int pa_nil hs) hbase hfew hline hs hplain) (pg_name nd hN2 hx hf) hsw hw ha) fun D σ H ⟨b, z⟩ => by
    obtain ⟨v, hv1, hv2⟩ := b.ea.2 il _ h1
    simp only [At] at hv2
    subst hv2
    obtain ⟨ys, h, al⟩ := b.ls
    simp only [List.map_cons, AtL] at al
    obtain ⟨x, r, rfl, ax, ar⟩ := al
    refine ⟨_, hv1, .inl ⟨rfl, _, SqL.of h⟩, l, x :: r, 0, 0, x, rfl, rfl, h, by decide, by decide, ?_, rfl, ?_⟩
    · show seqIndex? 0 (r.length + 1) = some 0
      unfold seqIndex?
      simp
    · refine z _ _ (by rw [mk2_updL]; exact Same.refl _) ⟨by rw [mk2_updL]; exact b.ea.set ax, ⟨r, upd_same, by rw [mk2_updL]; exact ar⟩, ?_⟩
      rw [mk2_updL]
      exact b.dc.move (upd_ne (Ne.symm b.ne))
/-- ways[late] = value -/
theorem sb_put (il ia : Nat) {y : Str} {pf spos : Pos} {ke ve : Expr} {q : Pl} (hu : X.A.units + 9 < cLine) (hk : PD X (vw X.prog X.w X.K il ia ρ st) ke (dL q)) (hv : PM X l a ρ st ve d) (hn : ¬ q ∈ keys st.2) (hz : st.2.length ≤ 8000000)
    (h1 : ρ[il]? = some (some (.adr l)) := by rfl) (h2 : ρ[ia]? = some (some (.adr a)) := by rfl) (hN : X.N[ia]? = some y := by rfl)
    (hy : Vis X.env.scope y := by first | exact Or.inl rfl | exact Or.inr (Or.inl rfl) | exact Or.inr (Or.inr rfl)) (hd : (y == ("__debug__" : Str)) = false := by decide) (hcd : (y == ("__classdict__" : Str)) = false := by decide)
    (hs : swapsWith ve (some (.Subscript (.Name y pf) ke spos)) pos.line X.env = pure false := by rfl) :
    BP1 X l a ρ st (.Assign [.Subscript (.Name y pf) ke spos] ve pos) ρ (st.1, st.2 ++ [(q, d)]) := by
  refine ⟨fun pins s σ H D I ⟨b, z⟩ => ?_⟩
  obtain ⟨v, hv1, hv2⟩ := b.ea.2 ia _ h2
  simp only [At] at hv2
  subst hv2
  refine wpAny_Assign_Subscript (thn (hv.run pins s σ H (fun v H1 => Same H H1 ∧ At X.K (mk2 l a H1) d v) I ⟨b, fun v H1 e1 a1 => ⟨e1, a1⟩⟩) fun r s1 ⟨u, H1, I1, ru, e1, a1⟩ =>
    thn ((pe_var hN hy hd hcd).run pins s1 σ H1 (fun x H2 => x = .ref a ∧ H2 = H1) I1 ⟨_, hv1, rfl, rfl⟩) fun o s2 ⟨x, H2, I2, rx, ex, eh⟩ => ?_) hs
  subst ex eh
  cases (show o = Value.ref a from rx)
  have b1 := b.same e1
  refine thn (hk.run pins s2 σ H2 (fun v H3 => Same H2 H3 ∧ At X.K H3 (dL q) v) I2 ⟨b1.view h1 h2, fun v H3 e3 a3 => ⟨e3, a3⟩⟩) fun kv s3 ⟨kw, H3, I3, rk, e3, ak⟩ => ?_
  have b3 := b1.same e3
  have hl : look st.2 q = none := by
    cases hq : look st.2 q with
    | none => rfl
    | some d =>
      have := look_isSome (ks := st.2) (p := q)
      rw [hq] at this
      exact absurd (of_decide_eq_true this.symm) hn
  refine pl_put hu I3 mk2_le b3.dc ak rk (ak.ties b3.ties (noL_dL q)) hl ru (a1.same (mk2_same e3)) (Nat.lt_of_le_of_lt hz (by decide)) fun es ep s4 I4 g => ?_
  obtain ⟨ys, hls, al⟩ := b3.ls
  refine ⟨σ, _, I4, z σ _ ?_ ⟨by rw [mk2_updA]; exact b3.ea, ⟨ys, ?_, by rw [mk2_updA]; exact al⟩, by rw [mk2_updA]; exact g⟩⟩
  · rw [mk2_updA]; exact (mk2_same e1).trans (mk2_same e3)
  · rw [upd_ne b.ne]; exact hls
end
end CM
set_option Elab.async false
set_option linter.all false
set_option maxRecDepth 100000
set_option maxHeartbeats 4000000
/-! CMW: loops that fill a list and a dict of their own. -/
namespace CM
open PySem L2
open PyProof.Rows (envOfC)

inductive Runs (val : Val) (w : Wd) (ag : Bool) : BSt → BSt → Prop
  | done {ks : List (Pl × D)} : Runs val w ag ([], ks) ([], ks)
  | step {p : Pl} {wt : List Pl} {ks : List (Pl × D)} {fin : BSt} : Runs val w ag (turn val w ag p (deedsAt p) (wt, ks)) fin → Runs val w ag (p :: wt, ks) fin
theorem runs_loop {Φ : List (Pl × D) → Prop} {val : Val} {w : Wd} {ag : Bool} {st fin : BSt} (K : Keeps Φ val w ag) (h : Runs val w ag st fin) : Loop Φ w ag st → Loop Φ w ag fin ∧ fin.1 = [] := by
  induction h with
  | done => exact fun h => ⟨h, rfl⟩
  | step _ ih => exact fun h => ih (loop_turn K h).1
theorem runs_ex {Φ : List (Pl × D) → Prop} {val : Val} {w : Wd} {ag : Bool} (K : Keeps Φ val w ag) : ∀ (n : Nat) (st : BSt), mu st ≤ n → Loop Φ w ag st → ∃ fin, Runs val w ag st fin
  | n, ([], ks), _, _ => ⟨_, .done⟩
  | 0, (p :: wt, ks), hm, h => by
    have := (loop_turn K h).2
    omega
  | n + 1, (p :: wt, ks), hm, h => by
    obtain ⟨h1, h2⟩ := loop_turn K h
    obtain ⟨fin, hf⟩ := runs_ex K n _ (by omega) h1
    exact ⟨fin, .step hf⟩

def tBR (P : Program) (w : World) (K : PySem.W.Frag) (l a : Addr) (ρ : Kn) (st : BSt) (d : D) : TS := fun D σ H => BS P w K l a ρ st σ H ∧ ∀ v H', Same (mk2 l a H) (mk2 l a H') → At K H' d v → D.rt v H'
section
variable {X : Cx} {l a : Addr} {ρ ρ1 ρ2 : Kn} {st st1 st2 : BSt} {il ia : Nat} {e c tg iter : Expr} {d : D} {ds : List D} {s1 : Stmt} {rest thn els body : List Stmt} {pos p : Pos} {k : Bool} {α : Type}
theorem sb_seqR (h : BP1 X l a ρ st s1 ρ1 st1) (t : PSs X rest (tBR X.prog X.w X.K l a ρ1 st1 d)) : PSs X (s1 :: rest) (tBR X.prog X.w X.K l a ρ st d) :=
  pss_w (pss_cons h t) fun D σ H ⟨b, q⟩ => ⟨b, fun σ1 H1 e1 b1 => ⟨b1, fun v H2 e2 => q v H2 (e1.trans e2)⟩⟩
/-- for x in a list -/
theorem sb_for (il ia i : Nat) (as : List α) (g : α → D) (F : Nat → BSt) (ρ3 : Nat → α → Kn) (hc : X.calm = true) (hi : PDL X (vw X.prog X.w X.K il ia ρ (F 0)) iter (as.map g)) (hp : PassesOwn (model X.prog X.w) X.A X.env X.xe) (hg : PG X tg (gName i))
    (nl : ∀ x ∈ as, noL (g x) = true) (hle : ∀ n x, as[n]? = some x → Le ρ (ρ3 n x)) (hb : ∀ n x, as[n]? = some x → BP X l a (ρ.set i (some (g x))) (F n) body (ρ3 n x) (F (n + 1))) (g1 : ρ[il]? = some (some (.adr l)) := by rfl) (g2 : ρ[ia]? = some (some (.adr a)) := by rfl) (hs : ∀ x, foldedSetIterable iter X.env x = pure x := by intro _; rfl) :
    BP1 X l a ρ (F 0) (.For tg iter body [] pos) ρ (F as.length) := by
  refine ps_w (ps_for (tb := fun D σ H => ∃ n x, as[n]? = some x ∧ tB X.prog X.w X.K l a (ρ.set i (some (g x))) (F n) (ρ3 n x) (F (n + 1)) D σ H) hp hc (pi_list (pd_l hi |> fun h => (hi : PE X iter _))) hg ⟨fun pins s σ H D I ⟨n, x, hx, q⟩ => (hb n x hx).run pins s σ H D I q⟩ hs) fun D σ H ⟨b, q⟩ => ?_
  refine ⟨b.view g1 g2, fun c xs H1 hc1 e1 hx bl => ⟨c, rfl, ⟨xs, SqL.of hx⟩, ?_⟩⟩
  obtain ⟨n1, n2⟩ := b.free hc1
  have b1 := b.same e1
  have nls : noLs (as.map g) = true := noLs_mem.mpr fun d hd => by
    obtain ⟨x, hx, rfl⟩ := List.mem_map.mp hd
    exact nl x hx
  have bl' : AtL X.K (mk2 l a H1) (as.map g) xs := bl.ties b1.ties nls
  refine for_list (K := X.K) (g := gName i) (tb := fun D σ H => ∃ n x, as[n]? = some x ∧ tB X.prog X.w X.K l a (ρ.set i (some (g x))) (F n) (ρ3 n x) (F (n + 1)) D σ H) (D := D) (xs := xs) (fun n σ H' => Same (mk2 l a H1) (mk2 l a H') ∧ BS X.prog X.w X.K l a ρ (F n) σ H') ⟨Same.refl _, b1⟩ (fun n σ H' _ p => SqL.of (mk2_of p.1 n1 n2 hx)) (fun n v σ H' hv p => ?_) (fun σ H' p => ?_)
  · obtain ⟨d0, hd0, ad⟩ := bl'.get' hv
    obtain ⟨x, hx, rfl⟩ := get_map hd0
    exact ⟨n, x, hx, ⟨p.2.ea.set (ad.same p.1), p.2.ls, p.2.dc⟩, fun σ3 H3 e3 b3 => ⟨p.1.trans e3, b3.le (hle n x hx)⟩⟩
  · rw [bl'.length, List.length_map] at p
    exact q σ H' ((mk2_same e1).trans p.1) p.2
/-- for x, y in a list of pairs -/
theorem sb_forP (il ia i j : Nat) (as : List α) (g1 g2 : α → D) (F : Nat → BSt) (ρ3 : Nat → α → Kn) (hc : X.calm = true) (hi : PDL X (vw X.prog X.w X.K il ia ρ (F 0)) iter (as.map fun x => .tup [g1 x, g2 x])) (hp : PassesOwn (model X.prog X.w) X.A X.env X.xe) (hg : PG X tg (gTup X.K 2 (gSets [i, j])))
    (nl : ∀ x ∈ as, noL (.tup [g1 x, g2 x]) = true) (hle : ∀ n x, as[n]? = some x → Le ρ (ρ3 n x)) (hb : ∀ n x, as[n]? = some x → BP X l a (K2 ρ i j (g1 x) (g2 x)) (F n) body (ρ3 n x) (F (n + 1))) (h1 : ρ[il]? = some (some (.adr l)) := by rfl) (h2 : ρ[ia]? = some (some (.adr a)) := by rfl) (hs : ∀ x, foldedSetIterable iter X.env x = pure x := by intro _; rfl) :
    BP1 X l a ρ (F 0) (.For tg iter body [] pos) ρ (F as.length) := by
  refine ps_w (ps_for (tb := fun D σ H => ∃ n x, as[n]? = some x ∧ tB X.prog X.w X.K l a (K2 ρ i j (g1 x) (g2 x)) (F n) (ρ3 n x) (F (n + 1)) D σ H) hp hc (pi_list (pd_l hi |> fun h => (hi : PE X iter _))) hg ⟨fun pins s σ H D I ⟨n, x, hx, q⟩ => (hb n x hx).run pins s σ H D I q⟩ hs) fun D σ H ⟨b, q⟩ => ?_
  refine ⟨b.view h1 h2, fun c xs H1 hc1 e1 hx bl => ⟨c, rfl, ⟨xs, SqL.of hx⟩, ?_⟩⟩
  obtain ⟨n1, n2⟩ := b.free hc1
  have b1 := b.same e1
  have nls : noLs (as.map fun x => .tup [g1 x, g2 x]) = true := noLs_mem.mpr fun d hd => by
    obtain ⟨x, hx, rfl⟩ := List.mem_map.mp hd
    exact nl x hx
  have bl' : AtL X.K (mk2 l a H1) (as.map fun x => .tup [g1 x, g2 x]) xs := bl.ties b1.ties nls
  refine for_list (K := X.K) (g := gTup X.K 2 (gSets [i, j])) (tb := fun D σ H => ∃ m z, as[m]? = some z ∧ tB X.prog X.w X.K l a (K2 ρ i j (g1 z) (g2 z)) (F m) (ρ3 m z) (F (m + 1)) D σ H) (D := D) (xs := xs) (fun n σ H' => Same (mk2 l a H1) (mk2 l a H') ∧ BS X.prog X.w X.K l a ρ (F n) σ H') ⟨Same.refl _, b1⟩ (fun n σ H' _ p => SqL.of (mk2_of p.1 n1 n2 hx)) (fun n v σ H' hv p => ?_) (fun σ H' p => ?_)
  · obtain ⟨d0, hd0, ad⟩ := bl'.get' hv
    obtain ⟨x, hx, rfl⟩ := get_map hd0
    have z := gPair_ok (i := i) (j := j) (Q := fun σ2 H2 => H2 = mk2 l a H' → ∃ m z, as[m]? = some z ∧ tB X.prog X.w X.K l a (K2 ρ i j (g1 z) (g2 z)) (F m) (ρ3 m z) (F (m + 1)) { D with nx := fun σ H' => Same (mk2 l a H1) (mk2 l a H') ∧ BS X.prog X.w X.K l a ρ (F (n + 1)) σ H', ct := fun σ H' => Same (mk2 l a H1) (mk2 l a H') ∧ BS X.prog X.w X.K l a ρ (F (n + 1)) σ H', bk := D.nx } σ2 H') p.2.ea (ad.same p.1) fun x1 y1 ea2 _ => ⟨n, x, hx, ⟨ea2, p.2.ls, p.2.dc⟩, fun σ3 H3 e3 b3 => ⟨p.1.trans e3, b3.le (hle n x hx)⟩⟩
    obtain ⟨c2, ys, z1, z2, z3, u, r, z4, u2, r2, z5, z6, z7⟩ := z
    exact ⟨c2, ys, z1, sqT_same mk2_le z2, z3, u, r, z4, u2, r2, z5, z6, z7 rfl⟩
  · rw [bl'.length, List.length_map] at p
    exact q σ H' ((mk2_same e1).trans p.1) p.2
/-- the search -/
theorem sb_while (il ia : Nat) {Φ : List (Pl × D) → Prop} {val : Val} {w : Wd} {ag : Bool} {fin : BSt} (ρ3 : Pl → Kn) (KP : Keeps Φ val w ag) (hL : Loop Φ w ag st) (hR : Runs val w ag st fin) (hp : PassesOwn (model X.prog X.w) X.A X.env X.xe)
    (hc : ∀ st, PDT X (vw X.prog X.w X.K il ia ρ st) c (!st.1.isEmpty)) (hb : ∀ p wt ks, Loop Φ w ag (p :: wt, ks) → BP X l a ρ (p :: wt, ks) body (ρ3 p) (turn val w ag p (deedsAt p) (wt, ks))) (hle : ∀ p, Le ρ (ρ3 p)) (g1 : ρ[il]? = some (some (.adr l)) := by rfl) (g2 : ρ[ia]? = some (some (.adr a)) := by rfl) :
    BP1 X l a ρ st (.While c body [] pos) ρ fin := by
  refine ps_w (ps_while (tc := fun σ H Q => ∃ st, BS X.prog X.w X.K l a ρ st σ H ∧ ∀ H', Same H H' → Q (!st.1.isEmpty) H') (tb := fun D σ H => ∃ p wt ks, Loop Φ w ag (p :: wt, ks) ∧ tB X.prog X.w X.K l a ρ (p :: wt, ks) (ρ3 p) (turn val w ag p (deedsAt p) (wt, ks)) D σ H) hp
    ⟨fun pins s σ H Q I ⟨st, b, q⟩ => (hc st).run pins s σ H Q I ⟨b.view g1 g2, q⟩⟩ ⟨fun pins s σ H D I ⟨p, wt, ks, hl, q⟩ => (hb p wt ks hl).run pins s σ H D I q⟩) fun D σ H ⟨b, q⟩ => ?_
  refine ⟨fun m σ' H' => ∃ st', m = mu st' ∧ Loop Φ w ag st' ∧ Runs val w ag st' fin ∧ Same (mk2 l a H) (mk2 l a H') ∧ BS X.prog X.w X.K l a ρ st' σ' H', ⟨mu st, st, rfl, hL, hR, Same.refl _, b⟩, ?_⟩
  rintro m σ' H' ⟨st', rfl, hl, hr, e1, b1⟩
  refine ⟨st', b1, fun H2 e2 => ?_⟩
  cases hr with
  | done => exact iteF (q σ' H2 (e1.trans (mk2_same e2)) (b1.same e2))
  | @step p wt ks _ hr' =>
    obtain ⟨h1, h2⟩ := loop_turn KP hl
    exact iteT ⟨fun σ3 H3 => Same (mk2 l a H) (mk2 l a H3) ∧ BS X.prog X.w X.K l a ρ (turn val w ag p (deedsAt p) (wt, ks)) σ3 H3, fun σ3 H3 ⟨e3, b3⟩ => ⟨_, h2, _, rfl, h1, hr', e3, b3⟩, p, wt, ks, hl, b1.same e2, fun σ3 H3 e3 b3 => ⟨(e1.trans (mk2_same e2)).trans e3, b3.le (hle p)⟩⟩
/-- ways, waiting = {start: v}, [start] -/
theorem sr_startB (ia il : Nat) {x y : Str} {ke k2e ve : Expr} {q : Pl} {dpos lpos pt pt2 px py : Pos} {kt kk : Nat} (hu : X.A.units + 9 < cLine) (hk : PD X ρ ke (dL q)) (hv : PD X ρ ve e1) (nb : noB e1 = true) (hk2 : PD X ρ k2e (dL q)) (nd : X.N.Nodup)
    (h : ∀ l a, PSs X rest (tBR X.prog X.w X.K l a ((ρ.set ia (some (.adr a))).set il (some (.adr l))) ([q], [(q, e1)]) d)) (hc : X.calm = true) (hij : ia ≠ il := by decide) (hi : X.N[ia]? = some x := by rfl) (hj : X.N[il]? = some y := by rfl)
    (hx : X.env.scope.names.lookup x = some .local := by rfl) (hy : X.env.scope.names.lookup y = some .local := by rfl)
    (hs1 : starEach [Expr.Dict [some ke] [ve] dpos, Expr.List [k2e] lpos] X.env = (false, eval (Expr.Dict [some ke] [ve] dpos) X.env) :: starEach [Expr.List [k2e] lpos] X.env := by rfl) (hs2 : starEach [Expr.List [k2e] lpos] X.env = (false, eval (Expr.List [k2e] lpos) X.env) :: starEach [] X.env := by rfl)
    (hs3 : starEach [k2e] X.env = (false, eval k2e X.env) :: starEach [] X.env := by rfl)
    (hw : swappedStores [.Tuple [.Name x px, .Name y py] kt pt] (.Tuple [.Dict [some ke] [ve] dpos, .List [k2e] lpos] kk pt2) X.env = pure (some [x, y]) := by rfl) (hs : swapsWithSole [.Tuple [.Name x px, .Name y py] kt pt] (.Tuple [.Dict [some ke] [ve] dpos, .List [k2e] lpos] kk pt2) pos.line X.env = pure false := by rfl) :
    SR X ρ (.Assign [.Tuple [.Name x px, .Name y py] kt pt] (.Tuple [.Dict [some ke] [ve] dpos, .List [k2e] lpos] kk pt2) pos :: rest) d := by
  refine pss_w (pss_cons (ps_par hc nd hi hj hij hx hy (pa_cons (pe_dispP hu hk hv nb) (pa_cons (pe_lst (pds_cons hk2 pds_nil hs3)) pa_nil hs2) hs1) hw hs) (u := fun D σ H => ∃ l a, tBR X.prog X.w X.K l a ((ρ.set ia (some (.adr a))).set il (some (.adr l))) ([q], [(q, e1)]) d D σ H) ⟨fun pins s σ H D I ⟨l, a, q⟩ => (h l a).run pins s σ H D I q⟩) fun D σ H z => ?_
  refine ⟨z.1, fun a H1 na e1 g => ⟨z.1.same e1, fun vs H2 e2 al => ⟨?_, fun l nl => ⟨.ref a, .ref l, rfl, l, a, ⟨?_, ⟨vs, upd_same, ?_⟩, ?_⟩, fun v H' e3 a3 => z.2 v H' ?_ a3⟩⟩⟩⟩
  · rw [al.length]; show 1 ≤ sizeLine; decide
  · have hm : mk2 l a (upd H2 l (.lst vs)) = mask a H2 := by
      rw [mk2_updL]
      unfold mk2
      refine mask_new ?_
      unfold mask
      split
      · rfl
      · exact nl
    rw [hm]
    have ea : EA X.K (mask a H2) σ ρ := by
      have q0 := z.1
      rw [← mask_new na] at q0
      exact q0.same (mask_same (e1.trans e2))
    exact (ea.set (by simp only [At])).set (by simp only [At])
  · have hm : mk2 l a (upd H2 l (.lst vs)) = mask a H2 := by
      rw [mk2_updL]
      unfold mk2
      refine mask_new ?_
      unfold mask
      split
      · rfl
      · exact nl
    rw [hm]
    obtain ⟨⟨es, ep, xs, h1, _⟩, _, _⟩ := g
    exact al.tiesB (tiesB_mask (e2 _ _ h1)) (by simp [noBs, noB_dL])
  · have hm : mk2 l a (upd H2 l (.lst vs)) = mask a H2 := by
      rw [mk2_updL]
      unfold mk2
      refine mask_new ?_
      unfold mask
      split
      · rfl
      · exact nl
    rw [hm]
    have hal : a ≠ l := fun ee => by
      obtain ⟨⟨es, ep, xs, h1, _⟩, _, _⟩ := g
      have := e2 _ _ h1
      rw [ee, nl] at this
      cases this
    exact (g.same e2 (mask_same e2)).move (upd_ne hal)
  · refine mk2_out (Same.free (e1.trans e2) nl) na ?_
    rw [mk2_updL] at e3
    exact (mk2_same (e1.trans e2)).trans e3
/-- return ways -/
theorem sb_ret (ia : Nat) {y : Str} {pf : Pos} (h2 : ρ[ia]? = some (some (.adr a)) := by rfl) (hN : X.N[ia]? = some y := by rfl)
    (hv : Vis X.env.scope y := by first | exact Or.inl rfl | exact Or.inr (Or.inl rfl) | exact Or.inr (Or.inr rfl)) (hd : (y == ("__debug__" : Str)) = false := by decide) (hcd : (y == ("__classdict__" : Str)) = false := by decide) :
    PSs X (.Return (some (.Name y pf)) pos :: rest) (tBR X.prog X.w X.K l a ρ st (dPl X.prog X.w X.K st.2)) :=
  pss_w (pss_cons (ps_ret (pe_var hN hv hd hcd)) pss_never') fun D σ H ⟨b, q⟩ => by
    obtain ⟨v, hv1, hv2⟩ := b.ea.2 ia _ h2
    simp only [At] at hv2
    subst hv2
    exact ⟨_, hv1, q _ H (Same.refl _) (at_dPl (b.dc.same (Same.refl _) mk2_le))⟩
end
end CM
set_option Elab.async false
set_option linter.all false
set_option maxRecDepth 100000
set_option maxHeartbeats 4000000
/-! CMX: all_places, _law_lose_walk. -/
namespace CM
open PySem L2
open PyProof.Rows (envOfC)
theorem sb_to {X : Cx} {l a : Addr} {ρ ρ1 : Kn} {st st1 st2 : BSt} {b : Stmt} (h : BP1 X l a ρ st b ρ1 st1) (q : st1 = st2) : BP1 X l a ρ st b ρ1 st2 := q ▸ h
theorem sb_toS {X : Cx} {l a : Addr} {ρ ρ1 : Kn} {st st1 st2 : BSt} {b : List Stmt} (h : BP X l a ρ st b ρ1 st1) (q : st1 = st2) : BP X l a ρ st b ρ1 st2 := q ▸ h
section
variable {P : Program} {w : World} {K : PySem.W.Frag} {mg : Str → Option Value} {base : Heap}
theorem sc_alp : FnScope ["rules", "again", "ways", "waiting", "place", "deed", "late"] ["rules", "again"] (defScope (top 47)) := ⟨rfl, rfl, rfl, by decide +kernel, rfl, by decide +kernel, by decide +kernel⟩
def st0P : BSt := ([begin0], [(begin0, .non)])
def rAlp (P : Program) (w : World) (K : PySem.W.Frag) (ds : List D) (d : D) : Prop := ∃ wd ag fin, ds = [dW wd, .bl ag] ∧ Runs valP wd ag st0P fin ∧ d = dPl P w K fin.2
theorem ok_alp (T : Top K w mg) : Dok P w K mg base 7 "all_places" ["rules", "again"] (spD K (rAlp P w K)) :=
  dokD T.dall_places sc_alp (fun ds d ⟨w, ag, fin, e, _⟩ => by subst e; rfl) (fun _ _ _ _ _ _ us hl => match us, hl with | [_, _], _ => rfl) fun ds d ⟨wd, ag, fin, e, hR, ed⟩ f cdv A outer s' H E hr => by
    subst e ed
    have hB : ∀ {X : Cx} {ρ : Kn} {pos : Pos}, Top X.K X.w X.mg → Gl X "BEGIN" → PD X ρ (.Name "BEGIN" pos) (dL begin0) := fun T hg => pd_to (pd_gl T.gBEGIN hg) rfl
    refine sr_startB 2 3 (units_of hr (by decide)) (hB T rfl) pd_non rfl (hB T rfl) sc_alp.nd (fun l a => ?_) rfl
    show PSs _ _ (tBR _ _ _ l a [some (dW wd), some (.bl ag), some (.adr a), some (.adr l), none, none, none] st0P _)
    refine sb_seqR (sb_while 3 2 (fun p => [some (dW wd), some (.bl ag), some (.adr a), some (.adr l), some (dL p), none, none]) (keepsP wd ag) (loop0 (phiP0 wd ag)) hR PassesOwn.never (fun st => ?_) (fun p wt ks hl => ?_) (fun p => by repeat (first | exact Le.nil | refine Le.no ?_ | refine Le.yes ?_))) (sb_ret 2)
    · show PDT _ [some (dW wd), some (.bl ag), some (dPl P w K st.2), some (.lst (st.1.map dL)), none, none, none] _ _
      exact pdt_cmp (pd_var 3) (pd_lst pds_nil) (cmp_neN (units_of hr (by decide)))
    · have hp : p ∈ keys ks := hl.inv.sub p List.mem_cons_self
      refine sb_seq (sb_pop 3 4 sc_alp.nd) ?_
      show BP _ l a [some (dW wd), some (.bl ag), some (.adr a), some (.adr l), some (dL p), none, none] (wt, ks) _ _ _
      refine sb_seq (sb_to (sb_for 3 2 5 (deedsAt p) dDeed (fun n => turn valP wd ag p ((deedsAt p).take n) (wt, ks)) (fun n x => [some (dW wd), some (.bl ag), some (.adr a), some (.adr l), some (dL p), some (dDeed x), some (dL (plBy wd p ag x))])
        rfl (pdl_call (ok_dat T) (hr.mono (by decide)) (pds_cons (show PD _ [some (dW wd), some (.bl ag), some (dPl P w K ks), some (.lst (wt.map dL)), some (dL p), none, none] _ _ from pd_var 0) (pds_cons (show PD _ [some (dW wd), some (.bl ag), some (dPl P w K ks), some (.lst (wt.map dL)), some (dL p), none, none] _ _ from pd_var 4) pds_nil)) ⟨wd, p, rfl, rfl⟩) PassesOwn.never (pg_name (i := 5) sc_alp.nd rfl (Or.inl rfl))
        (fun x _ => rfl) (fun n x _ => by repeat (first | exact Le.nil | refine Le.no ?_ | refine Le.yes ?_)) (fun n x hx => ?_)) (by rw [List.take_length])) sb_nil
      have hxm := List.mem_of_getElem? hx
      obtain ⟨b1, b2, b3, b4, b5, b6⟩ := turn_inv (keepsP wd ag) ((deedsAt p).take n) (wt, ks) hl.inv.pop hp (fun d hd => List.mem_of_mem_take hd)
      have hwl := hl.wl
      rw [turn_snoc hx]
      revert b1 b2 b4
      generalize turn valP wd ag p ((deedsAt p).take n) (wt, ks) = st
      intro b1 b2 b4
      have hz := b1.len
      show BP _ l a [some (dW wd), some (.bl ag), some (.adr a), some (.adr l), some (dL p), some (dDeed x), none] st _ _ _
      refine sb_seq (sb_asg 6 (pm_d 3 2 (d := dL (plBy wd p ag x)) (show PD _ [some (dW wd), some (.bl ag), some (dPl P w K st.2), some (.lst (st.1.map dL)), some (dL p), some (dDeed x), none] _ _ from pd_call (ok_plb T) (hr.mono (by decide)) (pds_cons (pd_var 0) (pds_cons (pd_var 4) (pds_cons (pd_var 5) (pds_cons (pd_var 1) pds_nil)))) ⟨wd, p, x, ag, rfl, rfl⟩) (noL_dL _)) sc_alp.nd) ?_
      show BP _ l a [some (dW wd), some (.bl ag), some (.adr a), some (.adr l), some (dL p), some (dDeed x), some (dL (plBy wd p ag x))] st _ _ _
      refine sb_seq (sb_if 3 2 (show PDT _ [some (dW wd), some (.bl ag), some (dPl P w K st.2), some (.lst (st.1.map dL)), some (dL p), some (dDeed x), some (dL (plBy wd p ag x))] _ _ from pdt_cmp (pd_var 6) (pd_var 2) (cmp_niP (units_of hr (by decide)))) (fun h => ?_) (fun h => ?_)) sb_nil
      · have hn : ¬ plBy wd p ag x ∈ keys st.2 := fun z => by rw [decide_eq_true (show plBy wd p ag x ∈ st.2.map (·.1) from z)] at h; cases h
        rw [one_new hn]
        refine sb_seq (sb_put 3 2 (d := .tup [dL p, dDeed x]) (units_of hr (by decide)) (show PD _ [some (dW wd), some (.bl ag), some (dPl P w K st.2), some (.lst (st.1.map dL)), some (dL p), some (dDeed x), some (dL (plBy wd p ag x))] _ _ from pd_var 6) (pm_d 3 2 (show PD _ [some (dW wd), some (.bl ag), some (dPl P w K st.2), some (.lst (st.1.map dL)), some (dL p), some (dDeed x), some (dL (plBy wd p ag x))] _ _ from pd_tup (pds_two (pd_var 4) (pd_var 5))) (by simp [noL, noLs, noL_dL, dDeed])) hn (Nat.le_trans hz (by decide))) ?_
        exact sb_seq (sb_app 3 2 (show PD _ [some (dW wd), some (.bl ag), some (dPl P w K _), some (.lst (List.map dL _)), some (dL p), some (dDeed x), some (dL (plBy wd p ag x))] _ _ from pd_var 6) (mu_wl (st := st) (Nat.le_trans b4 hwl))) sb_nil
      · have hn : plBy wd p ag x ∈ keys st.2 := Decidable.byContradiction fun z => by rw [decide_eq_false (show ¬ plBy wd p ag x ∈ st.2.map (·.1) from z)] at h; cases h
        rw [one_old hn]
        exact sb_nil
end
end CM
set_option Elab.async false
set_option linter.all false
set_option maxRecDepth 100000
set_option maxHeartbeats 4000000
/-! CMY: _law_lose_walk. -/
namespace CM
open PySem L2
open PyProof.Rows (envOfC)
theorem look_valL {ks : List (Pl × D)} {p : Pl} (h : PhiL ks) (hp : p ∈ keys ks) : ∃ hs : List Deed, look ks p = some (.lst (hs.map dDeed)) ∧ hs.length < ks.length := by
  obtain ⟨v, hv⟩ := look_of hp
  obtain ⟨hs, h1, h2⟩ := h _ (look_mem hv)
  simp only at h1
  subst h1
  exact ⟨hs, hv, h2⟩
theorem noLs_deeds (hs : List Deed) : noLs (hs.map dDeed) = true := noLs_mem.mpr fun d hd => by
  obtain ⟨x, _, rfl⟩ := List.mem_map.mp hd
  rfl
section
variable {P : Program} {w : World} {K : PySem.W.Frag} {mg : Str → Option Value} {base : Heap}
theorem sc_llw : FnScope ["_law_words_here", "_law_flag", "_law_start", "_law_found", "_law_waiting", "_law_place", "_law_deed", "_law_late"] ["_law_words_here", "_law_flag"] (defScope (top 72)) := ⟨rfl, rfl, rfl, by decide +kernel, rfl, by decide +kernel, by decide +kernel⟩
def st0L : BSt := ([begin0], [(begin0, .lst [])])
def rLlw (P : Program) (w : World) (K : PySem.W.Frag) (ds : List D) (d : D) : Prop := ∃ wd ag fin, ds = [dWs wd, .bl ag] ∧ Runs valL wd ag st0L fin ∧ d = dPl P w K fin.2
theorem ok_llw (T : Top K w mg) : Dok P w K mg base 5 "_law_lose_walk" ["_law_words_here", "_law_flag"] (spD K (rLlw P w K)) :=
  dokD T.d_law_lose_walk sc_llw (fun ds d ⟨w, ag, fin, e, _⟩ => by subst e; rfl) (fun _ _ _ _ _ _ us hl => match us, hl with | [_, _], _ => rfl) fun ds d ⟨wd, ag, fin, e, hR, ed⟩ f cdv A outer s' H E hr => by
    subst e ed
    refine sr_seq (sn_asg 2 (pd_to (pd_tup (pds_two (pd_tup (pds_cons pd_str (pds_cons pd_bl (pds_cons pd_bl (pds_cons (pd_tup (pds_two (pd_tup (pds_two pd_bl pd_non)) (pd_tup (pds_two pd_bl pd_non)))) pds_nil))))) pd_non)) (show _ = dL begin0 from rfl)) sc_llw.nd) ?_
    refine sr_norm [some (dWs wd), some (.bl ag), some (dL begin0), none, none, none, none, none] ?_
    refine sr_startB 3 4 (units_of hr (by decide)) (pd_var 2) (pd_lst pds_nil) rfl (pd_var 2) sc_llw.nd (fun l a => ?_) rfl
    show PSs _ _ (tBR _ _ _ l a [some (dWs wd), some (.bl ag), some (dL begin0), some (.adr a), some (.adr l), none, none, none] st0L _)
    refine sb_seqR (sb_while 4 3 (fun p => [some (dWs wd), some (.bl ag), some (dL begin0), some (.adr a), some (.adr l), some (dL p), none, none]) (keepsL wd ag) (loop0 phiL0) hR PassesOwn.never (fun st => ?_) (fun p wt ks hl => ?_) (fun p => by repeat (first | exact Le.nil | refine Le.no ?_ | refine Le.yes ?_))) (sb_ret 3)
    · show PDT _ [some (dWs wd), some (.bl ag), some (dL begin0), some (dPl P w K st.2), some (.lst (st.1.map dL)), none, none, none] _ _
      exact pdt_cmp (pd_var 4) (pd_lst pds_nil) (cmp_neN (units_of hr (by decide)))
    · have hp : p ∈ keys ks := hl.inv.sub p List.mem_cons_self
      refine sb_seq (sb_pop 4 5 sc_llw.nd) ?_
      show BP _ l a [some (dWs wd), some (.bl ag), some (dL begin0), some (.adr a), some (.adr l), some (dL p), none, none] (wt, ks) _ _ _
      refine sb_seq (sb_to (sb_forP 4 3 6 7 (deedsAt p) dDeed (fun x => dL (plBy wd p ag x)) (fun n => turn valL wd ag p ((deedsAt p).take n) (wt, ks)) (fun n x => [some (dWs wd), some (.bl ag), some (dL begin0), some (.adr a), some (.adr l), some (dL p), some (dDeed x), some (dL (plBy wd p ag x))])
        rfl (show PDL _ [some (dWs wd), some (.bl ag), some (dL begin0), some (dPl P w K ks), some (.lst (wt.map dL)), some (dL p), none, none] _ _ from pdl_call (ok_llm T) (hr.mono (by decide)) (pds_cons (pd_var 0) (pds_cons (pd_var 5) (pds_cons (pd_var 1) pds_nil))) ⟨wd, p, ag, rfl, (hl.inv.good p hp).v, rfl⟩) PassesOwn.never
        (pg_tup rfl (pgs_cons (pg_name (i := 6) sc_llw.nd rfl (by first | exact Or.inl rfl | exact Or.inr rfl)) (pgs_cons (pg_name (i := 7) sc_llw.nd rfl (by first | exact Or.inl rfl | exact Or.inr rfl)) pgs_nil)))
        (fun x _ => by simp [noL, noLs, noL_dL, dDeed]) (fun n x _ => by repeat (first | exact Le.nil | refine Le.no ?_ | refine Le.yes ?_)) (fun n x hx => ?_)) (by rw [List.take_length])) sb_nil
      have hxm := List.mem_of_getElem? hx
      obtain ⟨b1, b2, b3, b4, b5, b6⟩ := turn_inv (keepsL wd ag) ((deedsAt p).take n) (wt, ks) hl.inv.pop hp (fun d hd => List.mem_of_mem_take hd)
      have hwl := hl.wl
      have hp2 := b2 p hp
      rw [turn_snoc hx]
      revert b1 b2 b4 hp2
      generalize turn valL wd ag p ((deedsAt p).take n) (wt, ks) = st
      intro b1 b2 b4 hp2
      have hz := b1.len
      obtain ⟨hs, hv, hsl⟩ := look_valL b1.phi hp2
      show BP _ l a [some (dWs wd), some (.bl ag), some (dL begin0), some (.adr a), some (.adr l), some (dL p), some (dDeed x), some (dL (plBy wd p ag x))] st _ _ _
      refine sb_seq (sb_if 4 3 (show PDT _ [some (dWs wd), some (.bl ag), some (dL begin0), some (dPl P w K st.2), some (.lst (st.1.map dL)), some (dL p), some (dDeed x), some (dL (plBy wd p ag x))] _ _ from pdt_cmp (pd_var 7) (pd_var 3) (cmp_niP (units_of hr (by decide)))) (fun h => ?_) (fun h => ?_)) sb_nil
      · have hn : ¬ plBy wd p ag x ∈ keys st.2 := fun z => by rw [decide_eq_true (show plBy wd p ag x ∈ st.2.map (·.1) from z)] at h; cases h
        rw [one_new hn]
        have hval : valL st.2 p x = .lst (hs.map dDeed ++ [dDeed x]) := by unfold valL; rw [hv]
        rw [hval]
        refine sb_seq (sb_put 4 3 (d := .lst (hs.map dDeed ++ [dDeed x])) (units_of hr (by decide)) (show PD _ [some (dWs wd), some (.bl ag), some (dL begin0), some (dPl P w K st.2), some (.lst (st.1.map dL)), some (dL p), some (dDeed x), some (dL (plBy wd p ag x))] _ _ from pd_var 7)
          (pm_l 4 3 (show PDL _ [some (dWs wd), some (.bl ag), some (dL begin0), some (dPl P w K st.2), some (.lst (st.1.map dL)), some (dL p), some (dDeed x), some (dL (plBy wd p ag x))] _ _ from pdl_catL (pd_getP (units_of hr (by decide)) (pd_var 3) (pd_var 5) hv) (pd_lst (pds_cons (pd_var 6) pds_nil)) (by rw [List.length_map]; simp only [List.length_singleton]; omega)) (by rw [noLs_append, noLs_deeds]; rfl)) hn (Nat.le_trans hz (by decide))) ?_
        exact sb_seq (sb_app 4 3 (show PD _ [some (dWs wd), some (.bl ag), some (dL begin0), some (dPl P w K _), some (.lst (List.map dL _)), some (dL p), some (dDeed x), some (dL (plBy wd p ag x))] _ _ from pd_var 7) (mu_wl (st := st) (Nat.le_trans b4 hwl))) sb_nil
      · have hn : plBy wd p ag x ∈ keys st.2 := Decidable.byContradiction fun z => by rw [decide_eq_false (show ¬ plBy wd p ag x ∈ st.2.map (·.1) from z)] at h; cases h
        rw [one_old hn]
        exact sb_nil
end
end CM
set_option Elab.async false
set_option linter.all false
set_option maxRecDepth 100000
set_option maxHeartbeats 4000000
/-! CMU: loops over lists of lists, comprehensions that make lists, own lists begun with items. -/
namespace CM
open PySem L2
open PyProof.Rows (envOfC)
section
variable {X : Cx} {ρ : Kn} {iter tg elt e x : Expr} {body rest : List Stmt} {pos p : Pos} {α : Type} {d : D} {ds es : List D}
/-- for x in a list, never left early -/
theorem sn_forL (i : Nat) (as : List α) (g : α → D) (hc : X.calm = true) (hi : PD X ρ iter (.lst (as.map g))) (hp : PassesOwn (model X.prog X.w) X.A X.env X.xe) (hg : PG X tg (gName i))
    (hb : ∀ a ∈ as, ∃ ρ3, Le ρ ρ3 ∧ SN X (ρ.set i (some (g a))) body ρ3) (hs : ∀ x, foldedSetIterable iter X.env x = pure x := by intro _; rfl) : SN1 X ρ (.For tg iter body [] pos) ρ := by
  refine ps_w (ps_for (tb := fun D σ H => ∃ a ρ3, a ∈ as ∧ Le ρ ρ3 ∧ SN X (ρ.set i (some (g a))) body ρ3 ∧ tN X.K (ρ.set i (some (g a))) ρ3 D σ H) hp hc (pi_list hi) hg ⟨fun pins s σ H D I ⟨a, ρ3, _, _, hb, q⟩ => hb.run pins s σ H D I q⟩ hs) fun D σ H q => ?_
  refine ⟨q.1, fun v H1 e1 a1 => ?_⟩
  simp only [At] at a1
  obtain ⟨c, xs, rfl, hx, al⟩ := a1
  refine ⟨c, rfl, ⟨xs, hx⟩, ?_⟩
  refine for_list (K := X.K) (g := gName i) (tb := fun D σ H => ∃ a ρ3, a ∈ as ∧ Le ρ ρ3 ∧ SN X (ρ.set i (some (g a))) body ρ3 ∧ tN X.K (ρ.set i (some (g a))) ρ3 D σ H) (D := D) (xs := xs) (fun n σ H' => Same H1 H' ∧ EA X.K H' σ ρ) ⟨Same.refl _, q.1.same e1⟩ (fun n σ H' _ p => p.1.seq hx) (fun n v σ H' hv p => ?_) (fun σ H' p => ?_)
  · obtain ⟨d0, hd0, ad⟩ := al.get' hv
    obtain ⟨a, ha, rfl⟩ := get_map hd0
    have hm := List.mem_of_getElem? ha
    obtain ⟨ρ3, hle, hb3⟩ := hb a hm
    exact ⟨a, ρ3, hm, hle, hb3, p.2.set (ad.same p.1), fun σ3 H3 e3 ea3 => ⟨p.1.trans e3, ea3.le hle⟩⟩
  · exact q.2 σ H' (e1.trans p.1) p.2
/-! ### a list that one fills, begun with items -/
theorem sr_ownD (ix : Nat) {y : Str} {xs : List Expr} {pl : Pos} (hx : PDs X ρ xs ds) (hl : ds.length ≤ 10000000) (nd : X.N.Nodup) (h : ∀ l, PSs X rest (tOR X.K l (ρ.set ix (some (.adr l))) ds d)) (hN : X.N[ix]? = some y := by rfl) (hxx : Loc X.env.scope y := by first | exact Or.inl rfl | exact Or.inr rfl)
    (hf : X.fn y = true ∨ X.env.scope.names.lookup y = some .local := by first | exact .inl rfl | exact .inr rfl)
    (hs : swapsWithSole [.Name y p] (.List xs pl) pos.line X.env = pure false := by rfl) (hw : swappedStores [.Name y p] (.List xs pl) X.env = pure none := by rfl)
    (h1 : (assignEach [.Name y p] X.env).map (·.2) = [assign (.Name y p) X.env] := by rfl) : SR X ρ (.Assign [.Name y p] (.List xs pl) pos :: rest) d := by
  refine pss_w (pss_cons (ps_asg (pe_lst hx) (pg_name nd hN hxx hf) hs hw h1) (u := fun D σ H => ∃ l, tOR X.K l (ρ.set ix (some (.adr l))) ds d D σ H) ⟨fun pins s σ H D I ⟨l, q⟩ => (h l).run pins s σ H D I q⟩) fun D σ H q => ?_
  refine ⟨q.1, fun vs H1 e1 al => ⟨by rw [al.length]; exact Nat.le_trans hl (by decide), fun l hl => ⟨l, ?_, ⟨vs, upd_same, ?_⟩, fun v H' e a => q.2 v H' (e1.trans (mask_out hl ?_)) a⟩⟩⟩
  · rw [mask_upd, mask_new hl]
    exact (q.1.same e1).set (by simp only [At])
  · rw [mask_upd, mask_new hl]; exact al
  · rw [mask_upd] at e; exact e
/-- cases.append(a fresh list) -/
theorem so_appL (ix : Nat) {l : Addr} {y : Str} {pf apos cpos : Pos} (hx : PDL X ρ x es) (nl : noLs es = true) (hl : ds.length ≤ 10000000) (hρ : ρ[ix]? = some (some (.adr l)) := by rfl) (hN : X.N[ix]? = some y := by rfl)
    (hv : Vis X.env.scope y := by first | exact Or.inl rfl | exact Or.inr (Or.inl rfl) | exact Or.inr (Or.inr rfl)) (hd : (y == ("__debug__" : Str)) = false := by decide) (hcd : (y == ("__classdict__" : Str)) = false := by decide)
    (hbase : attributeBase (.Name y pf) "append" X.env (eval (.Name y pf) X.env) = eval (.Name y pf) X.env := by rfl)
    (hfew : ((backTo cpos (starEach [x] X.env)).all (fun x => !x.1) && (backToKw cpos (keywordEach [] X.env)).all (fun x => x.1.isSome)
      && decide ([x].length + ([] : List Keyword).length + (if ([] : List Keyword).isEmpty then 0 else 1) < 30)) = true := by rfl)
    (hline : (apos.endLine == cpos.line) = true := by rfl) (hs : starEach [x] X.env = (false, eval x X.env) :: starEach [] X.env := by rfl) (hplain : (backTo cpos (starEach [] X.env)).any (·.1) = false := by rfl)
    (hsw : swapsWith (.Call (.Attribute (.Name y pf) "append" apos) [x] [] cpos) none pos.line X.env = pure false := by rfl) :
    PS X (.Expr (.Call (.Attribute (.Name y pf) "append" apos) [x] [] cpos) pos) (tO X.K l ρ ds ρ (ds ++ [.lst es])) :=
  ps_w (ps_expr (pe_bm PySem.F.plainAttrs_list PySem.F.slot_list_append PySem.F.type_list_append mt_append (pe_var hN hv hd hcd) (pa_cons hx pa_nil hs) hbase hfew hline hs hplain) hsw) fun D σ H ⟨ea, ⟨ys, h, al⟩, q⟩ => by
    obtain ⟨v, hv1, hv2⟩ := ea.2 ix _ hρ
    simp only [At] at hv2
    subst hv2
    refine ⟨_, hv1, .inl ⟨rfl, _, SqL.of h⟩, ea.same mask_le, fun c zs H1 hc e1 hz az => ⟨l, ys, .ref c, rfl, rfl, e1 _ _ h, ?_, ?_⟩⟩
    · rw [al.length]; exact Nat.lt_of_le_of_lt hl (by decide)
    · have hcl : c ≠ l := fun z => by rw [z, h] at hc; cases hc
      refine q σ _ (ys ++ [.ref c]) (by rw [mask_upd]; exact mask_same e1) (by rw [mask_upd]; exact ea.same (mask_same e1)) upd_same ?_
      rw [mask_upd]
      exact (al.same (mask_same e1)).append (AtL.cons (at_lst (SqL.of (by rw [mask_at hcl]; exact hz)) (az.ties (ties_mask (e1 _ _ h)) nl)) AtL.nil)
end
/-! ### [a list for x in a list] -/
def tDnx (K : PySem.W.Frag) (F : Kn → List D → Prop) : TE := fun σ H Q => ∃ ρ ds, F ρ ds ∧ tDn K ρ ds σ H Q
theorem pe_nx {X : Cx} {e : Expr} {F : Kn → List D → Prop} (h : ∀ ρ ds, F ρ ds → PDL X ρ e ds) : PE X e (tDnx X.K F) :=
  ⟨fun pins s σ H Q I ⟨ρ, d, f, q⟩ => (h ρ d f).run pins s σ H Q I q⟩
def teM {α : Type} (K : PySem.W.Frag) (as : List α) (r : α → Kn) (f : α → List D) : TE := tDnx K fun ρ' ds => ∃ d ∈ as, ρ' = r d ∧ ds = f d
theorem map_snoc {α β : Type} {xs : List α} {i : Nat} {x : α} (f : α → β) (h : xs[i]? = some x) : (xs.take (i + 1)).map f = (xs.take i).map f ++ [f x] := by
  rw [filter_snoc h, List.map_append]; rfl
section
variable {α : Type} {ρ : Kn} {own : List (Str × Nat)}
theorem rd_lcM {K : PySem.W.Frag} (j : Nat) (as : List α) (g : α → D) (f : α → List D) (nl : ∀ d ∈ as, noLs (f d) = true) (hw : ∀ (σ : L2.St) v, wipe ((wipe σ (own.map (·.2))).set j v) (own.map (·.2)) = wipe σ (own.map (·.2))) (hsz : as.length ≤ 8000000)
    {σ : L2.St} {H : Hp} {Q : VK} (q : tDn K ρ (as.map fun a => .lst (f a)) σ H Q) : tLc (iList K (tD K ρ (.lst (as.map g)))) (gName j) (ttX K as (fun d => ((wipeK ρ (own.map (·.2))).set j (some (g d)))) fun _ => true) (teM K as (fun d => ((wipeK ρ (own.map (·.2))).set j (some (g d)))) f) (own.map (·.2)) σ H Q := by
  refine ⟨q.1, fun v H1 e1 a1 => ?_⟩
  simp only [At] at a1
  obtain ⟨a, xs, rfl, hx, al⟩ := a1
  refine ⟨a, rfl, ⟨xs, hx⟩, fun Dl hD => lc_list (xs := xs) (fun i H' => Same H1 H' ∧ ∃ ys, H' Dl = some (.lst ys) ∧ AtL K (mask Dl H') ((as.take i).map fun a => .lst (f a)) ys) ⟨same_new hD, [], upd_same, AtL.nil⟩ (fun i H' _ p => p.1.seq hx) (fun i' x H' hi' p => ?_) (fun H' p => ?_)⟩
  · obtain ⟨sm, ys, hy, al2⟩ := p
    obtain ⟨d0, hd0, ad⟩ := al.get' hi'
    obtain ⟨d, hd, rfl⟩ := get_map hd0
    have hm := List.mem_of_getElem? hd
    have ea : EA K H' ((wipe σ (own.map (·.2))).set j (some x)) ((wipeK ρ (own.map (·.2))).set j (some (g d))) := ((q.1.same (e1.trans sm)).wipe _).set (ad.same sm)
    refine ⟨hw σ _, ⟨_, _, ⟨d, hm, rfl, rfl⟩, ea, fun H2 e2 => iteT ⟨_, _, ⟨d, hm, rfl, rfl⟩, ea.same e2, fun c zs H3 hc e3 hz az => ⟨ys, e3 _ _ (e2 _ _ hy), ?_, ?_, ys ++ [.ref c], upd_same, ?_⟩⟩⟩⟩
    · rw [al2.length, List.length_map]
      have h2 : (as.take i').length ≤ as.length := by rw [List.length_take]; exact Nat.min_le_right _ _
      exact Nat.lt_of_le_of_lt (Nat.le_trans h2 hsz) (by decide)
    · exact same_mut (sm.trans (e2.trans e3)) hD
    · have hcD : c ≠ Dl := fun z => by
        have := e2 _ _ hy
        rw [← z, hc] at this
        cases this
      rw [mask_upd, map_snoc _ hd]
      exact (al2.same (mask_same (e2.trans e3))).append (AtL.cons (at_lst (SqL.of (by rw [mask_at hcD]; exact hz)) (az.ties (ties_mask (e3 _ _ (e2 _ _ hy))) (nl d hm))) AtL.nil)
  · obtain ⟨sm, ys, hy, al2⟩ := p
    rw [al.length, List.length_map, List.take_length] at al2
    exact q.2 _ _ _ (Same.free e1 hD) (e1.trans sm) hy (al2.same mask_le)
variable {X : Cx} {iter elt tg : Expr} {scope : Scope} {pos : Pos}
theorem pdl_lcM (j : Nat) (as : List α) (g : α → D) (f : α → List D) (hc : X.calm = true) (hN : X.N.Nodup) (hi : PD X ρ iter (.lst (as.map g))) (ok : BlkOk X.N X.env.scope scope own)
    (hg : ∀ (s : Shared) (H : Hp) (C : Addr) (cl : List (Str × Addr)) (fp : List Addr), PG (X.blk s H scope (compEnvC scope cl C X.env) fp) tg (gName j))
    (he : ∀ d ∈ as, ∀ (s : Shared) (H : Hp) (C : Addr) (cl : List (Str × Addr)) (fp : List Addr), PDL (X.blk s H scope (compEnvC scope cl C X.env) fp) ((wipeK ρ (own.map (·.2))).set j (some (g d))) elt (f d))
    (nl : ∀ d ∈ as, noLs (f d) = true) (hw : ∀ (σ : L2.St) v, wipe ((wipe σ (own.map (·.2))).set j v) (own.map (·.2)) = wipe σ (own.map (·.2))) (hsz : as.length ≤ 8000000 := by exact Nat.le_of_ble_eq_true rfl) (hs : ∀ x, foldedSetIterable iter X.env x = pure x := by intro _; rfl) :
    PDL X ρ (.ListComp elt [⟨tg, iter, [], 0⟩] scope pos) (as.map fun a => .lst (f a)) :=
  pe_w (pe_lc (tt := ttX X.K as (fun d => ((wipeK ρ (own.map (·.2))).set j (some (g d)))) fun _ => true) (te := teM X.K as (fun d => ((wipeK ρ (own.map (·.2))).set j (some (g d)))) f) hc hN (pi_list hi) ok hg (fun s H C cl fp => pts_x fun ρ' b ⟨d, hd, e1, e2⟩ => by subst e1 e2; exact pdts_nil) (fun s H C cl fp => pe_nx fun ρ' e ⟨d, hd, e1, e2⟩ => by subst e1 e2; exact he d hd s H C cl fp) hs) fun σ H Q q => rd_lcM j as g f nl hw hsz q
end
/-! ### cases -/
def PCase (c : D) : Prop := ∃ qs : List Pl, c = .lst (qs.map dL) ∧ qs.length ≤ 4000000 ∧ ∀ q ∈ qs, Good q
def HCase (c : D) : Prop := ∃ hs : List (Option Deed), c = .lst (hs.map dHw) ∧ hs.length ≤ 4000000
def cutG {α : Type} (xs : List α) (lo hi : Option Int) : List α := (xs.drop (HT.sIx xs.length 0 lo)).take (HT.sIx xs.length xs.length hi - HT.sIx xs.length 0 lo)
theorem cutD_map {α : Type} (g : α → D) (xs : List α) (lo hi : Option Int) : cutD (xs.map g) lo hi = (cutG xs lo hi).map g := by
  unfold cutD cutG
  rw [List.length_map, List.map_take, List.map_drop]
theorem cutG_mem {α : Type} {xs : List α} {lo hi : Option Int} {x : α} (h : x ∈ cutG xs lo hi) : x ∈ xs := List.mem_of_mem_drop (List.mem_of_mem_take h)
theorem cutG_len {α : Type} (xs : List α) (lo hi : Option Int) : (cutG xs lo hi).length ≤ xs.length := by
  unfold cutG
  rw [List.length_take, List.length_drop]
  omega
end CM
set_option Elab.async false
set_option linter.all false
set_option maxRecDepth 100000
set_option maxHeartbeats 4000000
/-! CMQ: _law_wish_right. -/
namespace CM
open PySem L2
open PyProof.Rows (envOfC)
def oddS : Sta := ⟨.kept, false, false, ⟨true, some .twice⟩, ⟨false, some .elder⟩⟩
def odd1 : Pl := ⟨oddS, none⟩
def odd2 : Pl := ⟨oddS, some ⟨false, ⟨false, some .right⟩, ⟨true, some .elder⟩⟩⟩
theorem good1 : Good odd1 := ⟨(fun h => nomatch h), rfl, (fun q h => nomatch h)⟩
theorem good2 : Good odd2 := ⟨(fun h => nomatch h), rfl, fun q h => by cases h; rfl⟩
theorem cutD_len (ds : List D) (lo hi : Option Int) : (cutD ds lo hi).length ≤ ds.length := by
  unfold cutD
  rw [List.length_take, List.length_drop]
  omega
theorem pcase {qs : List Pl} (h1 : qs.length ≤ 4000000) (h2 : ∀ q ∈ qs, Good q) : PCase (.lst (qs.map dL)) := ⟨qs, rfl, h1, h2⟩
theorem hcase {hs : List (Option Deed)} (h1 : hs.length ≤ 4000000) : HCase (.lst (hs.map dHw)) := ⟨hs, rfl, h1⟩
/-- what stands at a place -/
def valAt (ks : List (Pl × D)) (p : Pl) : List D := match look ks p with
  | some (.lst ds) => ds
  | _ => []
theorem hist_ex {ks : List (Pl × D)} (h : PhiL ks) : ∃ hist : Pl → List (Option Deed), ∀ p, p ∈ keys ks → look ks p = some (.lst ((hist p).map dHw)) ∧ (hist p).length < ks.length := by
  have q : ∀ p, ∃ hs : List (Option Deed), p ∈ keys ks → look ks p = some (.lst (hs.map dHw)) ∧ hs.length < ks.length := fun p => by
    by_cases hp : p ∈ keys ks
    · obtain ⟨hs, h1, h2⟩ := look_valL h hp
      refine ⟨hs.map some, fun _ => ⟨?_, by rw [List.length_map]; exact h2⟩⟩
      rw [h1, List.map_map]; rfl
    · exact ⟨[], fun z => absurd z hp⟩
  exact Classical.axiomOfChoice q
theorem fl_hw (hs : List (Option Deed)) : (hs.map dHw).all fl = true := by
  rw [List.all_map]
  exact List.all_eq_true.mpr fun _ _ => rfl
theorem noLs_dL (ps : List Pl) : noLs (ps.map dL) = true := noLs_mem.mpr fun d hd => by
  obtain ⟨x, _, rfl⟩ := List.mem_map.mp hd
  exact noL_dL x
def pathOf (hist : Pl → List (Option Deed)) (bad : List Pl) (pat : Pl) (k : Bool) : List (Option Deed) := match bad with
  | [] => hist pat
  | b :: _ => hist b ++ cond k [some .begin] []
def extOf (hist : Pl → List (Option Deed)) (bad : List Pl) : List D := match bad with
  | [] => []
  | b :: bs => [.lst ((hist b).map dHw ++ [dHw (some .wboth)]), .lst ((hist ((b :: bs).getLast (List.cons_ne_nil _ _))).map dHw ++ [dHw (some .lose)])]
theorem hcase1 {hs : List (Option Deed)} {o : Option Deed} (h : hs.length ≤ 3000000) : HCase (.lst (hs.map dHw ++ [dHw o])) := by
  have e : hs.map dHw ++ [dHw o] = (hs ++ [o]).map dHw := by rw [List.map_append]; rfl
  rw [e]
  exact hcase (by rw [List.length_append, List.length_singleton]; omega)
section
variable {P : Program} {w : World} {K : PySem.W.Frag} {mg : Str → Option Value} {base : Heap}
abbrev NQ : List Str := ["_law_script", "_law_words_here", "_law_rules", "_law_wish", "_law_flag", "_law_every", "_law_places", "_law_at", "_law_start", "_law_odd", "_law_cases", "_law_some", "_law_bad_here", "_law_path", "_law_one", "_law_place"]
theorem sc_lwi : FnScope ["_law_script", "_law_words_here", "_law_rules", "_law_wish", "_law_flag", "_law_every", "_law_places", "_law_at", "_law_start", "_law_odd", "_law_cases", "_law_some", "_law_bad_here", "_law_path", "_law_one", "_law_place"] ["_law_script", "_law_words_here", "_law_rules", "_law_wish", "_law_flag"] (defScope (top 76)) := ⟨rfl, rfl, rfl, by decide +kernel, rfl, by decide +kernel, by decide +kernel⟩
def rLwi (ds : List D) (d : D) : Prop := ∃ (ns : List Int) (wd : Wd) (x : Wish) (ag : Bool), ds = [.lst (ns.map D.int), dWs wd, dW wd, dWish x, .bl ag] ∧ d = .bl true
theorem calm_same {wd : Wd} {x : Wish} {ag : Bool} {qs : List Pl} (h : ∀ q ∈ qs, Good q) : (!decide (calmP wd x ag qs = calmL wd x ag qs)) = false := by rw [calm_eq h]; simp
theorem ups_same {wd : Wd} {x : Wish} {ag : Bool} {hs : List (Option Deed)} : (!decide (upsetP wd x ag hs = upsetL wd x ag hs)) = false := by rw [upset_eq]; simp
theorem ok_lwi (T : Top K w mg) : Dok P w K mg base 10 "_law_wish_right" ["_law_script", "_law_words_here", "_law_rules", "_law_wish", "_law_flag"] (spD K rLwi) :=
  dokD T.d_law_wish_right sc_lwi (fun ds d ⟨ns, wd, x, ag, e, _⟩ => by subst e; rfl) (fun _ _ _ _ _ _ us hl => match us, hl with | [_, _, _, _, _], _ => rfl) fun ds d ⟨ns, wd, x, ag, e, ed⟩ f cdv A outer s' H E hr => by
    subst e ed
    obtain ⟨fin, hR⟩ := runs_ex (keepsL wd ag) (mu st0L) st0L (Nat.le_refl _) (loop0 phiL0)
    obtain ⟨hF, hF1⟩ := runs_loop (keepsL wd ag) hR (loop0 phiL0)
    have hI := hF.inv
    obtain ⟨hist, hh⟩ := hist_ex hI.phi
    have hn := hI.len
    have hpl : (keys fin.2).length = fin.2.length := by unfold keys; rw [List.length_map]
    have hg := hI.good
    have hpos : 0 < fin.2.length := by
      have := List.length_pos_of_mem hI.beg
      omega
    refine sr_seq (sn_asg 5 (pd_call (ok_llw T) (hr.mono (by decide)) (pds_two (pd_var 1) (pd_var 4)) ⟨wd, ag, fin, rfl, hR, rfl⟩) sc_lwi.nd) ?_
    refine sr_norm [some (.lst (ns.map D.int)), some (dWs wd), some (dW wd), some (dWish x), some (.bl ag), some (dPl P w K fin.2), none, none, none, none, none, none, none, none, none, none] ?_
    refine sr_seq (sn_unp [6, 7] (ds := [.lst ((keys fin.2).map dL), .int (lawNum ns 30 % (fin.2.length : Int))]) (pd_tup (pds_two (pd_to (pd_l (pdl_listPl rfl T.flist (pd_var 5))) (by unfold keys; rw [List.map_map]; rfl)) (pd_mod (pd_intc T.fint (pd_call (ok_num T) (hr.mono (by decide)) (pds_two (pd_var 0) pd_int) ⟨ns, 30, rfl, rfl⟩)) (pd_lenPl T.flen (pd_var 5)) (by omega)))) rfl
      (pgs_cons (pg_name (i := 6) sc_lwi.nd rfl (by first | exact Or.inl rfl | exact Or.inr rfl)) (pgs_cons (pg_name (i := 7) sc_lwi.nd rfl (by first | exact Or.inl rfl | exact Or.inr rfl)) pgs_nil))) ?_
    obtain ⟨at_, hat, hat2⟩ : ∃ at_ : Nat, lawNum ns 30 % (fin.2.length : Int) = (at_ : Int) ∧ at_ < (keys fin.2).length := by
      have h0 : 0 ≤ lawNum ns 30 % (fin.2.length : Int) := Int.emod_nonneg _ (by omega)
      have h1 : lawNum ns 30 % (fin.2.length : Int) < (fin.2.length : Int) := Int.emod_lt_of_pos _ (by omega)
      exact ⟨_, (Int.toNat_of_nonneg h0).symm, by omega⟩
    rw [hat]
    generalize keys fin.2 = ps at *
    refine sr_norm [some (.lst (ns.map D.int)), some (dWs wd), some (dW wd), some (dWish x), some (.bl ag), some (dPl P w K fin.2), some (.lst (ps.map dL)), some (.int (at_ : Int)), none, none, none, none, none, none, none, none] ?_
    refine sr_seq (sn_asg 8 (pd_to (pd_tup (pds_cons pd_str (pds_cons pd_bl (pds_cons pd_bl (pds_cons (pd_tup (pds_two (pd_tup (pds_two pd_bl pd_str)) (pd_tup (pds_two pd_bl pd_str)))) pds_nil))))) (show _ = dS oddS from rfl)) sc_lwi.nd) ?_
    refine sr_norm [some (.lst (ns.map D.int)), some (dWs wd), some (dW wd), some (dWish x), some (.bl ag), some (dPl P w K fin.2), some (.lst (ps.map dL)), some (.int (at_ : Int)), some (dS oddS), none, none, none, none, none, none, none] ?_
    refine sr_seq (sn_asg 9 (pd_to (pd_lst (pds_two (pd_tup (pds_two (pd_var 8) pd_non)) (pd_tup (pds_two (pd_var 8) (pd_tup (pds_two pd_bl (pd_tup (pds_two (pd_tup (pds_two pd_bl pd_str)) (pd_tup (pds_two pd_bl pd_str)))))))))) (show _ = .lst ([odd1, odd2].map dL) from rfl)) sc_lwi.nd) ?_
    refine sr_norm [some (.lst (ns.map D.int)), some (dWs wd), some (dW wd), some (dWish x), some (.bl ag), some (dPl P w K fin.2), some (.lst (ps.map dL)), some (.int (at_ : Int)), some (dS oddS), some (.lst ([odd1, odd2].map dL)), none, none, none, none, none, none] ?_
    have hz : (ps.map dL).length ≤ 998784 := by rw [List.length_map]; omega
    have hc1 : ∀ lo hi, (cutD (ps.map dL) lo hi).length ≤ 998784 := fun lo hi => Nat.le_trans (cutD_len _ _ _) hz
    refine sr_ownD 10 (ds := [.lst (ps.map dL), .lst ((ps.map dL).reverse ++ cutD (ps.map dL) none (some 2)), .lst (cutD (ps.map dL) (some 1) none), .lst (cutD (ps.map dL) none (some (at_ : Int)) ++ cutD (ps.map dL) (some ((at_ : Int) + 1)) none), .lst [], .lst (cutD (ps.map dL) none (some (at_ : Int)))])
      (pds_cons (pd_var 6) (pds_cons (pd_l (pdl_catL (pd_l (pdl_rev (pd_var 6))) (pd_l (pdl_slL (pd_var 6) pdo_none (pdo_some pd_int))) (by have := hc1 none (some 2); rw [List.length_reverse]; omega))) (pds_cons (pd_l (pdl_slL (pd_var 6) (pdo_some pd_int) pdo_none))
        (pds_cons (pd_l (pdl_catL (pd_l (pdl_slL (pd_var 6) pdo_none (pdo_some (pd_var 7)))) (pd_l (pdl_slL (pd_var 6) (pdo_some (pd_add (pd_var 7) pd_int)) pdo_none)) (by have h1 := hc1 none (some (at_ : Int)); have h2 := hc1 (some ((at_ : Int) + 1)) none; omega)))
          (pds_two (pd_lst pds_nil) (pd_l (pdl_slL (pd_var 6) pdo_none (pdo_some (pd_var 7))))))))) (Nat.le_of_ble_eq_true rfl) sc_lwi.nd (fun l => ?_)
    refine so_seqR (so_appL 10 (pdl_lcL (own := [("_law_place", 15)]) 15 ps dL dL (fun p => !inD (.str "lose") ((hist p).map dHw)) rfl sc_lwi.nd (pd_var 6)
      (blkOk_by (N := NQ) (sc := defScope (top 76)) (own := [("_law_place", 15)]) (by decide +kernel)) (fun _ _ _ _ _ => pg_name (i := 15) sc_lwi.nd rfl (Or.inl rfl))
      (fun p hp _ _ _ _ _ => pdts_one (pdt_cmp pd_str (pd_getP (units_of hr (by decide)) (pd_var 5) (pd_var 15) (hh p hp).1) (cmp_niL rfl (fl_hw _)))) (fun p _ _ _ _ _ _ _ => pd_var 15) (fun p _ => noL_dL _) (fun σ v => by simp [wipe, List.set_set]) (by omega)) (noLs_dL _) (Nat.le_of_ble_eq_true rfl)) ?_
    refine so_endR 10 ?_
    refine sr_norm [some (.lst (ns.map D.int)), some (dWs wd), some (dW wd), some (dWish x), some (.bl ag), some (dPl P w K fin.2), some (.lst (ps.map dL)), some (.int (at_ : Int)), some (dS oddS), some (.lst ([odd1, odd2].map dL)), some (.lst ([.lst (ps.map dL), .lst ((ps.map dL).reverse ++ cutD (ps.map dL) none (some 2)), .lst (cutD (ps.map dL) (some 1) none), .lst (cutD (ps.map dL) none (some (at_ : Int)) ++ cutD (ps.map dL) (some ((at_ : Int) + 1)) none), .lst [], .lst (cutD (ps.map dL) none (some (at_ : Int)))] ++ [.lst ((ps.filter fun p => !inD (.str "lose") ((hist p).map dHw)).map dL)])), none, none, none, none, none] ?_
    have hgc : ∀ lo hi, ∀ q ∈ cutG ps lo hi, Good q := fun lo hi q hq => hg q (cutG_mem hq)
    have hlc : ∀ lo hi, (cutG ps lo hi).length ≤ 998784 := fun lo hi => Nat.le_trans (cutG_len _ _ _) (by omega)
    have hcs : ∀ c ∈ [D.lst (ps.map dL), .lst ((ps.map dL).reverse ++ cutD (ps.map dL) none (some 2)), .lst (cutD (ps.map dL) (some 1) none), .lst (cutD (ps.map dL) none (some (at_ : Int)) ++ cutD (ps.map dL) (some ((at_ : Int) + 1)) none), .lst [], .lst (cutD (ps.map dL) none (some (at_ : Int)))] ++ [.lst ((ps.filter fun p => !inD (.str "lose") ((hist p).map dHw)).map dL)], PCase c := by
      intro c hc
      simp only [List.cons_append, List.nil_append, List.mem_cons, List.not_mem_nil, or_false] at hc
      rcases hc with e | e | e | e | e | e | e
      · exact e ▸ pcase (by omega) hg
      · rw [e, ← List.map_reverse, cutD_map, ← List.map_append]
        exact pcase (by have := hlc none (some 2); rw [List.length_append, List.length_reverse]; omega) (fun q hq => by
          rcases List.mem_append.mp hq with z | z
          · exact hg q (List.mem_reverse.mp z)
          · exact hgc _ _ q z)
      · rw [e, cutD_map]
        exact pcase (by have := hlc (some 1) none; omega) (hgc _ _)
      · rw [e, cutD_map, cutD_map, ← List.map_append]
        exact pcase (by have h1 := hlc none (some (at_ : Int)); have h2 := hlc (some ((at_ : Int) + 1)) none; rw [List.length_append]; omega) (fun q hq => by
          rcases List.mem_append.mp hq with z | z
          · exact hgc _ _ q z
          · exact hgc _ _ q z)
      · exact e ▸ pcase (qs := []) (Nat.zero_le _) (fun q hq => nomatch hq)
      · rw [e, cutD_map]
        exact pcase (by have := hlc none (some (at_ : Int)); omega) (hgc _ _)
      · rw [e]
        exact pcase (Nat.le_trans (List.length_filter_le _ _) (by omega)) (fun q hq => hg q (List.mem_filter.mp hq).1)
    have hcl : ([D.lst (ps.map dL), .lst ((ps.map dL).reverse ++ cutD (ps.map dL) none (some 2)), .lst (cutD (ps.map dL) (some 1) none), .lst (cutD (ps.map dL) none (some (at_ : Int)) ++ cutD (ps.map dL) (some ((at_ : Int) + 1)) none), .lst [], .lst (cutD (ps.map dL) none (some (at_ : Int)))] ++ [D.lst ((ps.filter fun p => !inD (.str "lose") ((hist p).map dHw)).map dL)]).length ≤ 100 := Nat.le_of_ble_eq_true rfl
    revert hcs hcl
    generalize ([D.lst (ps.map dL), .lst ((ps.map dL).reverse ++ cutD (ps.map dL) none (some 2)), .lst (cutD (ps.map dL) (some 1) none), .lst (cutD (ps.map dL) none (some (at_ : Int)) ++ cutD (ps.map dL) (some ((at_ : Int) + 1)) none), .lst [], .lst (cutD (ps.map dL) none (some (at_ : Int)))] ++ [.lst ((ps.filter fun p => !inD (.str "lose") ((hist p).map dHw)).map dL)]) = cs
    intro hcs hcl
    refine sr_seq (sn_forL 11 (cs ++ [odd1, odd2].map fun o => .lst (ps.map dL ++ [dL o])) (fun c => c) rfl (pd_to (pd_l (pdl_catL (pd_var 10) (pd_l (pdl_lcM (own := [("_law_one", 14)]) 14 [odd1, odd2] dL (fun o => ps.map dL ++ [dL o]) rfl sc_lwi.nd (pd_var 9)
      (blkOk_by (N := NQ) (sc := defScope (top 76)) (own := [("_law_one", 14)]) (by decide +kernel)) (fun _ _ _ _ _ => pg_name (i := 14) sc_lwi.nd rfl (Or.inl rfl)) (fun o _ _ _ _ _ _ => pdl_catL (pd_var 6) (pd_lst (pds_cons (pd_var 14) pds_nil)) (by simp only [List.length_singleton]; omega))
      (fun o _ => by rw [noLs_append, noLs_dL]; simp [noLs, noL_dL]) (fun σ v => by simp [wipe, List.set_set]))) (by simp only [List.length_map, List.length_cons, List.length_nil]; omega))) (by rw [List.map_id'])) PassesOwn.never (pg_name (i := 11) sc_lwi.nd rfl (by first | exact Or.inl rfl | exact Or.inr rfl)) (fun c hc => ?_)) ?_
    · have hcp : PCase c := by
        rcases List.mem_append.mp hc with z | z
        · exact hcs c z
        · obtain ⟨o, ho, rfl⟩ := List.mem_map.mp z
          have e : ps.map dL ++ [dL o] = (ps ++ [o]).map dL := by rw [List.map_append]; rfl
          rw [e]
          exact pcase (by rw [List.length_append, List.length_singleton]; omega) (fun q hq => by
            rcases List.mem_append.mp hq with y | y
            · exact hg q y
            · rw [List.mem_singleton.mp y]
              rcases List.mem_cons.mp ho with r | r
              · rw [r]; exact good1
              · rw [List.mem_singleton.mp r]; exact good2)
      obtain ⟨qs, rfl, hq1, hq2⟩ := hcp
      refine ⟨[some (.lst (ns.map D.int)), some (dWs wd), some (dW wd), some (dWish x), some (.bl ag), some (dPl P w K fin.2), some (.lst (ps.map dL)), some (.int (at_ : Int)), some (dS oddS), some (.lst ([odd1, odd2].map dL)), some (.lst cs), some (.lst (qs.map dL)), none, none, none, none], by repeat (first | exact Le.nil | refine Le.no ?_ | refine Le.yes ?_), ?_⟩
      show SN _ [some (.lst (ns.map D.int)), some (dWs wd), some (dW wd), some (dWish x), some (.bl ag), some (dPl P w K fin.2), some (.lst (ps.map dL)), some (.int (at_ : Int)), some (dS oddS), some (.lst ([odd1, odd2].map dL)), some (.lst cs), some (.lst (qs.map dL)), none, none, none, none] _ _
      exact sn_seq (sn_skip (pdt_is (pdt_cmp (pd_csh T (hr.mono (by decide)) (pd_calm T (hr.mono (by decide)) (pd_var 11)) (pd_var 2) (pd_var 3) (pd_var 4) (by omega)) (pd_call (ok_lca T) (hr.mono (by decide)) (pds_cons (pd_var 1) (pds_cons (pd_var 3) (pds_two (pd_var 4) (pd_var 11)))) ⟨wd, x, ag, qs, rfl, by omega, fun q hq => (hq2 q hq).v, rfl⟩) cmp_neB) (calm_same hq2))) sn_nil
    refine sr_seq (sn_lcL (own := [("_law_place", 15)]) 12 15 ps dL dL (fun p => decide (x ∈ lawLoseBad wd p)) rfl sc_lwi.nd (pd_var 6)
      (blkOk_by (N := NQ) (sc := defScope (top 76)) (own := [("_law_place", 15)]) (by decide +kernel)) (fun _ _ _ _ _ => pg_name (i := 15) sc_lwi.nd rfl (Or.inl rfl))
      (fun p hp _ _ _ _ _ => pdts_one (pdt_is (pdt_cmp (pd_var 3) (pd_l (pdl_call (ok_llb T) (hr.mono (by decide)) (pds_two (pd_var 1) (pd_var 15)) ⟨wd, p, rfl, rfl⟩)) (cmp_inL rfl (by rw [List.all_map]; exact List.all_eq_true.mpr fun _ _ => rfl))) (inD_wish x _))) (fun p _ _ _ _ _ _ _ => pd_var 15) (fun p _ => noL_dL _) (fun σ v => by simp [wipe, List.set_set]) rfl rfl (sw_true rfl rfl rfl (by decide +kernel)) (by omega)) ?_
    have hbm : ∀ q ∈ ps.filter fun p => decide (x ∈ lawLoseBad wd p), q ∈ ps := fun q hq => (List.mem_filter.mp hq).1
    revert hbm
    generalize (ps.filter fun p => decide (x ∈ lawLoseBad wd p)) = bad
    intro hbm
    refine sr_norm [some (.lst (ns.map D.int)), some (dWs wd), some (dW wd), some (dWish x), some (.bl ag), some (dPl P w K fin.2), some (.lst (ps.map dL)), some (.int (at_ : Int)), some (dS oddS), some (.lst ([odd1, odd2].map dL)), some (.lst cs), none, some (.lst (bad.map dL)), none, none, none] ?_
    obtain ⟨pat, hpat⟩ : ∃ pat, ps[at_]? = some pat := ⟨_, List.getElem?_eq_getElem hat2⟩
    have hpm := List.mem_of_getElem? hpat
    have hpa : (ps.map dL)[at_]? = some (dL pat) := by rw [List.getElem?_map, hpat]; rfl
    have hlen : ∀ p ∈ ps, (hist p).length ≤ 998784 := fun p hp => by have := (hh p hp).2; omega
    have hpo : (pathOf hist bad pat (eqD (dWish x) (.str "left"))).length ≤ 1000000 := by
      cases bad with
      | nil => have := hlen pat hpm; show (hist pat).length ≤ _; omega
      | cons b bs =>
        have h1 := hlen b (hbm b List.mem_cons_self)
        show (hist b ++ cond _ _ _).length ≤ _
        rw [List.length_append]
        have h2 : ∀ k : Bool, (cond k [some Deed.begin] []).length ≤ 1 := fun k => by cases k <;> simp
        have := h2 (eqD (dWish x) (.str "left"))
        omega
    refine sr_seq (sn_asg 13 (pd_if (d := .lst ((pathOf hist bad pat (eqD (dWish x) (.str "left"))).map dHw)) (pdt_cmp (pd_var 12) (pd_lst pds_nil) (cmp_neN (units_of hr (by decide)))) (fun hk => by
        cases bad with
        | nil => cases hk
        | cons b bs =>
          have hb := hbm b List.mem_cons_self
          have hlb := hlen b hb
          refine pd_to (pd_l (pdl_catL (pd_getP (units_of hr (by decide)) (pd_var 5) (pd_ixL (pd_var 12) pd_int (atI_nn (j := 0) rfl)) (hh b hb).1) (pd_l (pdl_ifC (pdt_cmp (pd_var 3) pd_str cmp_eq) (pdl_lst (pds_cons pd_str pds_nil)) (pdl_lst pds_nil))) ?_)) ?_
          · rw [List.length_map]
            have h2 : ∀ k : Bool, (cond k [D.str "begin"] []).length ≤ 1 := fun k => by cases k <;> simp
            have := h2 (eqD (dWish x) (.str "left"))
            omega
          · show D.lst ((hist b).map dHw ++ cond (eqD (dWish x) (.str "left")) [D.str "begin"] []) = .lst ((hist b ++ cond (eqD (dWish x) (.str "left")) [some Deed.begin] []).map dHw)
            rw [List.map_append]
            cases eqD (dWish x) (.str "left") <;> rfl) (fun hk => by
        cases bad with
        | cons b bs => cases hk
        | nil => exact pd_getP (units_of hr (by decide)) (pd_var 5) (pd_ixL (pd_var 6) (pd_var 7) (atI_nn hpa)) (hh pat hpm).1)) sc_lwi.nd) ?_
    revert hpo
    generalize pathOf hist bad pat (eqD (dWish x) (.str "left")) = path
    intro hpo
    refine sr_norm [some (.lst (ns.map D.int)), some (dWs wd), some (dW wd), some (dWish x), some (.bl ag), some (dPl P w K fin.2), some (.lst (ps.map dL)), some (.int (at_ : Int)), some (dS oddS), some (.lst ([odd1, odd2].map dL)), some (.lst (cs)), none, some (.lst (bad.map dL)), some (.lst (path.map dHw)), none, none] ?_
    have hpo2 : (path.map dHw).length ≤ 1000000 := by rw [List.length_map]; exact hpo
    have hcc : ∀ lo hi, (cutG path lo hi).length ≤ 1000000 := fun lo hi => Nat.le_trans (cutG_len _ _ _) hpo
    refine sr_seq (sn_asg 10 (pd_lst (ds := [.lst (path.map dHw), .lst (cutD (path.map dHw) none (some (-1))), .lst (path.map dHw ++ [dHw (some .wboth)]), .lst (path.map dHw ++ [dHw (some .lose)]), .lst (path.map dHw ++ [dHw (some .begin)]), .lst ((hist pat).map dHw), .lst [], .lst (cutD (path.map dHw) (some 1) none)])
      (pds_cons (pd_var 13) (pds_cons (pd_l (pdl_slL (pd_var 13) pdo_none (pdo_some pd_neg))) (pds_cons (pd_l (pdl_catL (pd_var 13) (pd_lst (pds_cons (pd_to pd_str rfl) pds_nil)) (by simp only [List.length_singleton]; omega))) (pds_cons (pd_l (pdl_catL (pd_var 13) (pd_lst (pds_cons (pd_to pd_str rfl) pds_nil)) (by simp only [List.length_singleton]; omega)))
        (pds_cons (pd_l (pdl_catL (pd_var 13) (pd_lst (pds_cons (pd_to pd_str rfl) pds_nil)) (by simp only [List.length_singleton]; omega))) (pds_cons (pd_getP (units_of hr (by decide)) (pd_var 5) (pd_ixL (pd_var 6) (pd_var 7) (atI_nn hpa)) (hh pat hpm).1) (pds_two (pd_lst pds_nil) (pd_l (pdl_slL (pd_var 13) (pdo_some pd_int) pdo_none)))))))))) sc_lwi.nd) ?_
    have hcs2 : ∀ c ∈ [D.lst (path.map dHw), .lst (cutD (path.map dHw) none (some (-1))), .lst (path.map dHw ++ [dHw (some .wboth)]), .lst (path.map dHw ++ [dHw (some .lose)]), .lst (path.map dHw ++ [dHw (some .begin)]), .lst ((hist pat).map dHw), .lst [], .lst (cutD (path.map dHw) (some 1) none)], HCase c := by
      intro c hc
      simp only [List.mem_cons, List.not_mem_nil, or_false] at hc
      rcases hc with e | e | e | e | e | e | e | e
      · exact e ▸ hcase (by omega)
      · rw [e, cutD_map]
        exact hcase (by have := hcc none (some (-1)); omega)
      · exact e ▸ hcase1 (by omega)
      · exact e ▸ hcase1 (by omega)
      · exact e ▸ hcase1 (by omega)
      · exact e ▸ hcase (by have := hlen pat hpm; omega)
      · exact e ▸ hcase (hs := []) (Nat.zero_le _)
      · rw [e, cutD_map]
        exact hcase (by have := hcc (some 1) none; omega)
    have hcl2 : [D.lst (path.map dHw), .lst (cutD (path.map dHw) none (some (-1))), .lst (path.map dHw ++ [dHw (some .wboth)]), .lst (path.map dHw ++ [dHw (some .lose)]), .lst (path.map dHw ++ [dHw (some .begin)]), .lst ((hist pat).map dHw), .lst [], .lst (cutD (path.map dHw) (some 1) none)].length ≤ 100 := Nat.le_of_ble_eq_true rfl
    revert hcs2 hcl2
    generalize [D.lst (path.map dHw), .lst (cutD (path.map dHw) none (some (-1))), .lst (path.map dHw ++ [dHw (some .wboth)]), .lst (path.map dHw ++ [dHw (some .lose)]), .lst (path.map dHw ++ [dHw (some .begin)]), .lst ((hist pat).map dHw), .lst [], .lst (cutD (path.map dHw) (some 1) none)] = cs2
    intro hcs2 hcl2
    refine sr_norm [some (.lst (ns.map D.int)), some (dWs wd), some (dW wd), some (dWish x), some (.bl ag), some (dPl P w K fin.2), some (.lst (ps.map dL)), some (.int (at_ : Int)), some (dS oddS), some (.lst ([odd1, odd2].map dL)), some (.lst (cs2)), none, some (.lst (bad.map dL)), some (.lst (path.map dHw)), none, none] ?_
    refine sr_seq (sn_if (ρ1 := [some (.lst (ns.map D.int)), some (dWs wd), some (dW wd), some (dWish x), some (.bl ag), some (dPl P w K fin.2), some (.lst (ps.map dL)), some (.int (at_ : Int)), some (dS oddS), some (.lst ([odd1, odd2].map dL)), some (.lst (cs2 ++ extOf hist bad)), none, some (.lst (bad.map dL)), some (.lst (path.map dHw)), none, none]) (pdt_cmp (pd_var 12) (pd_lst pds_nil) (cmp_neN (units_of hr (by decide)))) (fun hk => by
        cases bad with
        | nil => cases hk
        | cons b bs =>
          have hb := hbm b List.mem_cons_self
          have hlb := hlen b hb
          have hl := hbm _ (List.getLast_mem (List.cons_ne_nil b bs))
          have hll := hlen _ hl
          have ea : (b :: bs).map dL = ((b :: bs).dropLast).map dL ++ [dL ((b :: bs).getLast (List.cons_ne_nil b bs))] := by
            conv => lhs; rw [← List.dropLast_concat_getLast (List.cons_ne_nil b bs)]
            rw [List.map_append]; rfl
          exact sn_seq (sn_asg 10 (pd_l (pdl_catL (pd_var 10) (pd_lst (pds_two (pd_l (pdl_catL (pd_getP (units_of hr (by decide)) (pd_var 5) (pd_ixL (pd_var 12) pd_int (atI_nn (j := 0) rfl)) (hh b hb).1) (pd_lst (pds_cons (pd_to pd_str rfl) pds_nil)) (by rw [List.length_map]; simp only [List.length_singleton]; omega)))
            (pd_l (pdl_catL (pd_getP (units_of hr (by decide)) (pd_var 5) (pd_ixL (pd_var 12) pd_neg (atI_m1 ea)) (hh _ hl).1) (pd_lst (pds_cons (pd_to pd_str rfl) pds_nil)) (by rw [List.length_map]; simp only [List.length_singleton]; omega))))) (by simp only [List.length_cons, List.length_nil]; omega))) sc_lwi.nd) sn_nil) (fun hk => by
        cases bad with
        | cons b bs => cases hk
        | nil => exact sns_to sn_nil (by show _ = _; simp only [extOf, List.append_nil]))) ?_
    have hce : ∀ c ∈ cs2 ++ extOf hist bad, HCase c := by
      intro c hc
      rcases List.mem_append.mp hc with z | z
      · exact hcs2 c z
      · cases bad with
        | nil => cases z
        | cons b bs =>
          have hb := hbm b List.mem_cons_self
          have hlb := hlen b hb
          have hll := hlen _ (hbm _ (List.getLast_mem (List.cons_ne_nil b bs)))
          rcases List.mem_cons.mp z with y | y
          · exact y ▸ hcase1 (by omega)
          · rw [List.mem_singleton.mp y]
            exact hcase1 (by omega)
    have hcel : (cs2 ++ extOf hist bad).length ≤ 200 := by
      rw [List.length_append]
      have : (extOf hist bad).length ≤ 2 := by
        cases bad with
        | nil => exact Nat.zero_le _
        | cons b bs => exact Nat.le_refl _
      omega
    revert hce hcel
    generalize cs2 ++ extOf hist bad = cs3
    intro hce hcel
    refine sr_seq (sn_forL 11 (cs3 ++ [.lst (path.map dHw ++ [dHw none]), .lst (dHw (some .lose) :: path.map dHw)]) (fun c => c) rfl (pd_to (pd_l (pdl_catL (pd_var 10) (pd_lst (pds_two (pd_l (pdl_catL (pd_var 13) (pd_lst (pds_cons (pd_to pd_str rfl) pds_nil)) (by simp only [List.length_singleton]; omega))) (pd_l (pdl_catL (pd_lst (pds_cons (pd_to pd_str rfl) pds_nil)) (pd_var 13) (by simp only [List.length_singleton]; omega))))) (by simp only [List.length_cons, List.length_nil]; omega))) (by rw [List.map_id']; rfl)) PassesOwn.never (pg_name (i := 11) sc_lwi.nd rfl (by first | exact Or.inl rfl | exact Or.inr rfl)) (fun c hc => ?_)) (sr_ret pd_bl)
    have hcp : HCase c := by
      rcases List.mem_append.mp hc with z | z
      · exact hce c z
      · rcases List.mem_cons.mp z with y | y
        · exact y ▸ hcase1 (by omega)
        · rw [List.mem_singleton.mp y]
          exact hcase (hs := some .lose :: path) (by rw [List.length_cons]; omega)
    obtain ⟨hs, rfl, hq1⟩ := hcp
    refine ⟨[some (.lst (ns.map D.int)), some (dWs wd), some (dW wd), some (dWish x), some (.bl ag), some (dPl P w K fin.2), some (.lst (ps.map dL)), some (.int (at_ : Int)), some (dS oddS), some (.lst ([odd1, odd2].map dL)), some (.lst (cs3)), some (.lst (hs.map dHw)), some (.lst (bad.map dL)), some (.lst (path.map dHw)), none, none], by repeat (first | exact Le.nil | refine Le.no ?_ | refine Le.yes ?_), ?_⟩
    show SN _ [some (.lst (ns.map D.int)), some (dWs wd), some (dW wd), some (dWish x), some (.bl ag), some (dPl P w K fin.2), some (.lst (ps.map dL)), some (.int (at_ : Int)), some (dS oddS), some (.lst ([odd1, odd2].map dL)), some (.lst (cs3)), some (.lst (hs.map dHw)), some (.lst (bad.map dL)), some (.lst (path.map dHw)), none, none] _ _
    exact sn_seq (sn_skip (pdt_is (pdt_cmp (pd_ush T (hr.mono (by decide)) (pd_ups false T (hr.mono (by decide)) (pd_var 11)) (pd_var 2) (pd_var 3) (pd_var 4) (by omega)) (pd_call (ok_liu T) (hr.mono (by decide)) (pds_cons (pd_var 1) (pds_cons (pd_var 3) (pds_two (pd_var 4) (pd_var 11)))) ⟨wd, x, ag, hs, rfl, by omega, rfl⟩) cmp_neB) ups_same)) sn_nil
end
end CM
set_option Elab.async false
set_option linter.all false
set_option maxRecDepth 100000
set_option maxHeartbeats 4000000
/-! CMG: way_to. -/
namespace CM
open PySem L2
open PyProof.Rows (envOfC)
/-- the way to a place, as found -/
inductive Way (w : Wd) (ag : Bool) (ks : List (Pl × D)) : Pl → List Deed → Prop
  | base : look ks begin0 = some .non → Way w ag ks begin0 []
  | step {p : Pl} {d : Deed} {hs : List Deed} : look ks (plBy w p ag d) = some (.tup [dL p, dDeed d]) → d ∈ deedsAt p → Way w ag ks p hs → Way w ag ks (plBy w p ag d) (hs ++ [d])
theorem look_get : ∀ {ks : List (Pl × D)} {i : Nat} {q : Pl} {v : D}, (keys ks).Nodup → ks[i]? = some (q, v) → look ks q = some v
  | [], i, q, v, _, e => by simp at e
  | (r, u) :: ks, 0, q, v, _, e => by
    have e2 : (r, u) = (q, v) := Option.some.inj e
    cases e2
    rw [look, if_pos rfl]
  | (r, u) :: ks, i + 1, q, v, hn, e => by
    have hn' : (r :: keys ks).Nodup := hn
    rw [List.nodup_cons] at hn'
    have e2 : ks[i]? = some (q, v) := by simpa using e
    have hm : q ∈ keys ks := List.mem_map.mpr ⟨_, List.mem_of_getElem? e2, rfl⟩
    have hne : ¬ r = q := fun z => hn'.1 (by rw [z]; exact hm)
    rw [look, if_neg hne]
    exact look_get hn'.2 e2
theorem way_ex {w : Wd} {ag : Bool} {ks : List (Pl × D)} (hn : (keys ks).Nodup) (h : PhiP w ag ks) : ∀ (n i : Nat) (q : Pl) (v : D), i < n → ks[i]? = some (q, v) → ∃ hs, Way w ag ks q hs ∧ hs.length ≤ i
  | 0, i, _, _, hi, _ => by omega
  | n + 1, i, q, v, hi, e => by
    have hl := look_get hn e
    rcases h i q v e with ⟨rfl, rfl⟩ | ⟨j, p, v2, d, h1, h2, h3, rfl, rfl⟩
    · exact ⟨[], .base hl, Nat.zero_le _⟩
    · obtain ⟨hs, h4, h5⟩ := way_ex hn h n j p v2 (by omega) h2
      exact ⟨hs ++ [d], .step hl h3 h4, by rw [List.length_append, List.length_singleton]; omega⟩
theorem way_of {w : Wd} {ag : Bool} {ks : List (Pl × D)} (hn : (keys ks).Nodup) (h : PhiP w ag ks) {q : Pl} (hq : q ∈ keys ks) : ∃ hs, Way w ag ks q hs ∧ hs.length ≤ ks.length := by
  obtain ⟨v, hv⟩ := look_of hq
  obtain ⟨i, hi⟩ := List.getElem?_of_mem (look_mem hv)
  have hlt := (List.getElem?_eq_some_iff.mp hi).1
  obtain ⟨hs, h1, h2⟩ := way_ex hn h (i + 1) i q v (Nat.lt_succ_self _) hi
  exact ⟨hs, h1, by omega⟩
theorem gSets_ok2 {K : PySem.W.Frag} {Hm : Hp} : ∀ {is : List Nat} {ds : List D} {xs : List V} {σ : L2.St} {H : Hp} {ρ : Kn} {Q : L2.St → Hp → Prop}, is.length = ds.length → EA K Hm σ ρ → AtL K Hm ds xs → (∀ σ', EA K Hm σ' (setK ρ is ds) → Q σ' H) → gSets is xs σ H Q
  | [], [], xs, σ, H, ρ, Q, _, ea, al, q => by
    simp only [AtL] at al
    exact ⟨al, q σ ea⟩
  | i :: is, d :: ds, xs, σ, H, ρ, Q, hl, ea, al, q => by
    simp only [AtL] at al
    obtain ⟨x, r, rfl, h2, h3⟩ := al
    exact ⟨x, r, rfl, gSets_ok2 (by simpa using hl) (ea.set h2) h3 q⟩
  | [], _ :: _, _, _, _, _, _, hl, _, _, _ => by simp at hl
  | _ :: _, [], _, _, _, _, _, hl, _, _, _ => by simp at hl
section
variable {X : Cx} {ρ : Kn} {l : Addr} {ds es : List D} {e c : Expr} {body : List Stmt} {pos p : Pos}
theorem so_unp (is : List Nat) {ts : List Expr} {kk n : Nat} (h : PD X ρ e (.tup es)) (nl : noL (.tup es) = true) (hc : X.calm = true) (hg : PGs X ts (gSets is)) (hl : is.length = es.length := by rfl) (hl2 : es.length = n := by rfl)
    (hn : (assignEach ts X.env).length = n := by rfl) (hst : (assignEach ts X.env).findIdx? (·.1) = none := by rfl)
    (hs : swapsWithSole [.Tuple ts kk p] e pos.line X.env = pure false := by rfl) (hw : swappedStores [.Tuple ts kk p] e X.env = pure none := by rfl)
    (h1 : (assignEach [.Tuple ts kk p] X.env).map (·.2) = [assign (.Tuple ts kk p) X.env] := by rfl) : PS X (.Assign [.Tuple ts kk p] e pos) (tO X.K l ρ ds (setK ρ is es) ds) :=
  ps_w (ps_asg h (pg_tup hc hg hn hst) hs hw h1) fun D σ H ⟨ea, ⟨ys, hy, al⟩, q⟩ => ⟨ea.same mask_le, fun v H1 e1 a1 => by
    have a2 := a1.ties (ties_mask (e1 _ _ hy)) nl
    simp only [At] at a2
    obtain ⟨a, xs, rfl, hx, bl⟩ := a2
    exact ⟨a, xs, rfl, sqT_same mask_le hx, by rw [bl.length, hl2], gSets_ok2 hl (ea.same (mask_same e1)) bl fun σ' ea2 => q σ' H1 ys (mask_same e1) ea2 (e1 _ _ hy) (al.same (mask_same e1))⟩⟩
/-- back along the way -/
theorem so_way {w : Wd} {ag : Bool} {ks : List (Pl × D)} {q : Pl} {hs : List Deed} (ρw : Pl → Kn) (ρ3 : Pl → Deed → Kn) (hW : Way w ag ks q hs) (hlen : hs.length ≤ 1000000) (hp : PassesOwn (model X.prog X.w) X.A X.env X.xe)
    (hc0 : look ks begin0 = some .non → PDT X (ρw begin0) c false) (hc1 : ∀ p d, look ks (plBy w p ag d) = some (.tup [dL p, dDeed d]) → PDT X (ρw (plBy w p ag d)) c true)
    (hb : ∀ p d (acc : List Deed), acc.length ≤ 1000000 → look ks (plBy w p ag d) = some (.tup [dL p, dDeed d]) → PSs X body (tO X.K l (ρw (plBy w p ag d)) (acc.map dDeed) (ρ3 p d) ((acc ++ [d]).map dDeed))) (hle : ∀ p d, Le (ρw p) (ρ3 p d)) :
    PS X (.While c body [] pos) (tO X.K l (ρw q) [] (ρw begin0) (hs.reverse.map dDeed)) := by
  refine ps_w (ps_while (tc := fun σ H Q => ∃ t, PT X c t ∧ t σ H Q) (tb := fun D σ H => ∃ t, PSs X body t ∧ t D σ H) hp ⟨fun pins s σ H Q I ⟨t, ht, z⟩ => ht.run pins s σ H Q I z⟩ ⟨fun pins s σ H D I ⟨t, ht, z⟩ => ht.run pins s σ H D I z⟩) fun D σ H ⟨ea, ⟨ys, hl, al⟩, z⟩ => ?_
  refine ⟨fun m σ' H' => ∃ (p : Pl) (h2 acc : List Deed), m = h2.length ∧ Way w ag ks p h2 ∧ h2 ++ acc.reverse = hs ∧ Same (mask l H) (mask l H') ∧ EA X.K (mask l H') σ' (ρw p) ∧ ∃ ys, H' l = some (.lst ys) ∧ AtL X.K (mask l H') (acc.map dDeed) ys, ⟨hs.length, q, hs, [], rfl, hW, by simp, Same.refl _, ea, ys, hl, al⟩, ?_⟩
  rintro m σ' H' ⟨p, h2, acc, rfl, hw2, heq, e1, ea1, ys1, hl1, al1⟩
  cases hw2 with
  | base hv =>
    refine ⟨_, hc0 hv, ea1.same mask_le, fun H2 e2 => iteF ?_⟩
    have er : acc = hs.reverse := by rw [← heq]; simp
    rw [er] at al1
    exact z σ' H2 ys1 (e1.trans (mask_same e2)) (ea1.same (mask_same e2)) (e2 _ _ hl1) (al1.same (mask_same e2))
  | @step p d h3 hv hd hw3 =>
    have hacc : acc.length ≤ 1000000 := by
      have := congrArg List.length heq
      simp only [List.length_append, List.length_reverse] at this
      omega
    refine ⟨_, hc1 p d hv, ea1.same mask_le, fun H2 e2 => iteT ⟨fun σ3 H3 => Same (mask l H) (mask l H3) ∧ EA X.K (mask l H3) σ3 (ρ3 p d) ∧ ∃ ys, H3 l = some (.lst ys) ∧ AtL X.K (mask l H3) ((acc ++ [d]).map dDeed) ys, fun σ3 H3 ⟨k1, k2, k3⟩ => ⟨h3.length, ?_, p, h3, acc ++ [d], rfl, hw3, ?_, k1, k2.le (hle p d), k3⟩, _, hb p d acc hacc hv, ea1.same (mask_same e2), ⟨ys1, e2 _ _ hl1, al1.same (mask_same e2)⟩, fun σ3 H3 ys3 k1 k2 k3 k4 => ⟨(e1.trans (mask_same e2)).trans k1, k2, ys3, k3, k4⟩⟩⟩
    · rw [List.length_append, List.length_singleton]; omega
    · rw [← heq]; simp
end
section
variable {P : Program} {w : World} {K : PySem.W.Frag} {mg : Str → Option Value} {base : Heap}
theorem sc_wto : FnScope ["ways", "state", "found", "deed"] ["ways", "state"] (defScope (top 28)) := ⟨rfl, rfl, rfl, by decide +kernel, rfl, by decide +kernel, by decide +kernel⟩
def rWto (P : Program) (w : World) (K : PySem.W.Frag) (ds es : List D) : Prop := ∃ (wd : Wd) (ag : Bool) (ks : List (Pl × D)) (q : Pl) (hs : List Deed), ds = [dPl P w K ks, dL q] ∧ Way wd ag ks q hs ∧ hs.length ≤ 1000000 ∧ es = hs.map dDeed
theorem tO_L {X : Cx} {l : Addr} {ρ : Kn} {ds : List D} {rest : List Stmt} (ix : Nat) {e : Expr} {pos : Pos} {es : List D} (h : PDL X (ρ.set ix (some (.lst ds))) e es) (hρ : ρ[ix]? = some (some (.adr l)) := by rfl) : PSs X (.Return (some e) pos :: rest) (fun D σ H => EA X.K (mask l H) σ ρ ∧ (∃ ys, H l = some (.lst ys) ∧ AtL X.K (mask l H) ds ys) ∧ ∀ c xs H', H c = none → Same H H' → H' c = some (.lst xs) → AtL X.K H' es xs → D.rt (.ref c) H') :=
  pss_w (pss_cons (ps_ret h) pss_never') fun D σ H ⟨ea, ⟨ys, hl, al⟩, q⟩ => by
    obtain ⟨v, hv1, hv2⟩ := ea.2 ix _ hρ
    simp only [At] at hv2
    subst hv2
    have q2 := (ea.same mask_le).set (i := ix) (at_lst (SqL.of hl) (al.same mask_le))
    rw [set_self hv1] at q2
    exact ⟨q2, fun c xs H1 n e1 hx bl => q c xs H1 n e1 hx bl⟩
theorem ok_wto (T : Top K w mg) : Dok P w K mg base 1 "way_to" ["ways", "state"] (spDL K (rWto P w K)) :=
  dokL T.dway_to sc_wto (fun ds d ⟨w, ag, ks, q, hs, e, _⟩ => by subst e; rfl) (fun _ _ _ _ _ _ us hl => match us, hl with | [_, _], _ => rfl) fun ds d ⟨wd, ag, ks, q, hs, e, hW, hz, ed⟩ f cdv A outer s' H E hr => by
    subst e ed
    refine pss_w (pss_cons (ps_asg (pe_lst pa_nil) (pg_name (i := 2) sc_wto.nd rfl (Or.inl rfl)) rfl rfl rfl) (u := fun D σ H => ∃ l, tO K l [some (dPl P w K ks), some (dL q), some (.adr l), none] [] [some (dPl P w K ks), some (dL begin0), some (.adr l), none] (hs.reverse.map dDeed) { D with nx := fun σ' H' => EA K (mask l H') σ' [some (dPl P w K ks), some (dL begin0), some (.adr l), none] ∧ (∃ ys, H' l = some (.lst ys) ∧ AtL K (mask l H') (hs.reverse.map dDeed) ys) ∧ ∀ c xs H2, H' c = none → Same H' H2 → H2 c = some (.lst xs) → AtL K H2 (hs.map dDeed) xs → D.rt (.ref c) H2 } σ H)
      (pss_w (pss_cons (t := fun D σ H => ∃ l, tO K l [some (dPl P w K ks), some (dL q), some (.adr l), none] [] [some (dPl P w K ks), some (dL begin0), some (.adr l), none] (hs.reverse.map dDeed) D σ H) (u := fun D σ' H' => ∃ l, EA K (mask l H') σ' [some (dPl P w K ks), some (dL begin0), some (.adr l), none] ∧ (∃ ys, H' l = some (.lst ys) ∧ AtL K (mask l H') (hs.reverse.map dDeed) ys) ∧ ∀ c xs H2, H' c = none → Same H' H2 → H2 c = some (.lst xs) → AtL K H2 (hs.map dDeed) xs → D.rt (.ref c) H2) ⟨fun pins s σ H D I ⟨l, z⟩ => (so_way (fun p => [some (dPl P w K ks), some (dL p), some (.adr l), none]) (fun p d => [some (dPl P w K ks), some (dL p), some (.adr l), some (dDeed d)]) hW hz PassesOwn.never (fun hv => ?_) (fun p d hv => ?_) (fun p d acc ha hv => ?_) (fun p d => by repeat (first | exact Le.nil | refine Le.no ?_ | refine Le.yes ?_))).run pins s σ H D I z⟩
        ⟨fun pins s σ H D I ⟨l, z⟩ => (tO_L 2 (es := hs.map dDeed) (pdl_to (pdl_rev (pd_var 2)) (by rw [List.map_reverse, List.reverse_reverse]))).run pins s σ H D I z⟩) fun D σ H ⟨l, z1, z2, z3⟩ => ⟨l, z1, z2, fun σ' H' ys' k1 k2 k3 k4 => ⟨l, z3 σ' H' ys' k1 k2 k3 k4⟩⟩)) fun D σ H z => ?_
    · exact pdt_cmp (pd_getP (units_of hr (by decide)) (pd_var 0) (pd_var 1) hv) pd_non cmp_notN
    · exact pdt_cmp (pd_getP (units_of hr (by decide)) (pd_var 0) (pd_var 1) hv) pd_non cmp_notN
    · refine so_seq (so_unp [1, 3] (es := [dL p, dDeed d]) (pd_getP (units_of hr (by decide)) (pd_var 0) (pd_var 1) hv) (by simp [noL, noLs, noL_dL, dDeed]) rfl (pgs_cons (pg_name (i := 1) sc_wto.nd rfl (Or.inl rfl)) (pgs_cons (pg_name (i := 3) sc_wto.nd rfl (Or.inl rfl)) pgs_nil))) ?_
      show PSs _ _ (tO _ l [some (dPl P w K ks), some (dL p), some (.adr l), some (dDeed d)] _ _ _)
      exact so_toS (so_seq (so_app 2 (pd_var 3) rfl (by rw [List.length_map]; omega)) so_nil) (by rw [List.map_append]; rfl)
    · refine ⟨Nat.zero_le _, fun l hl => ⟨l, ?_, ⟨[], upd_same, AtL.nil⟩, fun σ' H' ys' e ea hy al => ⟨ea, ⟨ys', hy, al⟩, fun c xs H2 n e2 hx bl => z.2 c xs H2 ?_ ?_ hx bl⟩⟩⟩
      · rw [mask_upd, mask_new hl]
        exact z.1.set (by simp only [At])
      · rw [mask_upd] at e
        exact Same.free (mask_out hl e) n
      · rw [mask_upd] at e
        exact (mask_out hl e).trans e2
end
end CM
set_option Elab.async false
set_option linter.all false
set_option maxRecDepth 100000
set_option maxHeartbeats 4000000
/-! CMA: borne, bear, places_after. -/
namespace CM
open PySem L2
open PyProof.Rows (envOfC)
section
variable {X : Cx} {ρ : Kn} {ks : List (Pl × D)} {tg iter : Expr} {body rest : List Stmt} {pos : Pos}
theorem sn_forK (i : Nat) (hc : X.calm = true) (hi : PD X ρ iter (dPl X.prog X.w X.K ks)) (hp : PassesOwn (model X.prog X.w) X.A X.env X.xe) (hg : PG X tg (gName i))
    (hT : ∀ p, p ∈ keys ks → ∃ ρ3, Le ρ ρ3 ∧ SN X (ρ.set i (some (dL p))) body ρ3) (hs : ∀ x, foldedSetIterable iter X.env x = pure x := by intro _; rfl) : SN1 X ρ (.For tg iter body [] pos) ρ := by
  refine ps_w (ps_for (tb := fun D σ H => ∃ p ρ3, p ∈ keys ks ∧ Le ρ ρ3 ∧ SN X (ρ.set i (some (dL p))) body ρ3 ∧ tN X.K (ρ.set i (some (dL p))) ρ3 D σ H) hp hc (pi_keysP hi) hg
    ⟨fun pins s σ H D I ⟨p, ρ3, _, _, hb, q⟩ => hb.run pins s σ H D I q⟩ hs) fun D σ H q => ⟨q.1, fun v H1 e1 a1 => ?_⟩
  obtain ⟨a, rfl, g⟩ := dPl_at a1
  obtain ⟨es, ep, en⟩ := ens_of g
  refine ⟨a, es, ep, ks, rfl, en, ?_⟩
  refine for_keysP (g := gName i) (tb := fun D σ H => ∃ p ρ3, p ∈ keys ks ∧ Le ρ ρ3 ∧ SN X (ρ.set i (some (dL p))) body ρ3 ∧ tN X.K (ρ.set i (some (dL p))) ρ3 D σ H) en
    (fun n σ H' => Same H1 H' ∧ EA X.K H' σ ρ) ⟨Same.refl _, q.1.same e1⟩ (fun n σ H' p => ⟨p.1 _ _ en.1, p.1⟩) (fun n p v x σ' H' hn ax pv => ?_) (fun σ' H' pv => q.2 σ' H' (e1.trans pv.1) pv.2)
  obtain ⟨sm, ea⟩ := pv
  have hm : p ∈ keys ks := List.mem_map.mpr ⟨_, List.mem_of_getElem? hn, rfl⟩
  obtain ⟨ρ3, hle, hb⟩ := hT p hm
  exact ⟨p, ρ3, hm, hle, hb, ea.set ax, fun σ3 H3 e3 ea3 => ⟨sm.trans e3, ea3.le hle⟩⟩
end
/-! ### what borne hands back -/
def isBad (wd : Wd) (x : Wish) (p : Pl) : Bool := standsBad p.st x || beginsBad wd p x
def histOf (x : Wish) (hist : Pl → List Deed) (p : Pl) : List (Option Deed) := cond (standsBad p.st x) ((hist p).map some) ((hist p).map some ++ [some .begin])
def BornQ (K : PySem.W.Frag) (ps : List Pl) (r : Option (List (Option Deed))) (H : Hp) (Q : VK) : Prop := match r with
  | none => ∀ (a dx l : Addr) (ys : List V) (H' : Hp), H a = none → H l = none → Same H H' → H' a = some (.ins (He.ga K "Calm") dx [("places", .ref l)]) → H' l = some (.lst ys) → AtL K H' (ps.map dL) ys → Q (.ref a) H'
  | some hs => ∀ v H', Same H H' → At K H' (dUps K hs) v → Q v H'
theorem BornQ.same {K : PySem.W.Frag} {ps : List Pl} {r : Option (List (Option Deed))} {H H1 : Hp} {Q : VK} (e : Same H H1) (h : BornQ K ps r H Q) : BornQ K ps r H1 Q := by
  cases r with
  | none => exact fun a dx l ys H' h1 h2 e2 => h a dx l ys H' (Same.free e h1) (Same.free e h2) (e.trans e2)
  | some hs => exact fun v H' e2 => h v H' (e.trans e2)
def tBo (K : PySem.W.Frag) (ρ : Kn) (ps : List Pl) (r : Option (List (Option Deed))) : TS := fun D σ H => EA K H σ ρ ∧ BornQ K ps r H D.rt
theorem sbo_seq {X : Cx} {ρ ρ1 : Kn} {s : Stmt} {rest : List Stmt} {ps : List Pl} {r : Option (List (Option Deed))} (h : SN1 X ρ s ρ1) (t : PSs X rest (tBo X.K ρ1 ps r)) : PSs X (s :: rest) (tBo X.K ρ ps r) :=
  pss_w (pss_cons h t) fun D σ H ⟨ea, q⟩ => ⟨ea, fun σ1 H1 e1 ea1 => ⟨ea1, q.same e1⟩⟩
def resOf (wd : Wd) (x : Wish) (ps : List Pl) (hist : Pl → List Deed) : Option (List (Option Deed)) := (ps.find? (isBad wd x)).map (histOf x hist)
def Found (wd : Wd) (ag : Bool) (fin : BSt) (hist : Pl → List Deed) : Prop := Runs valP wd ag st0P fin ∧ ∀ q, q ∈ keys fin.2 → Way wd ag fin.2 q (hist q) ∧ (hist q).length ≤ 1000000
theorem found_ex (wd : Wd) (ag : Bool) : ∃ fin hist, Found wd ag fin hist := by
  obtain ⟨fin, hR⟩ := runs_ex (keepsP wd ag) (mu st0P) st0P (Nat.le_refl _) (loop0 (phiP0 wd ag))
  obtain ⟨hF, _⟩ := runs_loop (keepsP wd ag) hR (loop0 (phiP0 wd ag))
  have q : ∀ p, ∃ hs : List Deed, p ∈ keys fin.2 → Way wd ag fin.2 p hs ∧ hs.length ≤ 1000000 := fun p => by
    by_cases hp : p ∈ keys fin.2
    · obtain ⟨hs, h1, h2⟩ := way_of hF.inv.nd hF.inv.phi hp
      exact ⟨hs, fun _ => ⟨h1, by have := hF.inv.len; omega⟩⟩
    · exact ⟨[], fun z => absurd z hp⟩
  obtain ⟨hist, hh⟩ := Classical.axiomOfChoice q
  exact ⟨fin, hist, hR, hh⟩
def spB (K : PySem.W.Frag) : Sp := fun vs H Q _ => ∃ (wd : Wd) (x : Wish) (ag : Bool) (fin : BSt) (hist : Pl → List Deed), AtL K H [dW wd, dWish x, .bl ag] vs ∧ Found wd ag fin hist ∧ BornQ K (keys fin.2) (resOf wd x (keys fin.2) hist) H Q
theorem find_at {α : Type} {f : α → Bool} : ∀ {xs : List α} {j : Nat} {p : α}, xs[j]? = some p → (∀ q ∈ xs.take j, f q = false) → f p = true → xs.find? f = some p
  | [], j, p, h, _, _ => by simp at h
  | x :: xs, 0, p, h, _, h3 => by
    have e : x = p := Option.some.inj h
    subst e
    rw [List.find?_cons, h3]
  | x :: xs, j + 1, p, h, h2, h3 => by
    rw [List.take_succ_cons] at h2
    rw [List.find?_cons, h2 x List.mem_cons_self]
    exact find_at (by simpa using h) (fun q hq => h2 q (List.mem_cons_of_mem _ hq)) h3
section
variable {P : Program} {w : World} {K : PySem.W.Frag} {mg : Str → Option Value} {base : Heap}
theorem sc_bor : FnScope ["rules", "wish", "again", "ways", "place"] ["rules", "wish", "again"] (defScope (top 51)) := ⟨rfl, rfl, rfl, by decide +kernel, rfl, by decide +kernel, by decide +kernel⟩
theorem ok_bor (T : Top K w mg) : Dok P w K mg base 8 "borne" ["rules", "wish", "again"] (spB K) :=
  dok T.dborne sc_bor (fun vs H Q E ⟨wd, x, ag, fin, hist, al, _⟩ => by rw [al.length]; rfl) (fun _ _ _ _ _ _ us hl => match us, hl with | [_, _, _], _ => rfl) fun f cdv A outer s' H vs Q E hr ⟨wd, x, ag, fin, hist, al, ⟨hR, hW⟩, q⟩ => by
    have key : PSs (CxD P w K mg base ["rules", "wish", "again", "ways", "place"] "borne" (top 51) f cdv A outer s' H E) (defBody (top 51)) (tBo K (kn0 ["rules", "wish", "again", "ways", "place"] [dW wd, dWish x, .bl ag]) (keys fin.2) (resOf wd x (keys fin.2) hist)) := by
      refine sbo_seq (sn_asg 3 (pd_call (ok_alp T) (hr.mono (by decide)) (pds_two (pd_var 0) (pd_var 2)) ⟨wd, ag, fin, rfl, hR, rfl⟩) sc_bor.nd) ?_
      show PSs _ _ (tBo _ [some (dW wd), some (dWish x), some (.bl ag), some (dPl P w K fin.2), none] _ _)
      cases hf : resOf wd x (keys fin.2) hist with
      | none =>
        have hall : ∀ p ∈ keys fin.2, isBad wd x p = false := fun p hp => by
          have h1 : (keys fin.2).find? (isBad wd x) = none := by
            unfold resOf at hf
            cases h : (keys fin.2).find? (isBad wd x) with
            | none => rfl
            | some y => rw [h] at hf; cases hf
          have := List.find?_eq_none.mp h1 p hp
          simpa using this
        refine sbo_seq (sn_forK 4 rfl (pd_var 3) PassesOwn.never (pg_name (i := 4) sc_bor.nd rfl (Or.inl rfl)) (fun p hp => ?_)) ?_
        · have h := hall p hp
          unfold isBad at h
          rw [Bool.or_eq_false_iff] at h
          refine ⟨[some (dW wd), some (dWish x), some (.bl ag), some (dPl P w K fin.2), some (dL p)], by repeat (first | exact Le.nil | refine Le.no ?_ | refine Le.yes ?_), ?_⟩
          show SN _ [some (dW wd), some (dWish x), some (.bl ag), some (dPl P w K fin.2), some (dL p)] _ _
          exact sn_seq (sn_skip (pdt_is (pdt_val (pd_call (ok_sta T) (hr.mono (by decide)) (pds_two (pd_ix (pd_var 4) pd_int rfl) (pd_var 1)) ⟨p.st, x, rfl, rfl⟩)) h.1)) (sn_seq (sn_skip (pdt_is (pdt_val (pd_call (ok_bgw T) (hr.mono (by decide)) (pds_cons (pd_var 0) (pds_two (pd_var 4) (pd_var 1))) ⟨wd, p, x, rfl, rfl⟩)) h.2)) sn_nil)
        · exact pss_w (pss_cons (ps_ret (pe_calm T (hr.mono (by decide)) (pd_to (pd_l (pdl_listPl rfl T.flist (pd_var 3))) (show _ = D.lst ((keys fin.2).map dL) by unfold keys; rw [List.map_map]; rfl)))) pss_never') fun D σ H ⟨ea, q⟩ => ⟨ea, q⟩
      | some hs =>
        refine sr_forK 4 (fun p => !isBad wd x p) rfl (pd_var 3) PassesOwn.never (pg_name (i := 4) sc_bor.nd rfl (Or.inl rfl)) (fun p hp hc => ?_) (fun j p hj ht hc => ?_) (fun ha => ?_)
        · have h : isBad wd x p = false := by simpa using hc
          unfold isBad at h
          rw [Bool.or_eq_false_iff] at h
          refine ⟨[some (dW wd), some (dWish x), some (.bl ag), some (dPl P w K fin.2), some (dL p)], by repeat (first | exact Le.nil | refine Le.no ?_ | refine Le.yes ?_), ?_⟩
          show SN _ [some (dW wd), some (dWish x), some (.bl ag), some (dPl P w K fin.2), some (dL p)] _ _
          exact sn_seq (sn_skip (pdt_is (pdt_val (pd_call (ok_sta T) (hr.mono (by decide)) (pds_two (pd_ix (pd_var 4) pd_int rfl) (pd_var 1)) ⟨p.st, x, rfl, rfl⟩)) h.1)) (sn_seq (sn_skip (pdt_is (pdt_val (pd_call (ok_bgw T) (hr.mono (by decide)) (pds_cons (pd_var 0) (pds_two (pd_var 4) (pd_var 1))) ⟨wd, p, x, rfl, rfl⟩)) h.2)) sn_nil)
        · have hb : isBad wd x p = true := by simpa using hc
          have hfi : (keys fin.2).find? (isBad wd x) = some p := find_at hj (fun q hq => by simpa using ht q hq) hb
          have hes : histOf x hist p = hs := by
            unfold resOf at hf
            rw [hfi] at hf
            exact Option.some.inj hf
          obtain ⟨hw1, hw2⟩ := hW p (List.mem_of_getElem? hj)
          subst hes
          show SR _ [some (dW wd), some (dWish x), some (.bl ag), some (dPl P w K fin.2), some (dL p)] _ _
          unfold isBad at hb
          refine sr_if (k := standsBad p.st x) (pdt_val (pd_call (ok_sta T) (hr.mono (by decide)) (pds_two (pd_ix (pd_var 4) pd_int rfl) (pd_var 1)) ⟨p.st, x, rfl, rfl⟩)) (fun h => ?_) (fun h => ?_)
          · refine sr_ret (pd_to (pd_ups false T (hr.mono (by decide)) (hs := (hist p).map some) (pd_to (pd_l (pdl_call (ok_wto T) (hr.mono (by decide)) (pds_two (pd_var 3) (pd_var 4)) ⟨wd, ag, fin.2, p, hist p, rfl, hw1, hw2, rfl⟩)) (show _ = dSq false _ by rw [List.map_map]; rfl))) (by unfold histOf; rw [h]; rfl))
          · rw [h, Bool.false_or] at hb
            refine sr_if (k := true) (pdt_is (pdt_val (pd_call (ok_bgw T) (hr.mono (by decide)) (pds_cons (pd_var 0) (pds_two (pd_var 4) (pd_var 1))) ⟨wd, p, x, rfl, rfl⟩)) hb) (fun _ => ?_) (fun z => by cases z)
            refine sr_ret (pd_to (pd_ups false T (hr.mono (by decide)) (hs := (hist p).map some ++ [some .begin]) (pd_to (pd_l (pdl_catL (pd_l (pdl_call (ok_wto T) (hr.mono (by decide)) (pds_two (pd_var 3) (pd_var 4)) ⟨wd, ag, fin.2, p, hist p, rfl, hw1, hw2, rfl⟩)) (pd_lst (pds_cons pd_str pds_nil)) (by rw [List.length_map]; simp only [List.length_singleton]; omega))) (show _ = dSq false _ by rw [List.map_append, List.map_map]; rfl))) (by unfold histOf; rw [h]; rfl))
        · exfalso
          have hn : (keys fin.2).find? (isBad wd x) = none := List.find?_eq_none.mpr fun p hp => by simpa using ha p hp
          unfold resOf at hf
          rw [hn] at hf
          cases hf
    exact ⟨_, key, EA.start al, q⟩
end
end CM
set_option Elab.async false
set_option linter.all false
set_option maxRecDepth 100000
set_option maxHeartbeats 4000000
/-! CMK: bear, places_after and their calls. -/
namespace CM
open PySem L2
open PyProof.Rows (envOfC)
structure DokA (P : Program) (w : World) (K : PySem.W.Frag) (mg : Str → Option Value) (base : Heap) (k : Nat) (x : Str) (ps : List Str) (sp : Sp) : Prop where
  ex : ∃ f fd mv, FnOk P w K mg base CX0 k f fd ps sp ∧ mg x = some (.ref f) ∧ PySem.W.keepIn K (.ref f) = true ∧ KBn K fd ps 2 ["again"] (fun us ws => us ++ (mv ++ ws)) (fun vs zs => vs ++ zs)
theorem tyLst {K : PySem.W.Frag} {ds : List D} : ∀ H v, At K H (.lst ds) v → TyX K H v (.type "list") := fun H v h => by
  simp only [At] at h
  obtain ⟨a, xs, rfl, hx, _⟩ := h
  rcases hx with (h | ⟨o, h⟩) | ⟨o, its, n, h, c, _⟩
  · exact .base (.lst h)
  · exact .base (.frz h)
  · exact .kList h c
section
variable {X : Cx} {ρ : Kn} {a e e1 e2 e3 : Expr} {ds es : List D} {pos p tpos p2 p3 : Pos} {kk : Nat} {rest : List Stmt}
/-- isinstance(a list, (list, tuple)) -/
theorem pd_isiLT (fi : X.mg "isinstance" = none) (fl : X.mg "list" = none) (ft : X.mg "tuple" = none) (ha : PD X ρ a (.lst ds)) (hgi : Gl X "isinstance" := by exact rfl) (hg1 : Gl X "list" := by exact rfl) (hg2 : Gl X "tuple" := by exact rfl)
    (h1 : starEach [a, .Tuple [.Name "list" p2, .Name "tuple" p3] kk tpos] X.env = (false, eval a X.env) :: starEach [.Tuple [.Name "list" p2, .Name "tuple" p3] kk tpos] X.env := by rfl) (h2 : starEach [Expr.Tuple [.Name "list" p2, .Name "tuple" p3] kk tpos] X.env = (false, eval (Expr.Tuple [.Name "list" p2, .Name "tuple" p3] kk tpos) X.env) :: starEach [] X.env := by rfl)
    (h3 : starEach [Expr.Name "list" p2, .Name "tuple" p3] X.env = (false, eval (Expr.Name "list" p2) X.env) :: starEach [.Name "tuple" p3] X.env := by rfl) (h4 : starEach [Expr.Name "tuple" p3] X.env = (false, eval (Expr.Name "tuple" p3) X.env) :: starEach [] X.env := by rfl)
    (hpl : (backTo pos (starEach [Expr.Tuple [.Name "list" p2, .Name "tuple" p3] kk tpos] X.env)).any (·.1) = false := by rfl) : PD X ρ (.Call (.Name "isinstance" p) [a, .Tuple [.Name "list" p2, .Name "tuple" p3] kk tpos] [] pos) (.bl true) :=
  pe_w (pe_callB call_isiT hgi fi (by decide +kernel) (pa_cons ha (pa_cons (pe_tup (pa_cons (pe_bltn (v := .ty "list") hg1 fl (by decide +kernel) rfl) (pa_cons (pe_bltn (v := .ty "tuple") hg2 ft (by decide +kernel) rfl) pa_nil h4) h3)) pa_nil h2) h1) (by decide) (by decide) h1 hpl) fun σ H Q q => ⟨q.1, fun v H1 e1 a1 =>
    ⟨by decide, fun tp hp => ⟨v, tp, [.ty "list", .ty "tuple"], .type "list", [.type "list", .type "tuple"], true, rfl, upd_same, .cons (.ty "list") (.cons (.ty "tuple") .nil), tyLst _ v (a1.same (same_new hp)), kitAny_cons (kit_ty (r := true) (by decide +kernel)) (fun z => nomatch z) (fun _ => rfl), q.2 _ _ (e1.trans (same_new hp)) (by simp only [At])⟩⟩⟩
/-- x = a fresh list, own from here on -/
theorem srl_ownC (ix : Nat) {l : Addr} {y : Str} (h : PDL X ρ e ds) (nl : noLs ds = true) (nd : X.N.Nodup) (t : ∀ l, PSs X rest (tOL X.K l (ρ.set ix (some (.adr l))) ds es)) (hN : X.N[ix]? = some y := by rfl) (hx : Loc X.env.scope y := by first | exact Or.inl rfl | exact Or.inr rfl)
    (hf : X.fn y = true ∨ X.env.scope.names.lookup y = some .local := by first | exact .inl rfl | exact .inr rfl)
    (hs : swapsWithSole [.Name y p] e pos.line X.env = pure false := by rfl) (hw : swappedStores [.Name y p] e X.env = pure none := by rfl)
    (h1 : (assignEach [.Name y p] X.env).map (·.2) = [assign (.Name y p) X.env] := by rfl) : SRL X ρ (.Assign [.Name y p] e pos :: rest) es := by
  refine pss_w (pss_cons (ps_asg h (pg_name nd hN hx hf) hs hw h1) (u := fun D σ H => ∃ l, tOL X.K l (ρ.set ix (some (.adr l))) ds es D σ H) ⟨fun pins s σ H D I ⟨l, q⟩ => (t l).run pins s σ H D I q⟩) fun D σ H q => ?_
  refine ⟨q.1, fun l xs H1 hl e1 hx al => ⟨l, ?_, ⟨xs, hx, al.ties (ties_mask hx) nl⟩, fun ys H' e2 hy bl => q.2 l ys H' hl ?_ hy bl⟩⟩
  · have z := q.1
    rw [← mask_new hl] at z
    exact (z.same (mask_same e1)).set (by simp only [At])
  · exact mask_out hl ((mask_same e1).trans e2)
theorem sol_skip (ix : Nat) {l : Addr} {c : Expr} {st : List Stmt} (hc : PDT X (ρ.set ix (some (.lst ds))) c false) (t : PSs X rest (tOL X.K l ρ ds es)) (hρ : ρ[ix]? = some (some (.adr l)) := by rfl) : PSs X (.If c st [] pos :: rest) (tOL X.K l ρ ds es) :=
  pss_w (pss_cons (ps_if hc pss_never' pss_nil) t) fun D σ H ⟨ea, ⟨ys, hl, al⟩, q⟩ => by
    obtain ⟨v, hv1, hv2⟩ := ea.2 ix _ hρ
    simp only [At] at hv2
    subst hv2
    have q2 := (ea.same mask_le).set (i := ix) (at_lst (SqL.of hl) (al.same mask_le))
    rw [set_self hv1] at q2
    exact ⟨q2, fun H1 e1 => iteF ⟨ea.same (mask_same e1), ⟨ys, e1 _ _ hl, al.same (mask_same e1)⟩, fun xs H2 e2 => q xs H2 ((mask_same e1).trans e2)⟩⟩
end
section
variable {P : Program} {w : World} {K : PySem.W.Frag} {mg : Str → Option Value} {base : Heap}
theorem sc_bea : FnScope ["rules", "wish", "again"] ["rules", "wish", "again"] (defScope (top 53)) := ⟨rfl, rfl, rfl, by decide +kernel, rfl, by decide +kernel, by decide +kernel⟩
theorem sc_paf : FnScope ["rules", "history", "again", "found"] ["rules", "history", "again"] (defScope (top 52)) := ⟨rfl, rfl, rfl, by decide +kernel, rfl, by decide +kernel, by decide +kernel⟩
theorem ok_bea (T : Top K w mg) : DokA P w K mg base 9 "bear" ["rules", "wish", "again"] (spB K) := by
  obtain ⟨f, fd, F, hm⟩ := T.dbear
  obtain ⟨mv, kb⟩ := F.kbinds0 (ps := ["rules", "wish", "again"]) 2 ["again"] [] (fun us mz ws => us ++ (mz ++ ws)) (by simp) (by simp) (fun r1 r2 r3 => r1.append (r2.append r3)) (fun D doc pm an cdv ct us mv ws l1 l2 l3 => by
    match us, mv, ws, l1, l2, l3 with
    | [_, _], [], [_], _, _, _ => rfl)
  refine ⟨f, fd, mv, F.ok sc_bea (fun vs H Q E ⟨wd, x, ag, fin, hist, al, _⟩ => by rw [al.length]; rfl) fun cdv A outer s H vs Q E hr ⟨wd, x, ag, fin, hist, al, hF, q⟩ => ?_, hm, F.kp, kb⟩
  refine ⟨_, PSs.nox (t := tBo K (kn0 ["rules", "wish", "again"] [dW wd, dWish x, .bl ag]) (keys fin.2) (resOf wd x (keys fin.2) hist)) ?_, EA.start al, q⟩
  refine sbo_seq (sn_exp (pd_call (ok_clo T) (hr.mono (by decide)) (pds_cons (pd_var 0) (pds_cons (pd_var 1) (pds_cons (pd_var 2) pds_nil))) ⟨⟨wd, x, ag, rfl⟩, rfl⟩)) ?_
  exact pss_w (pss_cons (ps_ret (pe_callD (ok_bor T) (hr.mono (by decide)) (pds_cons (pd_var 0) (pds_cons (pd_var 1) (pds_cons (pd_var 2) pds_nil))))) pss_never') fun D σ H ⟨ea, q⟩ => ⟨ea, fun vs H1 e1 a1 => ⟨wd, x, ag, fin, hist, by rw [List.append_nil]; exact a1, hF, q.same e1⟩⟩
def rPaf (ds es : List D) : Prop := ∃ wd hs ag, ds = [dW wd, .lst (hs.map dHw), .bl ag] ∧ hs.length ≤ 1000000 ∧ (rowsP wd ag begin0 hs).length = hs.length ∧ es = (rowsP wd ag begin0 hs).map dL
theorem ok_paf (T : Top K w mg) : DokA P w K mg base 8 "places_after" ["rules", "history", "again"] (spDL K rPaf) := by
  obtain ⟨f, fd, F, hm⟩ := T.dplaces_after
  obtain ⟨mv, kb⟩ := F.kbinds0 (ps := ["rules", "history", "again"]) 2 ["again"] [] (fun us mz ws => us ++ (mz ++ ws)) (by simp) (by simp) (fun r1 r2 r3 => r1.append (r2.append r3)) (fun D doc pm an cdv ct us mv ws l1 l2 l3 => by
    match us, mv, ws, l1, l2, l3 with
    | [_, _], [], [_], _, _, _ => rfl)
  refine ⟨f, fd, mv, F.ok sc_paf (fun vs H Q E ⟨ds, d, ⟨wd, hs, ag, e, _⟩, al, _⟩ => by subst e; rw [al.length]; rfl) fun cdv A outer s H vs Q E hr ⟨ds, d, ⟨wd, hs, ag, e, hz, hfull, ed⟩, al, q⟩ => ?_, hm, F.kp, kb⟩
  subst e ed
  refine ⟨_, PSs.nox (t := tRn K (kn0 ["rules", "history", "again", "found"] [dW wd, .lst (hs.map dHw), .bl ag]) ((rowsP wd ag begin0 hs).map dL)) ?_, EA.start al, q⟩
  refine srl_seq (sn_exp (pd_call (ok_crl T) (hr.mono (by decide)) (pds_cons (pd_var 0) pds_nil) ⟨⟨wd, rfl⟩, rfl⟩)) ?_
  refine srl_seq (sn_exp (pd_call (ok_cag T) (hr.mono (by decide)) (pds_cons (pd_var 2) pds_nil) ⟨⟨ag, rfl⟩, rfl⟩)) ?_
  refine srl_seq (sn_skip (pdt_is (pdt_not (pdt_val (pd_isiLT T.fisinstance T.flist T.ftuple (pd_var 1)))) rfl)) ?_
  refine srl_ownC (l := 0) 3 (pdl_call (ok_pon T) (hr.mono (by decide)) (pds_cons (pd_var 0) (pds_cons (pd_var 1) (pds_cons (pd_var 2) pds_nil))) ⟨wd, false, hs, ag, rfl, by omega, rfl⟩) (noLs_dL _) sc_paf.nd (fun l => ?_)
  exact sol_skip 3 (pdt_is (pdt_cmp (pd_lenL T.flen (pd_var 3)) (pd_lenL T.flen (pd_var 1)) cmp_lt) (by rw [List.length_map, List.length_map, hfull]; simp)) (so_ret 3)
end
/-! ### their calls -/
section
variable {X : Cx} {ρ : Kn} {e1 e2 e3 : Expr} {pos p kpos : Pos} {wd : Wd} {x : Wish} {ag : Bool} {fin : BSt} {hist : Pl → List Deed}
theorem pe_bear (T : Top X.K X.w X.mg) (hr : Room 9 X.A) (hF : Found wd ag fin hist) (h1 : PD X ρ e1 (dW wd)) (h2 : PD X ρ e2 (dWish x)) (h3 : PD X ρ e3 (.bl ag)) (hg : Gl X "bear" := by exact rfl)
    (hst : starEach [e1, e2] X.env = (false, eval e1 X.env) :: starEach [e2] X.env := by rfl) (hst2 : starEach [e2] X.env = (false, eval e2 X.env) :: starEach [] X.env := by rfl)
    (hall : (backToKw pos (keywordEach [⟨some "again", e3, kpos⟩] X.env)).all (·.1.isSome) = true := by rfl) (hks : (backToKw pos (keywordEach [⟨some "again", e3, kpos⟩] X.env)).filterMap (·.1) = (["again"] : List Str) := by rfl) (hpl : ((backTo pos (starEach [e1, e2] X.env)).any (·.1) || (backToKw pos (keywordEach [⟨some "again", e3, kpos⟩] X.env)).any (·.1.isNone)) = false := by rfl) :
    PE X (.Call (.Name "bear" p) [e1, e2] [⟨some "again", e3, kpos⟩] pos) (fun σ H Q => EA X.K H σ ρ ∧ BornQ X.K (keys fin.2) (resOf wd x (keys fin.2) hist) H Q) := by
  obtain ⟨f, fd, mv, F, hm, hk, kb⟩ := (ok_bea (P := X.prog) (base := X.base) T).ex
  refine pe_w (pe_callN F hr hg hm hk kb pass0 (pds_cons h1 (pds_cons h2 pds_nil hst2) hst) (pk_cons h3 pk_nil) hall hks (by decide) hst hpl) fun σ H Q q => ⟨q.1, fun vs H2 e2 a2 => ⟨q.1.same e2, fun u H3 e3 a3 => ?_⟩⟩
  have hl := a2.length
  obtain ⟨v1, v2, rfl, b1, b2⟩ := atL_two a2
  exact ⟨rfl, rfl, wd, x, ag, fin, hist, AtL.cons (b1.same e3) (AtL.cons (b2.same e3) (AtL.cons a3 AtL.nil)), hF, q.2.same (e2.trans e3)⟩
theorem pdl_paf {hs : List (Option Deed)} (T : Top X.K X.w X.mg) (hr : Room 8 X.A) (hz : hs.length ≤ 1000000) (hfull : (rowsP wd ag begin0 hs).length = hs.length) (h1 : PD X ρ e1 (dW wd)) (h2 : PD X ρ e2 (.lst (hs.map dHw))) (h3 : PD X ρ e3 (.bl ag)) (hg : Gl X "places_after" := by exact rfl)
    (hst : starEach [e1, e2] X.env = (false, eval e1 X.env) :: starEach [e2] X.env := by rfl) (hst2 : starEach [e2] X.env = (false, eval e2 X.env) :: starEach [] X.env := by rfl)
    (hall : (backToKw pos (keywordEach [⟨some "again", e3, kpos⟩] X.env)).all (·.1.isSome) = true := by rfl) (hks : (backToKw pos (keywordEach [⟨some "again", e3, kpos⟩] X.env)).filterMap (·.1) = (["again"] : List Str) := by rfl) (hpl : ((backTo pos (starEach [e1, e2] X.env)).any (·.1) || (backToKw pos (keywordEach [⟨some "again", e3, kpos⟩] X.env)).any (·.1.isNone)) = false := by rfl) :
    PDL X ρ (.Call (.Name "places_after" p) [e1, e2] [⟨some "again", e3, kpos⟩] pos) ((rowsP wd ag begin0 hs).map dL) := by
  obtain ⟨f, fd, mv, F, hm, hk, kb⟩ := (ok_paf (P := X.prog) (base := X.base) T).ex
  refine pe_w (pe_callN F hr hg hm hk kb pass0 (pds_cons h1 (pds_cons h2 pds_nil hst2) hst) (pk_cons h3 pk_nil) hall hks (by decide) hst hpl) fun σ H Q q => ⟨q.1, fun vs H2 e2 a2 => ⟨q.1.same e2, fun u H3 e3 a3 => ?_⟩⟩
  obtain ⟨v1, v2, rfl, b1, b2⟩ := atL_two a2
  exact ⟨rfl, rfl, [dW wd, .lst (hs.map dHw), .bl ag], _, ⟨wd, hs, ag, rfl, hz, hfull, rfl⟩, AtL.cons (b1.same e3) (AtL.cons (b2.same e3) (AtL.cons a3 AtL.nil)), fun c xs H4 n e4 hx al => q.2 c xs H4 (Same.free (e2.trans e3) n) ((e2.trans e3).trans e4) hx al⟩
end
end CM
set_option Elab.async false
set_option linter.all false
set_option maxRecDepth 100000
set_option maxHeartbeats 4000000
/-! CMJ: what bear hands back holds. -/
namespace CM
open PySem L2
theorem born_calm {wd : Wd} {x : Wish} {ag : Bool} {fin : BSt} {hist : Pl → List Deed} (hF : Found wd ag fin hist) (h : resOf wd x (keys fin.2) hist = none) : calmP wd x ag (keys fin.2) = true := by
  obtain ⟨hL, h1⟩ := runs_loop (keepsP wd ag) hF.1 (loop0 (phiP0 wd ag))
  unfold calmP
  rw [Bool.and_eq_true, List.all_eq_true]
  refine ⟨decide_eq_true hL.inv.beg, fun p hp => ?_⟩
  have hf : (keys fin.2).find? (isBad wd x) = none := by
    unfold resOf at h
    cases hq : (keys fin.2).find? (isBad wd x) with
    | none => rfl
    | some y => rw [hq] at h; cases h
  have hb := List.find?_eq_none.mp hf p hp
  have hb2 : (standsBad p.st x || beginsBad wd p x) = false := by
    cases hq : (standsBad p.st x || beginsBad wd p x) with
    | false => rfl
    | true => exact absurd hq hb
  rw [hb2, Bool.not_false, Bool.true_and]
  unfold closedAt
  rw [List.all_eq_true]
  intro b hb3
  obtain ⟨d, hd, rfl⟩ := List.mem_map.mp hb3
  rcases hL.cl p hp with z | z
  · rw [h1] at z; cases z
  · exact decide_eq_true (z d hd)
theorem rows_snoc {w : Wd} {ag : Bool} {o : Deed} : ∀ {hs : List (Option Deed)} {p : Pl}, (rowsP w ag p hs).length = hs.length → o ∈ deedsAt (lastD p (rowsP w ag p hs)) → rowsP w ag p (hs ++ [some o]) = rowsP w ag p hs ++ [plBy w (lastD p (rowsP w ag p hs)) ag o]
  | [], p, _, h => by
    have h2 : o ∈ deedsAt p := h
    show rowsP w ag p [some o] = [plBy w p ag o]
    have e : stepP w ag p (some o) = some (plBy w p ag o) := by
      show cond (decide (o ∈ deedsAt p)) _ _ = _
      rw [decide_eq_true h2]; rfl
    rw [rowsP, e]; rfl
  | a :: r, p, hl, h => by
    cases e : stepP w ag p a with
    | none =>
      rw [rowsP, e] at hl
      simp at hl
    | some q =>
      have e1 : rowsP w ag p (a :: r) = q :: rowsP w ag q r := by rw [rowsP, e]
      rw [e1] at hl h ⊢
      have hl2 : (rowsP w ag q r).length = r.length := by simpa using hl
      have hd : lastD p (q :: rowsP w ag q r) = lastD q (rowsP w ag q r) := by
        unfold lastD
        cases hr : rowsP w ag q r with
        | nil => rfl
        | cons y ys => simp [List.getLast?_cons_cons, List.getLast?_eq_some_getLast]
      rw [hd] at h ⊢
      have ih := rows_snoc (hs := r) (p := q) hl2 h
      show rowsP w ag p (a :: (r ++ [some o])) = q :: (rowsP w ag q r ++ [plBy w (lastD q (rowsP w ag q r)) ag o])
      rw [rowsP, e]
      show q :: rowsP w ag q (r ++ [some o]) = _
      rw [ih]
theorem way_rows {w : Wd} {ag : Bool} {ks : List (Pl × D)} {q : Pl} {hs : List Deed} (h : Way w ag ks q hs) : (rowsP w ag begin0 (hs.map some)).length = (hs.map some).length ∧ lastD begin0 (rowsP w ag begin0 (hs.map some)) = q := by
  induction h with
  | base _ => exact ⟨rfl, rfl⟩
  | @step p d hs _ hd _ ih =>
    obtain ⟨i1, i2⟩ := ih
    have e := rows_snoc (o := d) i1 (by rw [i2]; exact hd)
    rw [i2] at e
    rw [List.map_append]
    show (rowsP w ag begin0 (hs.map some ++ [some d])).length = (hs.map some ++ [some d]).length ∧ _
    rw [show List.map some [d] = [some d] from rfl, e]
    exact ⟨by rw [List.length_append, List.length_append, i1]; rfl, lastD_snoc _ _ _⟩
theorem begins_can {w : Wd} {p : Pl} {x : Wish} (h : beginsBad w p x = true) : Deed.begin ∈ deedsAt p := by
  unfold beginsBad at h
  rw [Bool.and_eq_true] at h
  have hs : p.st.s = .kept := of_decide_eq_true h.1
  have h2 : Deed.begin ∈ deedsIn p.st.s := by rw [hs]; decide
  unfold deedsAt
  cases canLose p with
  | true => exact List.mem_append_left _ h2
  | false => exact h2
theorem ups_torn_ne {w : Wd} {p : Pl} : beginsBad w p .torn = false := by
  unfold beginsBad goesBad
  simp
theorem born_ups {wd : Wd} {ag : Bool} {fin : BSt} {hist : Pl → List Deed} {hs : List (Option Deed)} (hF : Found wd ag fin hist) (h : resOf wd .torn (keys fin.2) hist = some hs) : upsetP wd .torn ag hs = true ∧ hs.length ≤ 2000000 := by
  unfold resOf at h
  cases hq : (keys fin.2).find? (isBad wd .torn) with
  | none => rw [hq] at h; cases h
  | some p =>
    rw [hq] at h
    have e : histOf .torn hist p = hs := Option.some.inj h
    have hb : isBad wd .torn p = true := List.find?_some hq
    have hp := List.mem_of_find?_eq_some hq
    obtain ⟨hw, hlen⟩ := hF.2 p hp
    unfold isBad at hb
    rw [ups_torn_ne, Bool.or_false] at hb
    unfold histOf at e
    rw [hb, cond_true] at e
    subst e
    obtain ⟨r1, r2⟩ := way_rows hw
    refine ⟨?_, by rw [List.length_map]; omega⟩
    have hne : ((hist p).map some).length ≠ 0 := by
      intro z
      have hn : hist p = [] := by
        rw [List.length_map] at z
        exact List.length_eq_zero_iff.mp z
      rw [hn] at r2
      have : p = begin0 := r2.symm
      rw [this] at hb
      exact absurd hb (by decide)
    unfold upsetP noRow
    rw [decide_eq_false (by omega), decide_eq_false hne, Bool.false_or, cond_false, ups_torn_ne, Bool.and_false, cond_false, r2]
    exact hb
end CM
set_option Elab.async false
set_option linter.all false
set_option maxRecDepth 100000
set_option maxHeartbeats 4000000
/-! CMI: x != y of two objects of one own class whose __ne__ is object's. -/
namespace CM
open PySem L2
open PyProof.Rows (envOfC)
section
variable {prog : Program} {w : World} {A : Around} {E : Value → Shared → Prop} {s : Shared} {K : PySem.W.Frag} {x C L f y : Addr} {h₀ : Heap} {m : Str → Option Value} {ox : Obj} {od : Option Obj} {name : Str} {b tb : Value}
theorem ifBound_B {M : Model} {args : List Value} {id : String} {B : String} {Q : Option Value → Shared → Prop} (X : K.In s.heap) (I : PySem.W.InstAt s.heap x ox C od) (hs : PySem.W.findIn K (.ref C) name = some (some (.builtin id))) (S : Slot B name id)
    (h : wpAny M A (call (.builtin id) (.ref x :: args)) (fun v => Q (some v)) E s) : wpAny M A (callSpecialIfBound? (.ref x) name args) Q E s := by
  have last : wpAny M A (call (.builtin id) ([.ref x] ++ args) >>= fun v => pure (some v)) Q E s := wpAny_bind (wpAny_mono h (fun _ _ => wpAny_pure) fun _ _ e => e)
  unfold callSpecialIfBound? bindSpecialIfBound?
  refine wpAny_holding (wpAny_bind (wpAny_bind (wpAny_bind (I.type.here ((PySem.W.looks_findIn X hs).here ?_)))))
  simp only [S.bind]
  refine wpAny_bind (wpAny_askSetting (wpAny_ite ?_))
  split <;> first | exact wpAny_bind (wpAny_pure (wpAny_pure last)) | exact wpAny_tryCatch (wpAny_bind (wpAny_pure (wpAny_pure last)))
theorem objNe_K {Q : Fin → Shared → Prop} (X : K.In s.heap) (I : PySem.W.InstAt s.heap x ox C od) (hs : PySem.W.findIn K (.ref C) "__eq__" = some (some (.ref f))) (hf : PySem.W.isFn K (.ref f) = true) (hu : A.units < cLine)
    (hcall : wpAny (model prog w) A (call (.ref f) [.ref x, b]) (fun v s' => ∃ r, v = .bool r ∧ Q (.done (.ret (.bool (!r)))) s') E s) :
    wpAny (model prog w) A (Builtin.«object.__ne__» ⟨[.ref x, b], []⟩) Q E s := by
  have ask : wpAny (model prog w) A (callSpecialIfBound? (.ref x) (Str.ofString "__eq__") [b]) (fun r s' => ∃ c, r = some (.bool c) ∧ Q (.done (.ret (.bool (!c)))) s') E s :=
    PySem.W.ifBound_K X I hs hf (wpAny_mono hcall (fun _ _ ⟨c, e, q⟩ => ⟨c, congrArg some e, q⟩) fun _ _ e => e)
  unfold Builtin.«object.__ne__»
  wp_walk using wpAny_cRoomFor hu, wpAny_mono ask
  · rintro _ s' ⟨c, rfl, q⟩
    exact wpAny_bind (wpAny_truthy_bool (wpAny_pure q))
  · exact fun _ _ => id
theorem ne_K {Q : Value → Shared → Prop} (hu : A.units + 1 < cLine) (F : PyProof.Rows.Fr h₀ L s.heap m) (X₀ : K.In h₀) (I : PySem.W.InstAt s.heap x ox C od) (hb : PySem.W.Looks (model prog w) s.heap (typeOf b) (.ref C))
    (hm : PySem.W.mroIn K C (.type "object") = some true) (hn : PySem.W.findIn K (.ref C) "__ne__" = some (some (.builtin "object.__ne__"))) (hs : PySem.W.findIn K (.ref C) "__eq__" = some (some (.ref f))) (hf : PySem.W.isFn K (.ref f) = true)
    (h : wpAny (model prog w) A.in1 (call (.ref f) [.ref x, b]) (fun v s' => ∃ r, v = .bool r ∧ Q (.bool (!r)) s') E s) : wpAny (model prog w) A (richCompare .NotEq (.ref x) b) Q E s := by
  have X := X₀.keeps F.keep
  have one : wpAny (model prog w) A (tryCompare (.ref x) "__ne__" b) (fun r s' => ∃ v, r = some v ∧ Q v s') E s := by
    unfold tryCompare
    refine wpAny_bind (ifBound_B X I hn PySem.F.cmp_object.ne (wpAny_call (codeAny_call_builtin PySem.F.cmp_object.ne.plain PySem.F.cmpEntry_ne (PySem.W.check_slot PySem.F.cmpKind_ne PySem.F.cmpSplit_ne (I.type.andThen (PySem.W.looks_mroIn X hm)) (PySem.F.cmpArgs_ne _ _)
      (objNe_K (A := A.in1) X I hs hf hu (wpAny_mono h (fun v s' hv => ?_) fun _ _ e => e))))))
    obtain ⟨r, rfl, hq⟩ := hv
    first | exact ⟨r, rfl, wpAny_pure ⟨_, rfl, hq⟩⟩ | exact ⟨r, rfl, wpAny_pure (wpAny_pure ⟨_, rfl, hq⟩)⟩ | exact ⟨r, rfl, _, rfl, hq⟩
  unfold richCompare
  simp only [oneThing_ref]
  refine wpAny_holding (wpAny_bind (wpAny_cRoomFor (Nat.lt_of_succ_lt hu) ?_))
  refine wpAny_bind (I.type.here (wpAny_bind (hb.here ?_)))
  rw [if_neg (by simp)]
  refine wpAny_bind (wpAny_pure ((if_neg Bool.false_ne_true).symm ▸ wpAny_bind (wpAny_mono one ?_ fun _ _ e => e)))
  rintro _ s' ⟨v, rfl, q⟩
  exact wpAny_pure q
end
end CM
set_option Elab.async false
set_option linter.all false
set_option maxRecDepth 100000
set_option maxHeartbeats 4000000
/-! CMV: Calm and Upset compared. -/
namespace CM
open PySem L2
open PyProof.Rows (envOfC)
theorem tyCalm {K : PySem.W.Frag} {mg : Str → Option Value} {ps : List Pl} (O : Own K mg "Calm") : ∀ H v, At K H (dCalm K ps) v → TyX K H v (.ref (He.ga K "Calm")) := fun H v h => by
  obtain ⟨a, rfl, dx, l, ys, h1, _⟩ := calm_at h
  exact .base (.ins h1 O.cl O.ha O.hn O.htk O.hm)
theorem tyUps {K : PySem.W.Frag} {mg : Str → Option Value} {hs : List (Option Deed)} (O : Own K mg "Upset") : ∀ H v, At K H (dUps K hs) v → TyX K H v (.ref (He.ga K "Upset")) := fun H v h => by
  obtain ⟨a, rfl, dx, t, h1, _⟩ := ups_at h
  exact .base (.ins h1 O.cl O.ha O.hn O.htk O.hm)
section
variable {X : Cx} {CX : CXT} {k : Nat} {C f : Addr} {fd : FuncData} {ps : List Str} {sp : Sp} {E : XK}
theorem ins_at {pins : List (Addr × Obj)} {σ : L2.St} {H : Hp} {s : Shared} {a dx : Addr} {vs : List (Str × V)} (I : Inv X pins σ H s) (h : H a = some (.ins C dx vs)) : ∃ od, PySem.W.InstAt s.heap a (PySem.W.instObj C dx) C (some od) :=
  (ins_get I.hok h).elim fun _ q => q.1.look.imp fun _ z => z.1
/-- an own def, called one deep, as run_fn -/
theorem run_in1 {pins : List (Addr × Obj)} {σ : L2.St} {H : Hp} {s : Shared} {xs : List V} {us : List Value} {Q : VK} (F : FnOk X.prog X.w X.K X.mg X.base CX k f fd ps sp) (hr : Room k X.A.in1) (hb : Binds X.K fd ps []) (hx : Passes CX X E) (I : Inv X pins σ H s) (rv : Vals xs us) (q : sp xs H Q E) :
    wpAny (model X.prog X.w) X.A.in1 (call (.ref f) us) (fun w s' => ∃ x H', Inv X pins σ H' s' ∧ RelV x w ∧ Q x H') X.xe s := by
  have bound := hb s us I.kIn (by rw [List.append_nil, ← rv.length]; exact F.len _ _ _ _ q)
  refine wpAny_call (codeAny_mono (F.run X.A.in1 X.stack s H ⟨us, []⟩ us xs _ E hr I.env0.in1 (by simpa using bound) rv q) ?_)
  rintro (e | fl) s' out
  · exact hx pins σ H s e s' I out
  · rcases fl with _ | _ | _ | w
    all_goals first | exact I.after out | exact out.elim
/-- x op y of two instances, by the class's own def -/
def rOp (K : PySem.W.Frag) (C : Addr) (sp : Sp) (E : XK) : R2 := fun x y H Q => ∃ a dx vs b D dy ws, x = .ref a ∧ y = .ref b ∧ H a = some (.ins C dx vs) ∧ H b = some (.ins D dy ws) ∧ PySem.W.notFirst K C (.ref D) = true ∧ sp [x, y] H Q E
theorem op_eqO (F : FnOk X.prog X.w X.K X.mg X.base CX k f fd ps sp) (hr : Room k X.A) (hs : PySem.W.findIn X.K (.ref C) "__eq__" = some (some (.ref f))) (hf : PySem.W.isFn X.K (.ref f) = true) (hb : Binds X.K fd ps []) (hx : Passes CX X E) : OpR X (compareOp .Eq) (rOp X.K C sp E) := by
  rintro pins s σ H _ _ v u Q I rv ru ⟨a, dx, vs, b, D, dy, ws, rfl, rfl, ia, ib, other, q⟩
  cases (show v = Value.ref a from rv)
  cases (show u = Value.ref b from ru)
  obtain ⟨_, isA⟩ := ins_at I ia
  obtain ⟨_, isB⟩ := ins_at I ib
  obtain ⟨_, fr⟩ := I.fr
  show wpAny _ _ (richCompare .Eq (.ref a) (.ref b)) _ _ s
  exact PySem.W.cmp_K (op := .Eq) (tb := .ref D) hr.units0 fr I.ok.mod.kin isA isB.type other hs hf
    (wpAny_mono (run_fn (us := [.ref a, .ref b]) (vs := [.ref a, .ref b]) F hr hb .nil hx I (.cons rfl (.cons rfl .nil)) q) (fun _ _ ⟨x, H', I', rx, qx⟩ => SlX.cmpback rx ⟨x, H', I', rx, qx⟩) fun _ _ e => e)
/-- x != y of two instances of one class, by its own __eq__ -/
def rNe (C : Addr) (sp : Sp) (E : XK) : R2 := fun x y H Q => ∃ a dx vs b dy ws, x = .ref a ∧ y = .ref b ∧ H a = some (.ins C dx vs) ∧ H b = some (.ins C dy ws) ∧ sp [x, y] H (fun v H' => ∃ r, v = .bl r ∧ Q (.bl (!r)) H') E
theorem op_neO (F : FnOk X.prog X.w X.K X.mg X.base CX k f fd ps sp) (hr : Room (k + 1) X.A) (hm : PySem.W.mroIn X.K C (.type "object") = some true) (hn : PySem.W.findIn X.K (.ref C) "__ne__" = some (some (.builtin "object.__ne__"))) (hs : PySem.W.findIn X.K (.ref C) "__eq__" = some (some (.ref f))) (hf : PySem.W.isFn X.K (.ref f) = true) (hb : Binds X.K fd ps []) (hx : Passes CX X E) : OpR X (compareOp .NotEq) (rNe C sp E) := by
  rintro pins s σ H _ _ v u Q I rv ru ⟨a, dx, vs, b, dy, ws, rfl, rfl, ia, ib, q⟩
  cases (show v = Value.ref a from rv)
  cases (show u = Value.ref b from ru)
  obtain ⟨_, isA⟩ := ins_at I ia
  obtain ⟨_, isB⟩ := ins_at I ib
  obtain ⟨_, fr⟩ := I.fr
  have room := hr.un
  show wpAny _ _ (richCompare .NotEq (.ref a) (.ref b)) _ _ s
  refine ne_K (by omega) fr I.ok.mod.kin isA isB.type hm hn hs hf (wpAny_mono (run_in1 (xs := [.ref a, .ref b]) F hr.in1 hb hx I (.cons rfl (.cons rfl .nil)) q) ?_ fun _ _ e => e)
  rintro _ s' ⟨_, H', I', rx, r, rfl, qr⟩
  cases rx
  exact ⟨r, rfl, .bl (!r), H', I', rfl, qr⟩
end
section
variable {X : Cx} {ρ : Kn} {a b : Expr} {rest : List Expr} {pos : Pos} {d : D}
theorem pd_andF (h : PD X ρ a (.bl false)) : PD X ρ (.BoolOp .And (a :: b :: rest) pos) (.bl false) :=
  pe_w (pe_and h (tb := fun _ _ _ => False) ⟨fun _ _ _ _ _ _ q => q.elim⟩) fun σ H Q q => ⟨q.1, fun v H1 e1 a1 => ⟨false, by simpa only [At] using a1, iteF (q.2 _ H1 e1 (by simp only [At]))⟩⟩
end
def eqPl (ps qs : List Pl) : Bool := PyData.eqv (pdD (.lst (ps.map dL))) (pdD (.lst (qs.map dL)))
def eqHw (hs gs : List (Option Deed)) : Bool := PyData.eqv (pdD (.tup (hs.map dHw))) (pdD (.tup (gs.map dHw)))
section
variable {P : Program} {w : World} {K : PySem.W.Frag} {mg : Str → Option Value} {base : Heap}
theorem sc_ceq : FnScope ["self", "other"] ["self", "other"] (defScope (inClass (top 38) 1)) := ⟨rfl, rfl, rfl, by decide +kernel, rfl, by decide +kernel, by decide +kernel⟩
theorem sc_ueq : FnScope ["self", "other"] ["self", "other"] (defScope (inClass (top 39) 1)) := ⟨rfl, rfl, rfl, by decide +kernel, rfl, by decide +kernel, by decide +kernel⟩
def rCeq (K : PySem.W.Frag) (ds : List D) (d : D) : Prop := (∃ ps qs, ds = [dCalm K ps, dCalm K qs] ∧ d = .bl (eqPl ps qs)) ∨ ∃ ps hs, ds = [dCalm K ps, dUps K hs] ∧ d = .bl false
def rUeq (K : PySem.W.Frag) (ds : List D) (d : D) : Prop := ∃ hs gs, ds = [dUps K hs, dUps K gs] ∧ SeqAt.shaped (pdD (.tup (hs.map dHw))) = true ∧ SeqAt.shaped (pdD (.tup (gs.map dHw))) = true ∧ d = .bl (eqHw hs gs)
theorem datHw (hs : List (Option Deed)) : datDs (hs.map dHw) = true := by
  induction hs with
  | nil => rfl
  | cons h hs ih => simp [datDs, datD, dHw, ih]
theorem ok_ceq (T : Top K w mg) : Mok P w K mg base 1 "Calm" "__eq__" ["self", "other"] (spD K (rCeq K)) := by
  obtain ⟨fd, F, h1, h2⟩ := T.mCalmeq
  refine ⟨_, fd, F.ok sc_ceq (fun vs H Q E ⟨ds, d, r, al, _⟩ => by rcases r with ⟨_, _, e, _⟩ | ⟨_, _, e, _⟩ <;> (subst e; rw [al.length]; rfl)) fun cdv A outer s H vs Q E hr ⟨ds, d, r, al, q⟩ => ?_, ⟨h1, h2, F.kp⟩, F.bindsN fun _ _ _ _ _ _ us hl => match us, hl with | [_, _], _ => rfl⟩
  rcases r with ⟨ps, qs, e, ed⟩ | ⟨ps, hs, e, ed⟩
  · subst e ed
    refine ⟨_, PSs.nox (t := tR K (kn0 ["self", "other"] [dCalm K ps, dCalm K qs]) (.bl (eqPl ps qs))) ?_, EA.start al, q⟩
    exact sr_ret (pd_to (pd_and (k1 := true) (pd_isiC T.fisinstance T.oCalm (pd_var 1) (tyCalm T.oCalm) kitSelf) (pd_one (pd_cmp (pd_places T.oCalm T.aPlaces (pd_var 0)) (pd_places T.oCalm T.aPlaces (pd_var 1)) (cmp_eqX (units_of hr (by decide)) (by simp only [datD]; exact dat_dLs ps) (by simp only [datD]; exact dat_dLs qs) (shp_Ls ps) (shp_Ls qs))))) (by rw [Bool.true_and]; rfl))
  · subst e ed
    refine ⟨_, PSs.nox (t := tR K (kn0 ["self", "other"] [dCalm K ps, dUps K hs]) (.bl false)) ?_, EA.start al, q⟩
    exact sr_ret (pd_andF (pd_isiC T.fisinstance T.oCalm (pd_var 1) (tyUps T.oUpset) T.kUC))
theorem ok_ueq (T : Top K w mg) : Mok P w K mg base 1 "Upset" "__eq__" ["self", "other"] (spD K (rUeq K)) := by
  obtain ⟨fd, F, h1, h2⟩ := T.mUpseteq
  refine ⟨_, fd, F.ok sc_ueq (fun vs H Q E ⟨ds, d, ⟨_, _, e, _⟩, al, _⟩ => by subst e; rw [al.length]; rfl) fun cdv A outer s H vs Q E hr ⟨ds, d, ⟨hs, gs, e, s1, s2, ed⟩, al, q⟩ => ?_, ⟨h1, h2, F.kp⟩, F.bindsN fun _ _ _ _ _ _ us hl => match us, hl with | [_, _], _ => rfl⟩
  subst e ed
  refine ⟨_, PSs.nox (t := tR K (kn0 ["self", "other"] [dUps K hs, dUps K gs]) (.bl (eqHw hs gs))) ?_, EA.start al, q⟩
  exact sr_ret (pd_to (pd_and (k1 := true) (pd_isiC T.fisinstance T.oUpset (pd_var 1) (tyUps T.oUpset) kitSelf) (pd_one (pd_cmp (pd_history T.oUpset T.aHistory (pd_var 0)) (pd_history T.oUpset T.aHistory (pd_var 1)) (cmp_eqX (units_of hr (by decide)) (by simp only [datD]; exact datHw hs) (by simp only [datD]; exact datHw gs) s1 s2)))) (by rw [Bool.true_and]; rfl))
end
end CM
set_option Elab.async false
set_option linter.all false
set_option maxRecDepth 100000
set_option maxHeartbeats 4000000
/-! CMT: == and != of Calm and Upset as expressions; two own lists cleared. -/
namespace CM
open PySem L2
open PyProof.Rows (envOfC)
section
variable {X : Cx} {ρ : Kn} {a b : Expr} {pos : Pos} {ps qs : List Pl} {hs gs : List (Option Deed)}
theorem pdt_cmp2 {op : CmpOp} {r : R2} {k : Bool} {d1 d2 : D} (ho : OpR X (compareOp op) r) (ha : PD X ρ a d1) (hb : PD X ρ b d2) (hm : behindInMarks op b = false)
    (h : ∀ x y H Q, At X.K H d1 x → At X.K H d2 y → (∀ v H', Same H H' → At X.K H' (.bl k) v → Q v H') → r x y H Q) : PDT X ρ (.Compare a [op] [b] pos) k :=
  pt_w (pt_cmpR ho ha hb hm) fun σ H Q q => ⟨q.1, fun v H1 e1 a1 => ⟨q.1.same e1, fun u H2 e2 a2 => h v u H2 _ (a1.same e2) a2 fun z H3 e3 a3 => ⟨k, by simpa only [At] using a3, q.2 H3 ((e1.trans e2).trans e3)⟩⟩⟩
theorem nf_self {K : PySem.W.Frag} {C : Addr} : PySem.W.notFirst K C (.ref C) = true := by simp [PySem.W.notFirst]
theorem pdt_eqCC (T : Top X.K X.w X.mg) (hr : Room 1 X.A) (ha : PD X ρ a (dCalm X.K ps)) (hb : PD X ρ b (dCalm X.K qs)) (hm : behindInMarks .Eq b = false := by first | exact nomark _ | rfl) : PDT X ρ (.Compare a [.Eq] [b] pos) (eqPl ps qs) := by
  obtain ⟨f, fd, F, hM, hB⟩ := (ok_ceq (P := X.prog) (base := X.base) T).ex
  refine pdt_cmp2 (op_eqO F hr hM.1 hM.2 hB pass0) ha hb hm fun x y H Q a1 a2 q => ?_
  have b1 := a1; have b2 := a2
  obtain ⟨u, rfl, dx, l, ys, h1, _⟩ := calm_at a1
  obtain ⟨v, rfl, dy, l2, zs, h2, _⟩ := calm_at a2
  exact ⟨u, dx, _, v, _, dy, _, rfl, rfl, h1, h2, nf_self, _, _, .inl ⟨ps, qs, rfl, rfl⟩, AtL.cons b1 (AtL.cons b2 AtL.nil), q⟩
theorem pdt_eqCU (T : Top X.K X.w X.mg) (hr : Room 1 X.A) (ha : PD X ρ a (dCalm X.K ps)) (hb : PD X ρ b (dUps X.K hs)) (hm : behindInMarks .Eq b = false := by first | exact nomark _ | rfl) : PDT X ρ (.Compare a [.Eq] [b] pos) false := by
  obtain ⟨f, fd, F, hM, hB⟩ := (ok_ceq (P := X.prog) (base := X.base) T).ex
  refine pdt_cmp2 (op_eqO F hr hM.1 hM.2 hB pass0) ha hb hm fun x y H Q a1 a2 q => ?_
  have b1 := a1; have b2 := a2
  obtain ⟨u, rfl, dx, l, ys, h1, _⟩ := calm_at a1
  obtain ⟨v, rfl, dy, t, h2, _⟩ := ups_at a2
  exact ⟨u, dx, _, v, _, dy, _, rfl, rfl, h1, h2, T.nfCU, _, _, .inr ⟨ps, hs, rfl, rfl⟩, AtL.cons b1 (AtL.cons b2 AtL.nil), q⟩
theorem pdt_eqUU (T : Top X.K X.w X.mg) (hr : Room 1 X.A) (ha : PD X ρ a (dUps X.K hs)) (hb : PD X ρ b (dUps X.K gs)) (s1 : SeqAt.shaped (pdD (.tup (hs.map dHw))) = true) (s2 : SeqAt.shaped (pdD (.tup (gs.map dHw))) = true) (hm : behindInMarks .Eq b = false := by first | exact nomark _ | rfl) : PDT X ρ (.Compare a [.Eq] [b] pos) (eqHw hs gs) := by
  obtain ⟨f, fd, F, hM, hB⟩ := (ok_ueq (P := X.prog) (base := X.base) T).ex
  refine pdt_cmp2 (op_eqO F hr hM.1 hM.2 hB pass0) ha hb hm fun x y H Q a1 a2 q => ?_
  have b1 := a1; have b2 := a2
  obtain ⟨u, rfl, dx, t, h1, _⟩ := ups_at a1
  obtain ⟨v, rfl, dy, t2, h2, _⟩ := ups_at a2
  exact ⟨u, dx, _, v, _, dy, _, rfl, rfl, h1, h2, nf_self, _, _, ⟨hs, gs, rfl, s1, s2, rfl⟩, AtL.cons b1 (AtL.cons b2 AtL.nil), q⟩
theorem pdt_neCC (T : Top X.K X.w X.mg) (hr : Room 2 X.A) (ha : PD X ρ a (dCalm X.K ps)) (hb : PD X ρ b (dCalm X.K qs)) (hm : behindInMarks .NotEq b = false := by first | exact nomark _ | rfl) : PDT X ρ (.Compare a [.NotEq] [b] pos) (!eqPl ps qs) := by
  obtain ⟨f, fd, F, hM, hB⟩ := (ok_ceq (P := X.prog) (base := X.base) T).ex
  refine pdt_cmp2 (op_neO F hr T.oCalm.hm T.neCalm hM.1 hM.2 hB pass0) ha hb hm fun x y H Q a1 a2 q => ?_
  have b1 := a1; have b2 := a2
  obtain ⟨u, rfl, dx, l, ys, h1, _⟩ := calm_at a1
  obtain ⟨v, rfl, dy, l2, zs, h2, _⟩ := calm_at a2
  exact ⟨u, dx, _, v, dy, _, rfl, rfl, h1, h2, _, _, .inl ⟨ps, qs, rfl, rfl⟩, AtL.cons b1 (AtL.cons b2 AtL.nil), fun z H' e az => ⟨_, by simpa only [At] using az, q _ H' e (by simp only [At])⟩⟩
theorem pdt_neUU (T : Top X.K X.w X.mg) (hr : Room 2 X.A) (ha : PD X ρ a (dUps X.K hs)) (hb : PD X ρ b (dUps X.K gs)) (s1 : SeqAt.shaped (pdD (.tup (hs.map dHw))) = true) (s2 : SeqAt.shaped (pdD (.tup (gs.map dHw))) = true) (hm : behindInMarks .NotEq b = false := by first | exact nomark _ | rfl) : PDT X ρ (.Compare a [.NotEq] [b] pos) (!eqHw hs gs) := by
  obtain ⟨f, fd, F, hM, hB⟩ := (ok_ueq (P := X.prog) (base := X.base) T).ex
  refine pdt_cmp2 (op_neO F hr T.oUpset.hm T.neUpset hM.1 hM.2 hB pass0) ha hb hm fun x y H Q a1 a2 q => ?_
  have b1 := a1; have b2 := a2
  obtain ⟨u, rfl, dx, t, h1, _⟩ := ups_at a1
  obtain ⟨v, rfl, dy, t2, h2, _⟩ := ups_at a2
  exact ⟨u, dx, _, v, dy, _, rfl, rfl, h1, h2, _, _, ⟨hs, gs, rfl, s1, s2, rfl⟩, AtL.cons b1 (AtL.cons b2 AtL.nil), fun z H' e az => ⟨_, by simpa only [At] using az, q _ H' e (by simp only [At])⟩⟩
end
/-! ### two own lists -/
def tP2 (K : PySem.W.Frag) (l1 l2 : Addr) (ρ : Kn) (d : D) : TS := fun D σ H => EA K (mk2 l1 l2 H) σ ρ ∧ (∃ ys, H l1 = some (.lst ys)) ∧ (∃ zs, H l2 = some (.lst zs)) ∧ l1 ≠ l2 ∧ ∀ v H', Same (mk2 l1 l2 H) (mk2 l1 l2 H') → At K H' d v → D.rt v H'
section
variable {X : Cx} {ρ : Kn} {l1 l2 : Addr} {d : D} {rest : List Stmt} {pos : Pos}
theorem sp2_end (h : SR X ρ rest d) : PSs X rest (tP2 X.K l1 l2 ρ d) := pss_w h fun D σ H ⟨ea, _, _, _, q⟩ => ⟨ea.same mk2_le, fun v H1 e1 a1 => q v H1 (mk2_same e1) a1⟩
theorem sp2_le {ρ2 : Kn} (h : PSs X rest (tP2 X.K l1 l2 ρ2 d)) (q : Le ρ2 ρ) : PSs X rest (tP2 X.K l1 l2 ρ d) := pss_w h fun D σ H ⟨ea, z⟩ => ⟨ea.le q, z⟩
/-- x.clear() of the one -/
theorem sp2_clear1 (ix : Nat) {y : Str} {pf apos cpos : Pos} (h : PSs X rest (tP2 X.K l1 l2 ρ d)) (hρ : ρ[ix]? = some (some (.adr l1)) := by rfl) (hN : X.N[ix]? = some y := by rfl)
    (hv : Vis X.env.scope y := by first | exact Or.inl rfl | exact Or.inr (Or.inl rfl) | exact Or.inr (Or.inr rfl)) (hd : (y == ("__debug__" : Str)) = false := by decide) (hcd : (y == ("__classdict__" : Str)) = false := by decide)
    (hbase : attributeBase (.Name y pf) "clear" X.env (eval (.Name y pf) X.env) = eval (.Name y pf) X.env := by rfl) (hline : (apos.endLine == cpos.line) = true := by rfl) (hsw : swapsWith (.Call (.Attribute (.Name y pf) "clear" apos) [] [] cpos) none pos.line X.env = pure false := by rfl) :
    PSs X (.Expr (.Call (.Attribute (.Name y pf) "clear" apos) [] [] cpos) pos :: rest) (tP2 X.K l1 l2 ρ d) :=
  pss_w (pss_cons (ps_expr (pe_bm0 PySem.F.plainAttrs_list PySem.F.slot_list_clear PySem.F.type_list_clear mt_clear (pe_var hN hv hd hcd) hbase hline) hsw) h) fun D σ H ⟨ea, ⟨ys, h1⟩, ⟨zs, h2⟩, hne, q⟩ => by
    obtain ⟨v, hv1, hv2⟩ := ea.2 ix _ hρ
    simp only [At] at hv2
    subst hv2
    refine ⟨_, hv1, .inl ⟨rfl, _, SqL.of h1⟩, l1, ys, rfl, rfl, h1, ?_⟩
    refine ⟨by rw [mk2_updL]; exact ea, ⟨[], upd_same⟩, ⟨zs, by rw [upd_ne (Ne.symm hne)]; exact h2⟩, hne, fun v H' e a => q v H' (by rw [mk2_updL] at e; exact e) a⟩
theorem sp2_clear2 (ix : Nat) {y : Str} {pf apos cpos : Pos} (h : PSs X rest (tP2 X.K l1 l2 ρ d)) (hρ : ρ[ix]? = some (some (.adr l2)) := by rfl) (hN : X.N[ix]? = some y := by rfl)
    (hv : Vis X.env.scope y := by first | exact Or.inl rfl | exact Or.inr (Or.inl rfl) | exact Or.inr (Or.inr rfl)) (hd : (y == ("__debug__" : Str)) = false := by decide) (hcd : (y == ("__classdict__" : Str)) = false := by decide)
    (hbase : attributeBase (.Name y pf) "clear" X.env (eval (.Name y pf) X.env) = eval (.Name y pf) X.env := by rfl) (hline : (apos.endLine == cpos.line) = true := by rfl) (hsw : swapsWith (.Call (.Attribute (.Name y pf) "clear" apos) [] [] cpos) none pos.line X.env = pure false := by rfl) :
    PSs X (.Expr (.Call (.Attribute (.Name y pf) "clear" apos) [] [] cpos) pos :: rest) (tP2 X.K l1 l2 ρ d) :=
  pss_w (pss_cons (ps_expr (pe_bm0 PySem.F.plainAttrs_list PySem.F.slot_list_clear PySem.F.type_list_clear mt_clear (pe_var hN hv hd hcd) hbase hline) hsw) h) fun D σ H ⟨ea, ⟨ys, h1⟩, ⟨zs, h2⟩, hne, q⟩ => by
    obtain ⟨v, hv1, hv2⟩ := ea.2 ix _ hρ
    simp only [At] at hv2
    subst hv2
    refine ⟨_, hv1, .inl ⟨rfl, _, SqL.of h2⟩, l2, zs, rfl, rfl, h2, ?_⟩
    refine ⟨by rw [mk2_updA]; exact ea, ⟨ys, by rw [upd_ne hne]; exact h1⟩, ⟨[], upd_same⟩, hne, fun v H' e a => q v H' (by rw [mk2_updA] at e; exact e) a⟩
end
end CM
set_option Elab.async false
set_option linter.all false
set_option maxRecDepth 100000
set_option maxHeartbeats 4000000
/-! CMLA: _law_copies_right. -/
namespace CM
open PySem L2
open PyProof.Rows (envOfC)
theorem ties_mk2 {l1 l2 : Addr} {H : Hp} {ys zs : List V} (h1 : H l1 = some (.lst ys)) (h2 : H l2 = some (.lst zs)) (hne : l1 ≠ l2) : Ties H (mk2 l1 l2 H) :=
  (ties_mask h2).trans (ties_mask (show mask l2 H l1 = some (.lst ys) by rw [mask_at hne]; exact h1))
theorem noL_hw (hs : List (Option Deed)) : noLs (hs.map dHw) = true := noLs_mem.mpr fun d hd => by
  obtain ⟨x, _, rfl⟩ := List.mem_map.mp hd
  rfl
section
variable {X : Cx} {r0 r1 r2 : Option D} {d : D} {rest : List Stmt} {ps : List Pl} {hs : List (Option Deed)}
/-- places, path = [..], [..]; one, two = Calm(places), Upset(path) -/
theorem sr_two {x3 x4 x5 x6 : Str} {k2e : List Expr} {k3e : List Expr} {lpos lpos2 pt pt2 px py pos pt3 pt4 px3 py3 pos3 p1 p2 p3 p4 c1 c2 : Pos} {kt kk kt3 kk3 : Nat} (T : Top X.K X.w X.mg) (hr : Room 2 X.A) (hc : X.calm = true) (nd : X.N.Nodup)
    (h1 : PDs X [r0, r1, r2, none, none, none, none, none] k2e (ps.map dL)) (h2 : PDs X [r0, r1, r2, none, none, none, none, none] k3e (hs.map dHw)) (z1 : ps.length ≤ 1000) (z2 : hs.length ≤ 1000)
    (h : ∀ l1 l2, PSs X rest (tP2 X.K l1 l2 [r0, r1, r2, some (.adr l1), some (.adr l2), some (dCalm X.K ps), some (dUps X.K hs), none] d))
    (i3 : X.N[3]? = some x3 := by rfl) (i4 : X.N[4]? = some x4 := by rfl) (i5 : X.N[5]? = some x5 := by rfl) (i6 : X.N[6]? = some x6 := by rfl)
    (k3 : X.env.scope.names.lookup x3 = some .local := by rfl) (k4 : X.env.scope.names.lookup x4 = some .local := by rfl) (k5 : X.env.scope.names.lookup x5 = some .local := by rfl) (k6 : X.env.scope.names.lookup x6 = some .local := by rfl)
    (hs1 : starEach [Expr.List k2e lpos, Expr.List k3e lpos2] X.env = (false, eval (Expr.List k2e lpos) X.env) :: starEach [Expr.List k3e lpos2] X.env := by rfl) (hs2 : starEach [Expr.List k3e lpos2] X.env = (false, eval (Expr.List k3e lpos2) X.env) :: starEach [] X.env := by rfl)
    (hw : swappedStores [.Tuple [.Name x3 px, .Name x4 py] kt pt] (.Tuple [.List k2e lpos, .List k3e lpos2] kk pt2) X.env = pure (some [x3, x4]) := by rfl) (hsw : swapsWithSole [.Tuple [.Name x3 px, .Name x4 py] kt pt] (.Tuple [.List k2e lpos, .List k3e lpos2] kk pt2) pos.line X.env = pure false := by rfl)
    (hg1 : Gl X "Calm" := by exact rfl) (hg2 : Gl X "Upset" := by exact rfl) (he1 : starEach [Expr.Name x3 p3] X.env = (false, eval (Expr.Name x3 p3) X.env) :: starEach [] X.env := by rfl) (he2 : starEach [Expr.Name x4 p4] X.env = (false, eval (Expr.Name x4 p4) X.env) :: starEach [] X.env := by rfl)
    (hd3 : (x3 == ("__debug__" : Str)) = false := by decide) (hd4 : (x4 == ("__debug__" : Str)) = false := by decide) (hcd3 : (x3 == ("__classdict__" : Str)) = false := by decide) (hcd4 : (x4 == ("__classdict__" : Str)) = false := by decide)
    (hv3 : Vis X.env.scope x3 := by first | exact Or.inl rfl | exact Or.inr (Or.inl rfl) | exact Or.inr (Or.inr rfl)) (hv4 : Vis X.env.scope x4 := by first | exact Or.inl rfl | exact Or.inr (Or.inl rfl) | exact Or.inr (Or.inr rfl))
    (hs3 : starEach [Expr.Call (.Name "Calm" p1) [.Name x3 p3] [] c1, Expr.Call (.Name "Upset" p2) [.Name x4 p4] [] c2] X.env = (false, eval (Expr.Call (.Name "Calm" p1) [.Name x3 p3] [] c1) X.env) :: starEach [Expr.Call (.Name "Upset" p2) [.Name x4 p4] [] c2] X.env := by rfl) (hs4 : starEach [Expr.Call (.Name "Upset" p2) [.Name x4 p4] [] c2] X.env = (false, eval (Expr.Call (.Name "Upset" p2) [.Name x4 p4] [] c2) X.env) :: starEach [] X.env := by rfl)
    (hw3 : swappedStores [.Tuple [.Name x5 px3, .Name x6 py3] kt3 pt3] (.Tuple [.Call (.Name "Calm" p1) [.Name x3 p3] [] c1, .Call (.Name "Upset" p2) [.Name x4 p4] [] c2] kk3 pt4) X.env = pure (some [x5, x6]) := by rfl) (hsw3 : swapsWithSole [.Tuple [.Name x5 px3, .Name x6 py3] kt3 pt3] (.Tuple [.Call (.Name "Calm" p1) [.Name x3 p3] [] c1, .Call (.Name "Upset" p2) [.Name x4 p4] [] c2] kk3 pt4) pos3.line X.env = pure false := by rfl) :
    SR X [r0, r1, r2, none, none, none, none, none] (.Assign [.Tuple [.Name x3 px, .Name x4 py] kt pt] (.Tuple [.List k2e lpos, .List k3e lpos2] kk pt2) pos :: .Assign [.Tuple [.Name x5 px3, .Name x6 py3] kt3 pt3] (.Tuple [.Call (.Name "Calm" p1) [.Name x3 p3] [] c1, .Call (.Name "Upset" p2) [.Name x4 p4] [] c2] kk3 pt4) pos3 :: rest) d := by
  have hS3 : PSs X (.Assign [.Tuple [.Name x5 px3, .Name x6 py3] kt3 pt3] (.Tuple [.Call (.Name "Calm" p1) [.Name x3 p3] [] c1, .Call (.Name "Upset" p2) [.Name x4 p4] [] c2] kk3 pt4) pos3 :: rest)
      (fun D σ H => ∃ l1 l2 ys zs, l1 ≠ l2 ∧ H l1 = some (.lst ys) ∧ H l2 = some (.lst zs) ∧ AtL X.K (mk2 l1 l2 H) (ps.map dL) ys ∧ AtL X.K (mk2 l1 l2 H) (hs.map dHw) zs ∧ EA X.K (mk2 l1 l2 H) σ [r0, r1, r2, some (.adr l1), some (.adr l2), none, none, none] ∧ ∀ v H', Same (mk2 l1 l2 H) (mk2 l1 l2 H') → At X.K H' d v → D.rt v H') := by
    refine pss_w (pss_cons (ps_par hc nd i5 i6 (by decide) k5 k6 (pa_cons (pe_calm T hr (pd_var (ρ := [r0, r1, r2, some (.lst (ps.map dL)), some (.lst (hs.map dHw)), none, none, none]) 3 rfl i3 hv3 hd3 hcd3) hg1 he1) (pa_cons (pd_ups false T hr (pd_var (ρ := [r0, r1, r2, some (.lst (ps.map dL)), some (.lst (hs.map dHw)), none, none, none]) 4 rfl i4 hv4 hd4 hcd4) hg2 he2) pa_nil hs4) hs3) hw3 hsw3)
      (u := fun D σ H => ∃ l1 l2, tP2 X.K l1 l2 [r0, r1, r2, some (.adr l1), some (.adr l2), some (dCalm X.K ps), some (dUps X.K hs), none] d D σ H) ⟨fun pins s σ H D I ⟨l1, l2, q⟩ => (h l1 l2).run pins s σ H D I q⟩) fun D σ H ⟨l1, l2, ys, zs, hne, g1, g2, al, bl, ea, q⟩ => ?_
    obtain ⟨v1, w1, w2⟩ := ea.2 3 _ rfl
    obtain ⟨v2, w3, w4⟩ := ea.2 4 _ rfl
    simp only [At] at w2 w4
    subst w2 w4
    have ev : EA X.K H σ [r0, r1, r2, some (.lst (ps.map dL)), some (.lst (hs.map dHw)), none, none, none] := by
      have z := ((ea.same mk2_le).set (i := 3) (at_lst (SqL.of g1) (al.same mk2_le))).set (i := 4) (at_lst (SqL.of g2) (bl.same mk2_le))
      rw [set_self w1, set_self w3] at z
      exact z
    refine ⟨ev, fun a dx l xs H1 na nl e1 ha hl cl => ⟨ev.same e1, fun u H2 e2 au => ⟨_, _, rfl, l1, l2, ?_, ⟨ys, (e1.trans e2) _ _ g1⟩, ⟨zs, (e1.trans e2) _ _ g2⟩, hne, fun v H' e a => q v H' ((mk2_same (e1.trans e2)).trans e) a⟩⟩⟩
    have g1' := (e1.trans e2) _ _ g1
    have g2' := (e1.trans e2) _ _ g2
    have ti := ties_mk2 g1' g2' hne
    have n1 : a ≠ l1 := fun z => by rw [z, g1] at na; cases na
    have n2 : a ≠ l2 := fun z => by rw [z, g2] at na; cases na
    have m1 : l ≠ l1 := fun z => by rw [z, g1] at nl; cases nl
    have m2 : l ≠ l2 := fun z => by rw [z, g2] at nl; cases nl
    have a5 : At X.K (mk2 l1 l2 H2) (dCalm X.K ps) (.ref a) := at_calm ⟨dx, l, xs, by rw [mk2_at n1 n2]; exact e2 _ _ ha, by rw [mk2_at m1 m2]; exact e2 _ _ hl, (cl.same e2).ties ti (noLs_dL ps)⟩
    obtain ⟨c, rfl, dy, t, hcx, htx⟩ := ups_at au
    have a6 : At X.K (mk2 l1 l2 H2) (dUps X.K hs) (.ref c) := at_ups ⟨dy, t, ti.2.2 _ _ _ _ hcx, htx.ties ti (by rw [noL]; exact noL_hw hs)⟩
    exact ((ea.same (mk2_same (e1.trans e2))).set (i := 5) a5).set (i := 6) a6
  refine pss_w (pss_cons (ps_par hc nd i3 i4 (by decide) k3 k4 (pa_cons (pe_lst h1) (pa_cons (pe_lst h2) pa_nil hs2) hs1) hw hsw) hS3) fun D σ H q => ?_
  refine ⟨q.1, fun vs H1 e1 al => ⟨by rw [al.length, List.length_map]; exact Nat.le_trans z1 (by decide), fun l1 n1 => ⟨(q.1.same e1).same (same_new n1), fun ws H2 e2 bl => ⟨by rw [bl.length, List.length_map]; exact Nat.le_trans z2 (by decide), fun l2 n2 => ⟨_, _, rfl, l1, l2, vs, ws, ?_, ?_, upd_same, ?_, ?_, ?_, ?_⟩⟩⟩⟩⟩
  · intro z
    have := e2 _ _ (upd_same (H := H1) (a := l1) (o := .lst vs))
    rw [z, n2] at this
    cases this
  · have hne : l1 ≠ l2 := fun z => by
      have := e2 _ _ (upd_same (H := H1) (a := l1) (o := .lst vs))
      rw [z, n2] at this
      cases this
    rw [upd_ne hne]
    exact e2 _ _ upd_same
  all_goals
    have hne : l1 ≠ l2 := fun z => by
      have := e2 _ _ (upd_same (H := H1) (a := l1) (o := .lst vs))
      rw [z, n2] at this
      cases this
    have em : mk2 l1 l2 (upd H2 l2 (.lst ws)) = mask l1 H2 := by
      rw [mk2_updA]
      unfold mk2
      rw [mask_new n2]
    have s0 : Same H (mask l1 H2) := by
      have z := mask_same (l := l1) e2
      rw [mask_upd, mask_new n1] at z
      exact e1.trans z
    have s1 : Same H1 (mask l1 H2) := by
      have z := mask_same (l := l1) e2
      rw [mask_upd, mask_new n1] at z
      exact z
  · rw [em]; exact al.same s1
  · rw [em]
    exact bl.ties (ties_mask (e2 _ _ upd_same)) (noL_hw hs)
  · rw [em]
    exact ((q.1.same s0).set (i := 3) (by simp only [At])).set (i := 4) (by simp only [At])
  · intro v H' e a
    refine q.2 v H' ?_ a
    rw [em] at e
    intro b o hb
    have hbm := e _ _ (s0 _ _ hb)
    exact mk2_le _ _ hbm
end
end CM
set_option Elab.async false
set_option linter.all false
set_option maxRecDepth 100000
set_option maxHeartbeats 4000000
/-! CMLB: _law_copies_right. -/
namespace CM
open PySem L2
open PyProof.Rows (envOfC)
def dCl (K : PySem.W.Frag) (l : Addr) : D := .ob fun H v => ∃ a dx, v = .ref a ∧ H a = some (.ins (He.ga K "Calm") dx [("places", .ref l)])
theorem at_dCl {K : PySem.W.Frag} {l a dx : Addr} {H : Hp} (h : H a = some (.ins (He.ga K "Calm") dx [("places", .ref l)])) : At K H (dCl K l) (.ref a) := by
  simp only [dCl, At]
  exact ⟨⟨a, rfl⟩, fun H' e => ⟨a, dx, rfl, e _ _ h⟩⟩
theorem dCl_at {K : PySem.W.Frag} {l : Addr} {H : Hp} {v : V} (h : At K H (dCl K l) v) : ∃ a dx, v = .ref a ∧ H a = some (.ins (He.ga K "Calm") dx [("places", .ref l)]) := by
  simp only [dCl, At] at h
  exact h.2 H (Same.refl H)
theorem tyCl {K : PySem.W.Frag} {mg : Str → Option Value} {l : Addr} (O : Own K mg "Calm") : ∀ H v, At K H (dCl K l) v → TyX K H v (.ref (He.ga K "Calm")) := fun H v h => by
  obtain ⟨a, dx, rfl, h1⟩ := dCl_at h
  exact .base (.ins h1 O.cl O.ha O.hn O.htk O.hm)
section
variable {X : Cx} {ρ : Kn} {l : Addr} {ds es : List D} {d : D} {e : Expr} {rest : List Stmt} {pos : Pos}
theorem so_endN (h : SR X ρ rest d) : PSs X rest (tOR X.K l ρ ds d) := pss_w h fun D σ H ⟨ea, _, q⟩ => ⟨ea.same mask_le, fun v H1 e1 a1 => q v H1 (mask_same e1) a1⟩
/-- found.places.clear() -/
theorem so_clearP {o : Expr} {apos bpos cpos : Pos} (T : Top X.K X.w X.mg) (h : PD X ρ o (dCl X.K l)) (hb : attributeBase o "places" X.env (eval o X.env) = eval o X.env := by rfl)
    (hbase : attributeBase (.Attribute o "places" bpos) "clear" X.env (eval (.Attribute o "places" bpos) X.env) = eval (.Attribute o "places" bpos) X.env := by rfl) (hline : (apos.endLine == cpos.line) = true := by rfl) (hsw : swapsWith (.Call (.Attribute (.Attribute o "places" bpos) "clear" apos) [] [] cpos) none pos.line X.env = pure false := by rfl) :
    PS X (.Expr (.Call (.Attribute (.Attribute o "places" bpos) "clear" apos) [] [] cpos) pos) (tO X.K l ρ ds ρ []) :=
  ps_w (ps_expr (pe_bm0 PySem.F.plainAttrs_list PySem.F.slot_list_clear PySem.F.type_list_clear mt_clear (pe_fld h hb) hbase hline) hsw) fun D σ H ⟨ea, ⟨ys, hl, al⟩, q⟩ => ⟨ea.same mask_le, fun v H1 e1 a1 => by
    obtain ⟨a, dx, rfl, h1⟩ := dCl_at a1
    refine ⟨a, _, dx, _, .ref l, rfl, h1, T.oCalm.cl, T.aPlaces, by simp [List.lookup], .inl ⟨rfl, _, SqL.of (e1 _ _ hl)⟩, l, ys, rfl, rfl, e1 _ _ hl, ?_⟩
    exact q σ _ [] (by rw [mask_upd]; exact mask_same e1) (by rw [mask_upd]; exact ea.same (mask_same e1)) upd_same AtL.nil⟩
/-- a fresh list, cleared at once -/
theorem sn_clearF {apos cpos : Pos} (h : PDL X ρ e es) (hbase : attributeBase e "clear" X.env (eval e X.env) = eval e X.env := by rfl) (hline : (apos.endLine == cpos.line) = true := by rfl) (hsw : swapsWith (.Call (.Attribute e "clear" apos) [] [] cpos) none pos.line X.env = pure false := by rfl) :
    SN1 X ρ (.Expr (.Call (.Attribute e "clear" apos) [] [] cpos) pos) ρ :=
  ps_w (ps_expr (pe_bm0 PySem.F.plainAttrs_list PySem.F.slot_list_clear PySem.F.type_list_clear mt_clear h hbase hline) hsw) fun D σ H q => ⟨q.1, fun c xs H1 n e1 hx al => ⟨.inl ⟨rfl, _, SqL.of hx⟩, c, xs, rfl, rfl, hx, q.2 σ _ (same_mut e1 n) (q.1.same (same_mut e1 n))⟩⟩
/-- found = bear(..): a Calm -/
theorem sr_bearC (ix : Nat) {y : Str} {p : Pos} {ps : List Pl} (h : PE X e (fun σ H Q => EA X.K H σ ρ ∧ BornQ X.K ps none H Q)) (nd : X.N.Nodup) (t : ∀ l, PSs X rest (tOR X.K l (ρ.set ix (some (dCl X.K l))) (ps.map dL) d)) (hN : X.N[ix]? = some y := by rfl) (hx : Loc X.env.scope y := by first | exact Or.inl rfl | exact Or.inr rfl)
    (hf : X.fn y = true ∨ X.env.scope.names.lookup y = some .local := by first | exact .inl rfl | exact .inr rfl)
    (hs : swapsWithSole [.Name y p] e pos.line X.env = pure false := by rfl) (hw : swappedStores [.Name y p] e X.env = pure none := by rfl)
    (h1 : (assignEach [.Name y p] X.env).map (·.2) = [assign (.Name y p) X.env] := by rfl) : SR X ρ (.Assign [.Name y p] e pos :: rest) d := by
  refine pss_w (pss_cons (ps_asg h (pg_name nd hN hx hf) hs hw h1) (u := fun D σ H => ∃ l, tOR X.K l (ρ.set ix (some (dCl X.K l))) (ps.map dL) d D σ H) ⟨fun pins s σ H D I ⟨l, q⟩ => (t l).run pins s σ H D I q⟩) fun D σ H q => ⟨q.1, fun a dx l ys H1 na nl e1 ha hl al => ⟨l, ?_, ⟨ys, hl, al.ties (ties_mask hl) (noLs_dL ps)⟩, fun v H2 e2 a2 => q.2 v H2 ?_ a2⟩⟩
  · have z := q.1
    rw [← mask_new nl] at z
    have hal : a ≠ l := fun z => by
      rw [z, hl] at ha
      cases ha
    exact (z.same (mask_same e1)).set (at_dCl (by rw [mask_at hal]; exact ha))
  · exact mask_out nl ((mask_same e1).trans e2)
end
section
variable {P : Program} {w : World} {K : PySem.W.Frag} {mg : Str → Option Value} {base : Heap}
theorem sc_lcr : FnScope ["_law_rules", "_law_flag", "_law_start", "_law_places", "_law_path", "_law_one", "_law_two", "_law_found"] ["_law_rules", "_law_flag"] (defScope (top 77)) := ⟨rfl, rfl, rfl, by decide +kernel, rfl, by decide +kernel, by decide +kernel⟩
def rLcr (ds : List D) (d : D) : Prop := ∃ wd ag, ds = [dW wd, .bl ag] ∧ d = .bl true
theorem row1 (wd : Wd) (ag : Bool) : rowsP wd ag begin0 [some .begin] = [plBy wd begin0 ag .begin] := rfl
theorem ok_lcr (T : Top K w mg) : Dok P w K mg base 10 "_law_copies_right" ["_law_rules", "_law_flag"] (spD K rLcr) :=
  dokD T.d_law_copies_right sc_lcr (fun ds d ⟨wd, ag, e, _⟩ => by subst e; rfl) (fun _ _ _ _ _ _ us hl => match us, hl with | [_, _], _ => rfl) fun ds d ⟨wd, ag, e, ed⟩ f cdv A outer s' H E hr => by
    subst e ed
    refine sr_seq (sn_asg 2 (pd_to (pd_tup (pds_two (pd_tup (pds_cons pd_str (pds_cons pd_bl (pds_cons pd_bl (pds_cons (pd_tup (pds_two (pd_tup (pds_two pd_bl pd_non)) (pd_tup (pds_two pd_bl pd_non)))) pds_nil))))) pd_non)) (show _ = dL begin0 from rfl)) sc_lcr.nd) ?_
    refine sr_norm [some (dW wd), some (.bl ag), some (dL begin0), none, none, none, none, none] ?_
    refine sr_two (ps := [begin0]) (hs := [some .begin, some .lose]) T (hr.mono (by decide)) rfl sc_lcr.nd (pds_cons (pd_var 2) pds_nil) (pds_two (pd_to pd_str rfl) (pd_to pd_str rfl)) (by decide) (by decide) (fun l1 l2 => ?_)
    refine sp2_clear1 3 (sp2_clear2 4 ?_)
    refine sp2_le (ρ2 := [some (dW wd), some (.bl ag), some (dL begin0), none, none, some (dCalm K [begin0]), some (dUps K [some .begin, some .lose]), none]) (sp2_end ?_) (by repeat (first | exact Le.nil | refine Le.no ?_ | refine Le.yes ?_))
    have hsh : SeqAt.shaped (pdD (.tup ([some Deed.begin, some .lose].map dHw))) = true := by decide +kernel
    have hsh0 : SeqAt.shaped (pdD (.tup (([] : List (Option Deed)).map dHw))) = true := by decide +kernel
    refine sr_skip (pdt_is (PW.pt (pdw_or (pdt_neCC (ps := [begin0]) (qs := [begin0]) T (hr.mono (by decide)) (pd_var 5) (pd_calm T (hr.mono (by decide)) (pd_lst (pds_cons (pd_var 2) pds_nil))))
      (pdw_or (pdt_neUU (hs := [some .begin, some .lose]) (gs := [some .begin, some .lose]) T (hr.mono (by decide)) (pd_var 6) (pd_ups true T (hr.mono (by decide)) (pd_tup (pds_two (pd_to pd_str rfl) (pd_to pd_str rfl)))) hsh hsh)
      (pdw_or (pdt_eqCC (ps := [begin0]) (qs := []) T (hr.mono (by decide)) (pd_var 5) (pd_calm T (hr.mono (by decide)) (pd_lst pds_nil)))
      (pdw_or (pdt_eqUU (hs := [some .begin, some .lose]) (gs := []) T (hr.mono (by decide)) (pd_var 6) (pd_ups false T (hr.mono (by decide)) (pd_lst pds_nil)) hsh hsh0)
      (pdw_or1 (pdt_eqCU T (hr.mono (by decide)) (pd_var 5) (pd_var 6)))))))) (by decide +kernel)) ?_
    obtain ⟨fin, hist, hF⟩ := found_ex wd ag
    have hrest : SR (CxD P w K mg base ["_law_rules", "_law_flag", "_law_start", "_law_places", "_law_path", "_law_one", "_law_two", "_law_found"] "_law_copies_right" (top 77) f cdv A outer s' H E) [some (dW wd), some (.bl ag), none, none, none, none, none, none] ((defBody (top 77)).drop 8) (.bl true) := by
      refine sr_seq (sn_clearF (pdl_paf (wd := wd) (ag := ag) (hs := [some .begin]) T (hr.mono (by decide)) (by decide) (rfl) (pd_var 0) (pd_lst (pds_cons (pd_to pd_str rfl) pds_nil)) (pd_var 1))) ?_
      refine sr_skip (pdt_is (pdt_cmp (pd_lenL T.flen (pd_l (pdl_paf (wd := wd) (ag := ag) (hs := [some .begin]) T (hr.mono (by decide)) (by decide) (rfl) (pd_var 0) (pd_lst (pds_cons (pd_to pd_str rfl) pds_nil)) (pd_var 1)))) pd_int cmp_ne) (by rw [row1]; rfl)) ?_
      cases hres : resOf wd .torn (keys fin.2) hist with
      | none =>
        have hlen : (keys fin.2).length ≤ 998784 := by
          have z := (runs_loop (keepsP wd ag) hF.1 (loop0 (phiP0 wd ag))).1.inv.len
          unfold keys
          rwa [List.length_map]
        exact sr_ret (pd_to (pd_cmp (pd_csh (x := .torn) T (hr.mono (by decide)) (pe_w (pe_bear (x := .torn) T (hr.mono (by decide)) hF (pd_var 0) (pd_to pd_str rfl) (pd_var 1)) fun σ H Q q => ⟨q.1, by
          rw [hres]
          exact fun a dx l ys H' na nl e1 ha hl al => q.2 _ H' e1 (at_calm ⟨dx, l, ys, ha, hl, al⟩)⟩) (pd_var 0) (pd_to pd_str rfl) (pd_var 1) (by omega)) pd_bl cmp_isB) (by rw [born_calm hF hres]; rfl))
      | some hs =>
        obtain ⟨hu, hl⟩ := born_ups hF hres
        exact sr_ret (pd_to (pd_cmp (pd_ush (x := .torn) T (hr.mono (by decide)) (pe_w (pe_bear (x := .torn) T (hr.mono (by decide)) hF (pd_var 0) (pd_to pd_str rfl) (pd_var 1)) fun σ H Q q => ⟨q.1, by
          rw [hres]
          exact q.2⟩) (pd_var 0) (pd_to pd_str rfl) (pd_var 1) (by omega)) pd_bl cmp_isB) (by rw [hu]; rfl))
    cases hres : resOf wd .torn (keys fin.2) hist with
    | none =>
      refine sr_bearC (ps := keys fin.2) 7 (pe_w (pe_bear (ρ := [some (dW wd), some (.bl ag), some (dL begin0), none, none, some (dCalm K [begin0]), some (dUps K [some .begin, some .lose]), none]) (x := .torn) T (hr.mono (by decide)) hF (pd_var 0) (pd_to pd_str rfl) (pd_var 1)) fun σ H Q q => by rw [hres]; exact q) sc_lcr.nd (fun l => ?_)
      show PSs _ _ (tOR _ l [some (dW wd), some (.bl ag), some (dL begin0), none, none, some (dCalm K [begin0]), some (dUps K [some .begin, some .lose]), some (dCl K l)] _ _)
      refine so_seqR (so_if (ds1 := []) (pdt_val (pd_isiC T.fisinstance T.oCalm (pd_var 7) (tyCl T.oCalm) kitSelf)) (fun _ => so_seq (so_clearP T (pd_var 7)) so_nil) (fun z => by cases z)) (so_endN ?_)
      exact pss_w hrest fun D σ H q => ⟨q.1.le (by repeat (first | exact Le.nil | refine Le.no ?_ | refine Le.yes ?_)), q.2⟩
    | some hs =>
      refine sr_seq (sn_asg 7 (d := dUps K hs) (pe_w (pe_bear (x := .torn) T (hr.mono (by decide)) hF (pd_var 0) (pd_to pd_str rfl) (pd_var 1)) fun σ H Q q => ⟨q.1, by rw [hres]; exact q.2⟩) sc_lcr.nd) ?_
      show SR _ [some (dW wd), some (.bl ag), some (dL begin0), none, none, some (dCalm K [begin0]), some (dUps K [some .begin, some .lose]), some (dUps K hs)] _ _
      refine sr_seq (sn_skip (pdt_val (pd_isiC T.fisinstance T.oCalm (pd_var 7) (tyUps T.oUpset) T.kUC))) ?_
      exact pss_w hrest fun D σ H q => ⟨q.1.le (by repeat (first | exact Le.nil | refine Le.no ?_ | refine Le.yes ?_)), q.2⟩
end
end CM
set_option Elab.async false
set_option linter.all false
set_option maxRecDepth 100000
set_option maxHeartbeats 4000000
/-! CMLC: law. -/
namespace CM
open PySem L2
open PyProof.Rows (envOfC)
section
variable {X : Cx} {ρ : Kn} {iter tg : Expr} {body : List Stmt} {pos : Pos} {α : Type}
theorem sn_forT (i : Nat) (as : List α) (g : α → D) (hc : X.calm = true) (hi : PD X ρ iter (.tup (as.map g))) (hp : PassesOwn (model X.prog X.w) X.A X.env X.xe) (hg : PG X tg (gName i))
    (hb : ∀ a ∈ as, ∃ ρ3, Le ρ ρ3 ∧ SN X (ρ.set i (some (g a))) body ρ3) (hs : ∀ x, foldedSetIterable iter X.env x = pure x := by intro _; rfl) : SN1 X ρ (.For tg iter body [] pos) ρ := by
  refine ps_w (ps_for (tb := fun D σ H => ∃ a ρ3, a ∈ as ∧ Le ρ ρ3 ∧ SN X (ρ.set i (some (g a))) body ρ3 ∧ tN X.K (ρ.set i (some (g a))) ρ3 D σ H) hp hc (pi_tup hi) hg ⟨fun pins s σ H D I ⟨a, ρ3, _, _, hb, q⟩ => hb.run pins s σ H D I q⟩ hs) fun D σ H q => ?_
  refine ⟨q.1, fun v H1 e1 a1 => ?_⟩
  simp only [At] at a1
  obtain ⟨c, xs, rfl, hx, al⟩ := a1
  refine ⟨c, rfl, ⟨xs, hx⟩, ?_⟩
  refine for_tup (K := X.K) (g := gName i) (tb := fun D σ H => ∃ a ρ3, a ∈ as ∧ Le ρ ρ3 ∧ SN X (ρ.set i (some (g a))) body ρ3 ∧ tN X.K (ρ.set i (some (g a))) ρ3 D σ H) (D := D) (xs := xs) (fun n σ H' => Same H1 H' ∧ EA X.K H' σ ρ) ⟨Same.refl _, q.1.same e1⟩ (fun n σ H' _ p => sqT_same p.1 hx) (fun n v σ H' hv p => ?_) (fun σ H' p => ?_)
  · obtain ⟨d0, hd0, ad⟩ := al.get' hv
    obtain ⟨a, ha, rfl⟩ := get_map hd0
    have hm := List.mem_of_getElem? ha
    obtain ⟨ρ3, hle, hb3⟩ := hb a hm
    exact ⟨a, ρ3, hm, hle, hb3, p.2.set (ad.same p.1), fun σ3 H3 e3 ea3 => ⟨p.1.trans e3, ea3.le hle⟩⟩
  · exact q.2 σ H' (e1.trans p.1) p.2
end
def wishN (n : Int) : Wish := match (n % 4).toNat with
  | 0 => .elder
  | 1 => .left
  | 2 => .torn
  | _ => .twice
theorem at_wish (n : Int) : ([Wish.elder, .left, .torn, .twice].map dWish)[(n % 4).toNat]? = some (dWish (wishN n)) := by
  have h := small (n := n) (m := 4) (k := 4) (by decide) (by decide)
  unfold wishN
  revert h
  generalize (n % 4).toNat = j
  intro h
  match j, h with
  | 0, _ => rfl
  | 1, _ => rfl
  | 2, _ => rfl
  | 3, _ => rfl
section
variable {P : Program} {w : World} {K : PySem.W.Frag} {mg : Str → Option Value} {base : Heap}
theorem sc_law : FnScope ["_law_script", "_law_words_here", "_law_seed", "_law_rules", "_law_flag", "_law_wishes", "_law_wish"] ["_law_script"] (defScope (top 78)) := ⟨rfl, rfl, rfl, by decide +kernel, rfl, by decide +kernel, by decide +kernel⟩
def rLaw (ds : List D) (d : D) : Prop := ∃ ns : List Int, ds = [.lst (ns.map D.int)] ∧ d = .bl true
theorem law_sr (T : Top K w mg) : ∀ ds d, rLaw ds d → ∀ (f : Addr) (cdv : Value) (A : Around) (outer : List Env) (s : Shared) (H : Hp) (E : XK), Room 10 (A.deeper (envOfC "law" (defScope (top 78)) s.heap.objs.size f cdv)) →
      SR (CxD P w K mg base ["_law_script", "_law_words_here", "_law_seed", "_law_rules", "_law_flag", "_law_wishes", "_law_wish"] "law" (top 78) f cdv A outer s H E) (kn0 ["_law_script", "_law_words_here", "_law_seed", "_law_rules", "_law_flag", "_law_wishes", "_law_wish"] ds) (defBody (top 78)) d := fun ds d ⟨ns, e, ed⟩ f cdv A outer s' H E hr => by
    subst e ed
    refine sr_seq (sn_par 1 2 (pd_call (ok_wds T) (hr.mono (by decide)) (pds_two (pd_var 0) pd_int) ⟨ns, 0, rfl, rfl⟩) (pd_intc T.fint (pd_call (ok_num T) (hr.mono (by decide)) (pds_two (pd_var 0) pd_int) ⟨ns, 2, rfl, rfl⟩)) sc_law.nd rfl) ?_
    refine sr_norm [some (.lst (ns.map D.int)), some (dWs (theWd ns 0)), some (.int (lawNum ns 2)), none, none, none, none] ?_
    refine sr_seq (sn_par3 3 4 5 (pd_call (ok_mad T) (hr.mono (by decide)) (pds_cons (pd_var 1) pds_nil) ⟨theWd ns 0, rfl, rfl⟩) (pd_cmp (pd_mod (pd_intc T.fint (pd_var 2)) pd_int (by decide)) pd_int cmp_eq) (pd_to (pd_tup (pds_cons pd_str (pds_cons pd_str (pds_cons pd_str (pds_cons pd_str pds_nil))))) (show _ = D.tup ([Wish.elder, .left, .torn, .twice].map dWish) from rfl)) sc_law.nd rfl) ?_
    refine sr_norm [some (.lst (ns.map D.int)), some (dWs (theWd ns 0)), some (.int (lawNum ns 2)), some (dW (theWd ns 0)), some (.bl (eqD (.int (lawNum ns 2 % 2)) (.int 0))), some (.tup ([Wish.elder, .left, .torn, .twice].map dWish)), none] ?_
    refine sr_seq (sn_forT 6 [wishN (lawNum ns 2 / 2), wishN (lawNum ns 2 / 8)] dWish rfl (pd_tup (pds_two (pd_ix (pd_var 5) (pd_mod (pd_intc T.fint (pd_fdiv (pd_var 2) pd_int ⟨by decide, by decide⟩)) pd_int (by decide)) (atI_mod (by decide) (at_wish _))) (pd_ix (pd_var 5) (pd_mod (pd_intc T.fint (pd_fdiv (pd_var 2) pd_int ⟨by decide, by decide⟩)) pd_int (by decide)) (atI_mod (by decide) (at_wish _))))) PassesOwn.never (pg_name (i := 6) sc_law.nd rfl (Or.inl rfl)) (fun x hx => ?_)) (sr_ret (pd_call (ok_lcr T) (hr.mono (by decide)) (pds_two (pd_var 3) (pd_var 4)) ⟨theWd ns 0, _, rfl, rfl⟩))
    refine ⟨[some (.lst (ns.map D.int)), some (dWs (theWd ns 0)), some (.int (lawNum ns 2)), some (dW (theWd ns 0)), some (.bl (eqD (.int (lawNum ns 2 % 2)) (.int 0))), some (.tup ([Wish.elder, .left, .torn, .twice].map dWish)), some (dWish x)], by repeat (first | exact Le.nil | refine Le.no ?_ | refine Le.yes ?_), ?_⟩
    show SN _ [some (.lst (ns.map D.int)), some (dWs (theWd ns 0)), some (.int (lawNum ns 2)), some (dW (theWd ns 0)), some (.bl (eqD (.int (lawNum ns 2 % 2)) (.int 0))), some (.tup ([Wish.elder, .left, .torn, .twice].map dWish)), some (dWish x)] _ _
    exact sn_seq (sn_skip (pdt_is (pdt_not (pdt_val (pd_call (ok_lwi T) (hr.mono (by decide)) (pds_cons (pd_var 0) (pds_cons (pd_var 1) (pds_cons (pd_var 3) (pds_two (pd_var 6) (pd_var 4))))) ⟨ns, theWd ns 0, x, _, rfl, rfl⟩))) rfl)) sn_nil
theorem law_fn {f : Addr} {fd : FuncData} (T : Top K w mg) (F : FunD K "law" "law" (defArgs (top 78)) (defBody (top 78)) (defScope (top 78)) [] [] f fd) : FnOk P w K mg base CX0 11 f fd ["_law_script"] (spD K rLaw) :=
  F.ok sc_law (fun vs H Q E ⟨ds, d, ⟨ns, e, _⟩, al, _⟩ => by subst e; rw [al.length]; rfl) fun cdv A outer s H vs Q E hr ⟨ds, d, r, al, q⟩ =>
    ⟨_, PSs.nox (law_sr T ds d r f cdv A outer s H E hr), EA.start al, q⟩
end
end CM
open PySem PySem.W PySem.Calls PyProof.Rows
theorem PySem.Challenge.cw_copymarks_k52_whole_losing_shown_holds : PySem.Challenge.rw_copymarks_k52_whole_losing_shown.Holds := by
  w_on; o_law
  refine HandSHeadRun.head_any (r := OpenLaw.row PySem.Challenge.rw_copymarks_k52_whole_losing_shown) (q := view (OpenLaw.row PySem.Challenge.rw_copymarks_k52_whole_losing_shown).prog [78]) (H := CM.hk) (ob := CM.hob) (M := 20000) (loose := CM.hnames) (d := HandSHeadRun.topDef (OpenLaw.row PySem.Challenge.rw_copymarks_k52_whole_losing_shown).prog 78) (kwd := []) CM.hob_eq
    (by kernel_rfl) (fun s => by kernel_rfl) CM.hrun (by kernel_rfl) (by kernel_rfl) (by kernel_rfl) (by rfl) (by first | assumption | decide +kernel) (by decide +kernel) ⟨rfl, rfl, rfl, rfl, rfl, by decide +kernel⟩ ?hw ?hc
  case hw => w_witness2
  case hc =>
    refine L2.walk_ofE (l := PySem.Challenge.rw_copymarks_k52_whole_losing_shown) (n := 63) (k := 11) (x := "_law_script") (CX := L2.CX0) rfl (by decide) (by kernel_rfl) ⟨rfl, by decide, by decide⟩ ?F (fun _ _ _ _ z => z)
    intro w mg fa h Y G hmg0
    obtain ⟨K, KX, c⟩ := Y
    have hmg : mg ("law" : PySem.Str) = some (.ref fa) := by
      have e : (HandSHeadRun.topDef (OpenLaw.row PySem.Challenge.rw_copymarks_k52_whole_losing_shown).prog 78).name = ("law" : PySem.Str) := by kernel_rfl
      rw [← e]
      exact hmg0
    have T : CM.Top K w mg := CM.top_of KX G c
    obtain ⟨f, fd, F, hm⟩ := T.dlaw
    have ef : f = fa := by
      have := hm.symm.trans hmg
      exact Value.ref.inj (Option.some.inj this)
    subst ef
    have b := L2.FunD.bindsA (ps := ["_law_script"]) F fun _ _ _ _ _ _ us hl => match us, hl with | [_], _ => rfl
    refine ⟨K, fd, CM.spD K CM.rLaw, KX, fun s v => b s [v] rfl, fun H a ns hl _ hS => ⟨_, _, ⟨ns, rfl, rfl⟩, CM.AtL.cons (CM.at_lst hS ?_) CM.AtL.nil, fun v H' e az => by simpa only [CM.At] using az⟩, fun base _ _ => CM.law_fn T F⟩
    clear hl hS
    induction ns with
    | nil => exact CM.AtL.nil
    | cons n ns ih => exact CM.AtL.cons (by simp only [CM.At]) ih
