import PyProof.Rows.All
import Wide.All
import OpenK.AllK
import Wide.FinOn
import PyProof.EqAt
import PyProof.EqKinds
import PyProof.TupleCall
import HandS.ForMost
import HandS.Exc
import HandS.TryOnly
import HandS.ExcInit
import HandS.ExcField
import HandS.IsInst
import HandS.Deep
import HandS.TupAny
import HandS.Zip
import HandS.Conv
import HandS.More
import HandS.Strs
import HandS.Walk
import HandS.Flow
import PyProof.SeqIndex
import KE.KIndexOf
import PyProof.EnumMake
import KE.GoesEnum
import HandS.WordsExc
import HandS.Ends
import PySem.Challenge.RW_tabletalk_k58_whole_questions
set_option Elab.async false
set_option linter.all false
set_option maxRecDepth 100000
set_option maxHeartbeats 0
namespace TT
open PySem PySem.Spec PyProof.Rows L2

theorem ltb {i n : Nat} (h : Nat.ble (i + 1) n = true) : i < n := Nat.le_of_ble_eq_true h
theorem leb {i n : Nat} (h : Nat.ble i n = true) : i ≤ n := Nat.le_of_ble_eq_true h
/-! ### data environments -/
abbrev Rho := List (Option PyData)
def lk : Rho → Nat → Option PyData
  | [], _ => none
  | d :: _, 0 => d
  | _ :: r, i + 1 => lk r i
def st : Rho → Nat → Option PyData → Rho
  | [], _, _ => []
  | _ :: r, 0, d => d :: r
  | x :: r, i + 1, d => x :: st r i d
theorem st_length : ∀ (r : Rho) (i : Nat) (d : Option PyData), (st r i d).length = r.length
  | [], _, _ => rfl
  | _ :: _, 0, _ => rfl
  | _ :: r, i + 1, d => congrArg (· + 1) (st_length r i d)
theorem lk_st : ∀ (r : Rho) (i j : Nat) (d e : Option PyData), lk (st r i d) j = e → (i = j ∧ e = d) ∨ (i ≠ j ∧ lk r j = e) ∨ e = none
  | [], _, _, _, _, h => .inr (.inr h.symm)
  | _ :: _, 0, 0, _, _, h => .inl ⟨rfl, h.symm⟩
  | _ :: _, 0, j + 1, _, _, h => .inr (.inl ⟨by omega, h⟩)
  | _ :: _, i + 1, 0, _, _, h => .inr (.inl ⟨by omega, h⟩)
  | _ :: r, i + 1, j + 1, d, e, h => by
    rcases lk_st r i j d e h with ⟨h1, h2⟩ | ⟨h1, h2⟩ | h1
    · exact .inl ⟨by omega, h2⟩
    · exact .inr (.inl ⟨by omega, h2⟩)
    · exact .inr (.inr h1)

/-! ### heaps -/
theorem sqT_same {K : PySem.W.Frag} {H H' : Hp} {a : Addr} {xs : List V} (e : Same H H') (h : SqT K H a xs) : SqT K H' a xs := by
  rcases h with (h | ⟨o, h⟩) | h
  · exact .inl (.inl (e _ _ h))
  · exact .inl (.inr ⟨o, e _ _ h⟩)
  · exact .inr h
mutual
theorem dp_same {K : PySem.W.Frag} {H H' : Hp} (s : Same H H') : ∀ (d : PyData) (v : V), Dp K H v d → Dp K H' v d
  | .none, _, h => by cases h; exact .non
  | .bool b, _, h => by cases h; exact .bl b
  | .int i, _, h => by cases h; exact .int i
  | .str x, _, h => by cases h; exact .str x
  | .list ds, _, h => by
    cases h with
    | lst hs ha => exact .lst (s.seq hs) (dpA_same s ds _ ha)
  | .tuple ds, _, h => by
    cases h with
    | tup hs ha => exact .tup (sqT_same s hs) (dpA_same s ds _ ha)
  | .dict _, _, h => by cases h
theorem dpA_same {K : PySem.W.Frag} {H H' : Hp} (s : Same H H') : ∀ (ds : List PyData) (vs : List V), DpAll K H vs ds → DpAll K H' vs ds
  | [], _, h => by cases h; exact .nil
  | d :: ds, _, h => by
    cases h with
    | cons h1 h2 => exact .cons (dp_same s d _ h1) (dpA_same s ds _ h2)
end
theorem _root_.L2.Dp.same {K : PySem.W.Frag} {H H' : Hp} {d : PyData} {v : V} (h : Dp K H v d) (s : Same H H') : Dp K H' v d := dp_same s d v h
theorem _root_.L2.DpAll.same {K : PySem.W.Frag} {H H' : Hp} {ds : List PyData} {vs : List V} (h : DpAll K H vs ds) (s : Same H H') : DpAll K H' vs ds := dpA_same s ds vs h
theorem _root_.L2.DpAll.length {K : PySem.W.Frag} {H : Hp} : ∀ {ds : List PyData} {vs : List V}, DpAll K H vs ds → vs.length = ds.length
  | [], _, h => by cases h; rfl
  | _ :: _, _, h => by
    cases h with
    | cons _ h2 => exact congrArg (· + 1) h2.length
theorem _root_.L2.DpAll.get {K : PySem.W.Frag} {H : Hp} : ∀ {ds : List PyData} {vs : List V} {i : Nat} {d : PyData}, DpAll K H vs ds → ds[i]? = some d → ∃ v, vs[i]? = some v ∧ Dp K H v d
  | [], _, i, _, h, e => by simp at e
  | x :: ds, _, 0, d, h, e => by
    cases h with
    | cons h1 h2 =>
      have e' : x = d := by simpa using e
      subst e'
      exact ⟨_, rfl, h1⟩
  | _ :: ds, _, i + 1, d, h, e => by
    cases h with
    | cons h1 h2 =>
      obtain ⟨v, h3, h4⟩ := h2.get (i := i) (d := d) (by simpa using e)
      exact ⟨v, by simpa using h3, h4⟩
theorem _root_.L2.DpAll.append {K : PySem.W.Frag} {H : Hp} : ∀ {ds es : List PyData} {vs us : List V}, DpAll K H vs ds → DpAll K H us es → DpAll K H (vs ++ us) (ds ++ es)
  | [], _, _, _, h, g => by cases h; exact g
  | _ :: _, _, _, _, h, g => by
    cases h with
    | cons h1 h2 => exact .cons h1 (h2.append g)
theorem dpA_one {K : PySem.W.Frag} {H : Hp} {d : PyData} {v : V} (h : Dp K H v d) : DpAll K H [v] [d] := .cons h .nil

/-- the addresses of O hidden -/
def hidL (O : List Addr) (H : Hp) : Hp := fun b => if b ∈ O then none else H b
def Trk (O : List Addr) (H : Hp) : Prop := ∀ a ∈ O, H a ≠ none
theorem hid_sub {O : List Addr} {H : Hp} : Same (hidL O H) H := fun b o e => by
  unfold hidL at e
  split at e
  · cases e
  · exact e
theorem hid_same {O : List Addr} {H H' : Hp} (s : Same H H') : Same (hidL O H) (hidL O H') := fun b o e => by
  unfold hidL at e ⊢
  split at e
  · cases e
  · rename_i h
    rw [if_neg h]
    exact s b o e
theorem Trk.mono {O : List Addr} {H H' : Hp} (t : Trk O H) (s : Same H H') : Trk O H' := fun a ha e => by
  cases q : H a with
  | none => exact t a ha q
  | some o =>
    rw [s a o q] at e
    cases e
theorem Trk.out {O : List Addr} {H : Hp} (t : Trk O H) {p : Addr} (h : H p = none) : p ∉ O := fun hp => t p hp h
theorem hid_at {O : List Addr} {H : Hp} {p : Addr} {o : HO} (n : p ∉ O) (h : H p = some o) : hidL O H p = some o := by
  unfold hidL
  rw [if_neg n]
  exact h
theorem same_new {H : Hp} {p : Addr} {o : HO} (h : H p = none) : Same H (upd H p o) := fun b x e => by
  rw [upd_ne (ne_of_none e h)]
  exact e
theorem same_hid_new {O : List Addr} {H h : Hp} {D : Addr} (s : Same H h) (n : H D = none) : Same (hidL O H) (hidL (D :: O) h) := fun b o e => by
  unfold hidL at e ⊢
  split at e
  · cases e
  · rename_i hb
    have hD : b ≠ D := ne_of_none e n
    rw [if_neg (by simp only [List.mem_cons, not_or]; exact ⟨hD, hb⟩)]
    exact s b o e
theorem hid_less {O : List Addr} {H : Hp} {D : Addr} : Same (hidL (D :: O) H) (hidL O H) := fun b o e => by
  unfold hidL at e ⊢
  split at e
  · cases e
  · rename_i hb
    simp only [List.mem_cons, not_or] at hb
    rw [if_neg hb.2]
    exact e
theorem same_put {H h : Hp} {D : Addr} {o : HO} (s : Same H h) (n : H D = none) : Same H (upd h D o) := fun b u e => by
  rw [upd_ne (ne_of_none e n)]
  exact s b u e
theorem hid_put {O : List Addr} {h : Hp} {D : Addr} {o : HO} : Same (hidL (D :: O) h) (hidL (D :: O) (upd h D o)) := fun b u e => by
  unfold hidL at e ⊢
  split at e
  · cases e
  · rename_i hb
    rw [if_neg hb]
    simp only [List.mem_cons, not_or] at hb
    rw [upd_ne hb.1]
    exact e

/-- the slots bear the data -/
def SD (K : PySem.W.Frag) (H : Hp) (σ : L2.St) (ρ : Rho) : Prop := σ.length = ρ.length ∧ ∀ i d, lk ρ i = some d → ∃ v, σ[i]? = some (some v) ∧ Dp K H v d
theorem SD.same {K : PySem.W.Frag} {H H' : Hp} {σ : L2.St} {ρ : Rho} (h : SD K H σ ρ) (s : Same H H') : SD K H' σ ρ := ⟨h.1, fun i d e => by
  obtain ⟨v, h1, h2⟩ := h.2 i d e
  exact ⟨v, h1, h2.same s⟩⟩
theorem SD.set {K : PySem.W.Frag} {H : Hp} {σ : L2.St} {ρ : Rho} {i : Nat} {v : V} {d : PyData} (h : SD K H σ ρ) (hi : i < ρ.length) (hv : Dp K H v d) : SD K H (σ.set i (some v)) (st ρ i (some d)) := by
  refine ⟨by rw [List.length_set, st_length]; exact h.1, fun j e he => ?_⟩
  rcases lk_st ρ i j (some d) (some e) he with ⟨h1, h2⟩ | ⟨h1, h2⟩ | h1
  · cases h2
    subst h1
    exact ⟨v, by rw [List.getElem?_set_self (by rw [h.1]; exact hi)], hv⟩
  · obtain ⟨u, h3, h4⟩ := h.2 j e h2
    exact ⟨u, by rw [List.getElem?_set_ne h1]; exact h3, h4⟩
  · cases h1
def wipeR (ρ : Rho) : List Nat → Rho
  | [] => ρ
  | v :: vs => st (wipeR ρ vs) v none
theorem wipeR_length (ρ : Rho) : ∀ vs : List Nat, (wipeR ρ vs).length = ρ.length
  | [] => rfl
  | v :: vs => by
    show (st (wipeR ρ vs) v none).length = _
    rw [st_length, wipeR_length ρ vs]
theorem SD.wipe {K : PySem.W.Frag} {H : Hp} {σ : L2.St} {ρ : Rho} (h : SD K H σ ρ) : ∀ vs : List Nat, SD K H (wipe σ vs) (wipeR ρ vs)
  | [] => h
  | v :: vs => by
    have g := SD.wipe h vs
    refine ⟨?_, fun j e he => ?_⟩
    · show ((L2.wipe σ vs).set v none).length = (st (wipeR ρ vs) v none).length
      rw [List.length_set, st_length]
      exact g.1
    · rcases lk_st (wipeR ρ vs) v j none (some e) he with ⟨h1, h2⟩ | ⟨h1, h2⟩ | h1
      · cases h2
      · obtain ⟨u, h3, h4⟩ := g.2 j e h2
        refine ⟨u, ?_, h4⟩
        show ((L2.wipe σ vs).set v none)[j]? = some (some u)
        rw [List.getElem?_set_ne h1]
        exact h3
      · cases h1

/-! ### semantic readings -/
def sE (X : Cx) (e : Expr) : TE := fun σ H Q => ∀ pins s, Inv X pins σ H s → wpAny (model X.prog X.w) X.A (eval e X.env) (EP X pins σ Q) X.xe s
def sT (X : Cx) (e : Expr) : TT := fun σ H Q => ∀ pins s, Inv X pins σ H s → wpAny (model X.prog X.w) X.A (isTrue e X.env (eval e X.env)) (TP X pins σ Q) X.xe s
def sW (X : Cx) (e : Expr) : TT := fun σ H Q => ∀ whole pins s, Inv X pins σ H s → wpAny (model X.prog X.w) X.A (isTrue e X.env whole) (TP X pins σ Q) X.xe s
def sA (X : Cx) (es : List Expr) : TA := fun σ H Q => ∀ pos pins s, Inv X pins σ H s → wpAny (model X.prog X.w) X.A (spliced (backTo pos (starEach es X.env))) (AP X pins σ Q) X.xe s
def sI (X : Cx) (tg iter : Expr) : TI := fun σ H R => ∀ pins s, Inv X pins σ H s → wpAny (model X.prog X.w) X.A (eval iter X.env) (fun v s1 => wpAny (model X.prog X.w) X.A (pyIter v) (PIE X pins σ tg R) X.xe s1) X.xe s
def sP (X : Cx) (st : Stmt) : TS := fun D σ H => ∀ pins s, Inv X pins σ H s → wpAny (model X.prog X.w) X.A (exec st X.env) (SP X pins D) X.xe s
def sPs (X : Cx) (st : List Stmt) : TS := fun D σ H => ∀ pins s, Inv X pins σ H s → wpAny (model X.prog X.w) X.A (execs st X.env) (SP X pins D) X.xe s
section
variable {X : Cx} {e tg : Expr} {es : List Expr} {σ : L2.St} {H : Hp}
theorem sE_ok : PE X e (sE X e) := ⟨fun pins s σ H Q I h => h pins s I⟩
theorem sT_ok : PT X e (sT X e) := ⟨fun pins s σ H Q I h => h pins s I⟩
theorem sW_ok : PW X e (sW X e) := ⟨fun wh pins s σ H Q I h => h wh pins s I⟩
theorem sA_ok : PA X es (sA X es) := ⟨fun pos pins s σ H Q I h => h pos pins s I⟩
theorem sI_ok : PI X tg e (sI X tg e) := ⟨fun pins s σ H Q I h => h pins s I⟩
theorem sP_ok {st : Stmt} : PS X st (sP X st) := ⟨fun pins s σ H Q I h => h pins s I⟩
theorem sPs_ok {st : List Stmt} : PSs X st (sPs X st) := ⟨fun pins s σ H Q I h => h pins s I⟩
theorem _root_.L2.PE.se {t : TE} {Q : VK} (h : PE X e t) (q : t σ H Q) : sE X e σ H Q := fun pins s I => h.run pins s σ H Q I q
theorem _root_.L2.PT.se {t : TT} {Q : Bool → Hp → Prop} (h : PT X e t) (q : t σ H Q) : sT X e σ H Q := fun pins s I => h.run pins s σ H Q I q
theorem _root_.L2.PW.se {t : TT} {Q : Bool → Hp → Prop} (h : PW X e t) (q : t σ H Q) : sW X e σ H Q := fun wh pins s I => h.run wh pins s σ H Q I q
theorem _root_.L2.PA.se {t : TA} {Q : List V → Hp → Prop} (h : PA X es t) (q : t σ H Q) : sA X es σ H Q := fun pos pins s I => h.run pos pins s σ H Q I q
theorem _root_.L2.PI.se {t : TI} {Q : It → Hp → Prop} (h : PI X tg e t) (q : t σ H Q) : sI X tg e σ H Q := fun pins s I => h.run pins s σ H Q I q
theorem _root_.L2.PS.se {st : Stmt} {t : TS} {D : Ends} (h : PS X st t) (q : t D σ H) : sP X st D σ H := fun pins s I => h.run pins s σ H D I q
theorem _root_.L2.PSs.se {st : List Stmt} {t : TS} {D : Ends} (h : PSs X st t) (q : t D σ H) : sPs X st D σ H := fun pins s I => h.run pins s σ H D I q
end

/-! ### the judgements -/
structure GE (X : Cx) (e : Expr) (ρ : Rho) (d : PyData) : Prop where
  run : ∀ (O : List Addr) (σ : L2.St) (H : Hp), Trk O H → SD X.K (hidL O H) σ ρ → ∀ Q : VK, (∀ v H', Same H H' → Dp X.K (hidL O H') v d → Q v H') → sE X e σ H Q
structure GT (X : Cx) (e : Expr) (ρ : Rho) (b : Bool) : Prop where
  run : ∀ (O : List Addr) (σ : L2.St) (H : Hp), Trk O H → SD X.K (hidL O H) σ ρ → ∀ Q : Bool → Hp → Prop, (∀ H', Same H H' → Q b H') → sT X e σ H Q
structure GW (X : Cx) (e : Expr) (ρ : Rho) (b : Bool) : Prop where
  run : ∀ (O : List Addr) (σ : L2.St) (H : Hp), Trk O H → SD X.K (hidL O H) σ ρ → ∀ Q : Bool → Hp → Prop, (∀ H', Same H H' → Q b H') → sW X e σ H Q
structure GA (X : Cx) (es : List Expr) (ρ : Rho) (ds : List PyData) : Prop where
  run : ∀ (O : List Addr) (σ : L2.St) (H : Hp), Trk O H → SD X.K (hidL O H) σ ρ → ∀ Q : List V → Hp → Prop, (∀ vs H', Same H H' → DpAll X.K (hidL O H') vs ds → Q vs H') → sA X es σ H Q
/-- a new list -/
structure GEL (X : Cx) (e : Expr) (ρ : Rho) (ds : List PyData) : Prop where
  run : ∀ (O : List Addr) (σ : L2.St) (H : Hp), Trk O H → SD X.K (hidL O H) σ ρ → ∀ Q : VK, (∀ p xs H', H p = none → Same H H' → H' p = some (.lst xs) → DpAll X.K (hidL (p :: O) H') xs ds → Q (.ref p) H') → sE X e σ H Q
section
variable {X : Cx} {e a b c : Expr} {es : List Expr} {ρ : Rho} {d da db dc : PyData} {pos : Pos} {K : PySem.W.Frag}
theorem GE.to {d' : PyData} (h : GE X e ρ d) (q : d = d') : GE X e ρ d' := q ▸ h
theorem GT.to {k k' : Bool} (h : GT X e ρ k) (q : k = k') : GT X e ρ k' := q ▸ h
theorem GEL.to {ds ds' : List PyData} (h : GEL X e ρ ds) (q : ds = ds') : GEL X e ρ ds' := q ▸ h
theorem GEL.ge {ds : List PyData} (h : GEL X e ρ ds) : GE X e ρ (.list ds) := ⟨fun O σ H tO sd Q q => h.run O σ H tO sd Q fun p xs H' hp s hx ha => q _ _ s (.lst (.of (hid_at (tO.out hp) hx)) (ha.same hid_less))⟩
theorem gv (i : Nat) {x : Str} (hd : lk ρ i = some d := by rfl) (hN : X.N[i]? = some x := by rfl) (hv : Vis X.env.scope x := by first | exact Or.inl rfl | exact Or.inr (Or.inl rfl) | exact Or.inr (Or.inr rfl)) (h1 : (x == ("__debug__" : Str)) = false := by decide)
    (h2 : (x == ("__classdict__" : Str)) = false := by decide) : GE X (.Name x pos) ρ d := ⟨fun O σ H tO sd Q q => by
  obtain ⟨v, h3, h4⟩ := sd.2 i d hd
  exact (pe_var hN hv h1 h2).se ⟨v, h3, q v H (Same.refl _) h4⟩⟩
theorem g_int {i : Int} {j} : GE X (.Constant (.int i) j pos) ρ (.int i) := ⟨fun O σ H tO sd Q q => pe_int.se (q _ _ (Same.refl _) (.int i))⟩
theorem g_bl {i : Bool} {j} : GE X (.Constant (.bool i) j pos) ρ (.bool i) := ⟨fun O σ H tO sd Q q => pe_bl.se (q _ _ (Same.refl _) (.bl i))⟩
theorem g_non {j} : GE X (.Constant .none j pos) ρ .none := ⟨fun O σ H tO sd Q q => pe_non.se (q _ _ (Same.refl _) .non)⟩
theorem g_str {x : Str} {j} : GE X (.Constant (.str x) j pos) ρ (.str x) := ⟨fun O σ H tO sd Q q => pe_str.se (q _ _ (Same.refl _) (.str x))⟩
theorem g_globI {x : Str} {i : Int} {t : Tok} (hm : X.mg x = some (.int i t)) (hg : Gl X x := by rfl) (hd : (x == ("__debug__" : Str)) = false := by decide) : GE X (.Name x pos) ρ (.int i) :=
  ⟨fun O σ H tO sd Q q => (pe_glob (v := .int i) hg hm ⟨t, rfl⟩ hd).se (q _ _ (Same.refl _) (.int i))⟩
/-- a two-place operation on data -/
def RD2 (K : PySem.W.Frag) (r : R2) (a b d : PyData) : Prop := ∀ (O : List Addr) (H : Hp) (x y : V) (Q : VK), Trk O H → Dp K (hidL O H) x a → Dp K (hidL O H) y b → (∀ v H', Same H H' → Dp K (hidL O H') v d → Q v H') → r x y H Q
def RD1 (K : PySem.W.Frag) (r : List V → Hp → VK → Prop) (ds : List PyData) (d : PyData) : Prop := ∀ (O : List Addr) (H : Hp) (vs : List V) (Q : VK), Trk O H → DpAll K (hidL O H) vs ds → (∀ v H', Same H H' → Dp K (hidL O H') v d → Q v H') → r vs H Q
theorem two {r : R2} (ha : GE X a ρ da) (hb : GE X b ρ db) (hr : RD2 X.K r da db d) {O : List Addr} {σ : L2.St} {H : Hp} (tO : Trk O H) (sd : SD X.K (hidL O H) σ ρ) {Q : VK} (q : ∀ v H', Same H H' → Dp X.K (hidL O H') v d → Q v H') : tOp r (sE X a) (sE X b) σ H Q :=
  ha.run O σ H tO sd _ fun x H1 s1 dx => hb.run O σ H1 (tO.mono s1) (sd.same (hid_same s1)) _ fun y H2 s2 dy => hr O H2 x y Q ((tO.mono s1).mono s2) (dx.same (hid_same s2)) dy fun v H3 s3 dv => q v H3 ((s1.trans s2).trans s3) dv
theorem g_op {op : Operator} {r : R2} (ho : OpR X (binaryOp op) r) (hr : RD2 X.K r da db d) (ha : GE X a ρ da) (hb : GE X b ρ db) : GE X (.BinOp a op b pos) ρ d :=
  ⟨fun O σ H tO sd Q q => (pe_op ho sE_ok sE_ok).se (two ha hb hr tO sd q)⟩
theorem g_cmp {op : CmpOp} {r : R2} (ho : OpR X (compareOp op) r) (hr : RD2 X.K r da db d) (ha : GE X a ρ da) (hb : GE X b ρ db) (hm : behindInMarks op b = false) : GE X (.Compare a [op] [b] pos) ρ d :=
  ⟨fun O σ H tO sd Q q => (pe_cmpR ho sE_ok sE_ok hm).se (two ha hb hr tO sd q)⟩
theorem t_cmp {k : Bool} {op : CmpOp} {r : R2} (ho : OpR X (compareOp op) r) (hr : RD2 X.K r da db (.bool k)) (ha : GE X a ρ da) (hb : GE X b ρ db) (hm : behindInMarks op b = false) : GT X (.Compare a [op] [b] pos) ρ k :=
  ⟨fun O σ H tO sd Q q => (pt_cmpR ho sE_ok sE_ok hm).se (two ha hb hr tO sd fun v H' s dv => by cases dv; exact ⟨k, rfl, q H' s⟩)⟩
/-- low <= x <= high -/
theorem g_chain {i j k : Int} (ha : GE X a ρ (.int i)) (hb : GE X b ρ (.int j)) (hc : GE X c ρ (.int k)) (hm : lastMarks [.LtE, .LtE] [b, c] = false := by with_unfolding_all rfl) : GE X (.Compare a [.LtE, .LtE] [b, c] pos) ρ (.bool (decide (i ≤ j) && decide (j ≤ k))) :=
  ⟨fun O σ H tO sd Q q => (pe_chain op_le op_le sE_ok sE_ok sE_ok hm).se (ha.run O σ H tO sd _ fun x H1 s1 dx => hb.run O σ H1 (tO.mono s1) (sd.same (hid_same s1)) _ fun y H2 s2 dy => by
    cases dx
    cases dy
    refine ⟨i, j, rfl, rfl, _, rfl, ?_⟩
    by_cases h : i ≤ j
    · rw [decide_eq_true h]
      refine iteT (hc.run O σ H2 ((tO.mono s1).mono s2) ((sd.same (hid_same s1)).same (hid_same s2)) _ fun z H3 s3 dz => ?_)
      cases dz
      have q' := q (.bl (decide (j ≤ k))) H3 ((s1.trans s2).trans s3)
      rw [decide_eq_true h, Bool.true_and] at q'
      exact ⟨j, k, rfl, rfl, q' (.bl _)⟩
    · rw [decide_eq_false h]
      refine iteF ?_
      have q' := q (.bl false) H2 (s1.trans s2)
      rw [decide_eq_false h, Bool.false_and] at q'
      exact q' (.bl _))⟩
theorem t_chain {i j k : Int} (ha : GE X a ρ (.int i)) (hb : GE X b ρ (.int j)) (hc : GE X c ρ (.int k)) (hm : lastMarks [.LtE, .LtE] [b, c] = false := by with_unfolding_all rfl) : GT X (.Compare a [.LtE, .LtE] [b, c] pos) ρ (decide (i ≤ j) && decide (j ≤ k)) :=
  ⟨fun O σ H tO sd Q q => (pt_chain op_le op_le sE_ok sE_ok sE_ok hm).se (ha.run O σ H tO sd _ fun x H1 s1 dx => hb.run O σ H1 (tO.mono s1) (sd.same (hid_same s1)) _ fun y H2 s2 dy => by
    cases dx
    cases dy
    refine ⟨i, j, rfl, rfl, _, rfl, ?_⟩
    by_cases h : i ≤ j
    · rw [decide_eq_true h]
      refine iteT (hc.run O σ H2 ((tO.mono s1).mono s2) ((sd.same (hid_same s1)).same (hid_same s2)) _ fun z H3 s3 dz => ?_)
      cases dz
      have q' := q H3 ((s1.trans s2).trans s3)
      rw [decide_eq_true h, Bool.true_and] at q'
      exact ⟨j, k, rfl, rfl, _, rfl, q'⟩
    · rw [decide_eq_false h]
      refine iteF ?_
      have q' := q H2 (s1.trans s2)
      rw [decide_eq_false h, Bool.false_and] at q'
      exact ⟨_, rfl, q'⟩)⟩
theorem t_val {k : Bool} (h : GE X e ρ (.bool k)) (he : ∀ whole, isTrue e X.env whole = (do let v ← whole; standAt e.pos; holding [v] (truthy v)) := by intro _; rfl) : GT X e ρ k :=
  ⟨fun O σ H tO sd Q q => (pt_val sE_ok he).se (h.run O σ H tO sd _ fun v H' s dv => by cases dv; exact ⟨k, rfl, q H' s⟩)⟩
theorem t_not {k : Bool} (h : GT X a ρ k) : GT X (.UnaryOp .Not a pos) ρ (!k) := ⟨fun O σ H tO sd Q q => (pt_not sT_ok).se (h.run O σ H tO sd _ fun H' s => q H' s)⟩
theorem t_w {k : Bool} (h : GW X e ρ k) : GT X e ρ k := ⟨fun O σ H tO sd Q q => sW_ok.pt.se (h.run O σ H tO sd Q q)⟩
variable {rest : List Expr} {k l : Bool}
theorem w_and1 (h : GT X a ρ k) : GW X (.BoolOp .And [a] pos) ρ k := ⟨fun O σ H tO sd Q q => (pw_and1 sT_ok).se (h.run O σ H tO sd Q q)⟩
theorem w_or1 (h : GT X a ρ k) : GW X (.BoolOp .Or [a] pos) ρ k := ⟨fun O σ H tO sd Q q => (pw_or1 sT_ok).se (h.run O σ H tO sd Q q)⟩
theorem w_and (ha : GT X a ρ k) (hb : k = true → GW X (.BoolOp .And (b :: rest) pos) ρ l) : GW X (.BoolOp .And (a :: b :: rest) pos) ρ (k && l) :=
  ⟨fun O σ H tO sd Q q => (pw_and sT_ok sW_ok).se (ha.run O σ H tO sd _ fun H1 s1 => by
    cases k with
    | true => exact iteT ((hb rfl).run O σ H1 (tO.mono s1) (sd.same (hid_same s1)) _ fun H2 s2 => q H2 (s1.trans s2))
    | false => exact iteF (q H1 s1))⟩
theorem w_or (ha : GT X a ρ k) (hb : k = false → GW X (.BoolOp .Or (b :: rest) pos) ρ l) : GW X (.BoolOp .Or (a :: b :: rest) pos) ρ (k || l) :=
  ⟨fun O σ H tO sd Q q => (pw_or sT_ok sW_ok).se (ha.run O σ H tO sd _ fun H1 s1 => by
    cases k with
    | true => exact iteT (q H1 s1)
    | false => exact iteF ((hb rfl).run O σ H1 (tO.mono s1) (sd.same (hid_same s1)) _ fun H2 s2 => q H2 (s1.trans s2)))⟩
theorem g_one {op} (h : GE X a ρ d) : GE X (.BoolOp op [a] pos) ρ d := ⟨fun O σ H tO sd Q q => (pe_one sE_ok).se (h.run O σ H tO sd Q q)⟩
theorem g_and (ha : GE X a ρ (.bool k)) (hb : k = true → GE X (.BoolOp .And (b :: rest) pos) ρ (.bool l)) : GE X (.BoolOp .And (a :: b :: rest) pos) ρ (.bool (k && l)) :=
  ⟨fun O σ H tO sd Q q => (pe_and sE_ok sE_ok).se (ha.run O σ H tO sd _ fun v H1 s1 dv => by
    cases dv
    refine ⟨k, rfl, ?_⟩
    cases k with
    | true => exact iteT ((hb rfl).run O σ H1 (tO.mono s1) (sd.same (hid_same s1)) _ fun v H2 s2 => q v H2 (s1.trans s2))
    | false => exact iteF (q _ H1 s1 (.bl _)))⟩
theorem g_not (h : GE X a ρ (.bool k)) : GE X (.UnaryOp .Not a pos) ρ (.bool (!k)) :=
  ⟨fun O σ H tO sd Q q => (pe_not sE_ok).se (h.run O σ H tO sd _ fun v H1 s1 dv => by cases dv; exact ⟨k, rfl, q _ H1 s1 (.bl _)⟩)⟩
theorem g_ifT (hc : GT X c ρ true) (ha : GE X a ρ d) : GE X (.IfExp c a b pos) ρ d :=
  ⟨fun O σ H tO sd Q q => (pe_ifExp sT_ok sE_ok sE_ok).se (hc.run O σ H tO sd _ fun H1 s1 => iteT (ha.run O σ H1 (tO.mono s1) (sd.same (hid_same s1)) _ fun v H2 s2 => q v H2 (s1.trans s2)))⟩
theorem g_ifF (hc : GT X c ρ false) (hb : GE X b ρ d) : GE X (.IfExp c a b pos) ρ d :=
  ⟨fun O σ H tO sd Q q => (pe_ifExp sT_ok sE_ok sE_ok).se (hc.run O σ H tO sd _ fun H1 s1 => iteF (hb.run O σ H1 (tO.mono s1) (sd.same (hid_same s1)) _ fun v H2 s2 => q v H2 (s1.trans s2)))⟩
theorem a_nil : GA X [] ρ [] := ⟨fun O σ H tO sd Q q => pa_nil.se (q [] H (Same.refl _) .nil)⟩
theorem a_cons {ds : List PyData} (ha : GE X e ρ d) (hr : GA X es ρ ds) (hs : starEach (e :: es) X.env = (false, eval e X.env) :: starEach es X.env := by rfl) : GA X (e :: es) ρ (d :: ds) :=
  ⟨fun O σ H tO sd Q q => (pa_cons sE_ok sA_ok hs).se (ha.run O σ H tO sd _ fun v H1 s1 dv => hr.run O σ H1 (tO.mono s1) (sd.same (hid_same s1)) _ fun vs H2 s2 dvs => q _ H2 (s1.trans s2) (.cons (dv.same (hid_same s2)) dvs))⟩
theorem small_n {n : Nat} (h : n ≤ 100000) : n ≤ sizeLine := by rw [sizeLine_eq]; omega
theorem small_l {n : Nat} (h : n ≤ 100000) : n < sizeLine := by rw [sizeLine_eq]; omega
theorem g_tup {ds : List PyData} {x1} (h : GA X es ρ ds) (hl : ds.length ≤ 100000 := by exact leb rfl) : GE X (.Tuple es x1 pos) ρ (.tuple ds) :=
  ⟨fun O σ H tO sd Q q => (pe_tup sA_ok).se (h.run O σ H tO sd _ fun vs H1 s1 dvs => ⟨small_n (by rw [dvs.length]; exact hl), fun p hp => q _ _ (s1.trans (same_new hp)) (.tup (.of (hid_at ((tO.mono s1).out hp) upd_same)) (dvs.same (hid_same (same_new hp))))⟩)⟩
theorem gl_lst {ds : List PyData} (h : GA X es ρ ds) (hl : ds.length ≤ 100000 := by exact leb rfl) : GEL X (.List es pos) ρ ds :=
  ⟨fun O σ H tO sd Q q => (pe_lst sA_ok).se (h.run O σ H tO sd _ fun vs H1 s1 dvs => ⟨small_n (by rw [dvs.length]; exact hl), fun p hp => q p vs _ (s1.free hp) (s1.trans (same_new hp)) upd_same (dvs.same (same_hid_new (same_new hp) hp))⟩)⟩
theorem g_ix {r : R2} (hr : IxR X r) (h : RD2 X.K r da db d) (ha : GE X a ρ da) (hb : GE X b ρ db) (hs : PlainIx b := by intro _ _; rfl) : GE X (.Subscript a b pos) ρ d :=
  ⟨fun O σ H tO sd Q q => (pe_ix hr sE_ok sE_ok hs).se (two ha hb h tO sd q)⟩
theorem g_callB {id : String} {x : Str} {p : Pos} {ds : List PyData} {r : List V → Hp → VK → Prop} (hc : CallR X (.builtin id) r) (hr : RD1 X.K r ds d) (hm : X.mg x = none) (hv : bootBuiltins x = some (.builtin id)) (ha : GA X (e :: es) ρ ds) (hg : Gl X x := by rfl) (hn : x ≠ "__name__" := by decide) (hdb : (x == ("__debug__" : Str)) = false := by decide)
    (he : starEach (e :: es) X.env = (false, eval e X.env) :: starEach es X.env := by rfl) (hpl : (backTo pos (starEach es X.env)).any (·.1) = false := by rfl) : GE X (.Call (.Name x p) (e :: es) [] pos) ρ d :=
  ⟨fun O σ H tO sd Q q => (pe_callB hc hg hm hv sA_ok hn hdb he hpl).se (ha.run O σ H tO sd _ fun vs H1 s1 dvs => hr O H1 vs Q (tO.mono s1) dvs fun v H2 s2 dv => q v H2 (s1.trans s2) dv)⟩
theorem g_callTy {T : String} {x : Str} {p : Pos} {ds : List PyData} {r : List V → Hp → VK → Prop} (hc : CallR X (.type T) r) (hr : RD1 X.K r ds d) (hm : X.mg x = none) (hv : bootBuiltins x = some (.type T)) (ha : GA X (e :: es) ρ ds) (hg : Gl X x := by rfl) (hn : x ≠ "__name__" := by decide) (hdb : (x == ("__debug__" : Str)) = false := by decide)
    (he : starEach (e :: es) X.env = (false, eval e X.env) :: starEach es X.env := by rfl) (hpl : (backTo pos (starEach es X.env)).any (·.1) = false := by rfl) : GE X (.Call (.Name x p) (e :: es) [] pos) ρ d :=
  ⟨fun O σ H tO sd Q q => (pe_callTy hc hg hm hv sA_ok hn hdb he hpl).se (ha.run O σ H tO sd _ fun vs H1 s1 dvs => hr O H1 vs Q (tO.mono s1) dvs fun v H2 s2 dv => q v H2 (s1.trans s2) dv)⟩
end
end TT
namespace TT
open PySem PySem.Spec PyProof.Rows L2

/-! ### operations on data -/
abbrev eR (r : List Int) : PyData := .tuple (r.map PyData.int)
section
variable {K : PySem.W.Frag} {H : Hp} {O : List Addr}
theorem dpA_ints : ∀ {ns : List Int} {xs : List V}, DpAll K H xs (ns.map PyData.int) → xs = ns.map V.int
  | [], _, h => by cases h; rfl
  | n :: ns, _, h => by
    cases h with
    | cons h1 h2 =>
      cases h1
      rw [dpA_ints h2]
      rfl
theorem ints_dpA : ∀ ns : List Int, DpAll K H (ns.map V.int) (ns.map PyData.int)
  | [] => .nil
  | n :: ns => .cons (.int n) (ints_dpA ns)
theorem dpA_bls : ∀ {bs : List Bool} {xs : List V}, DpAll K H xs (bs.map PyData.bool) → xs = bs.map V.bl
  | [], _, h => by cases h; rfl
  | n :: ns, _, h => by
    cases h with
    | cons h1 h2 =>
      cases h1
      rw [dpA_bls h2]
      rfl
theorem flat_ints (ns : List Int) : (ns.map V.int).all flatV = true := by
  rw [List.all_map]
  exact List.all_eq_true.mpr fun _ _ => rfl
theorem inV_ints (k : Int) (ns : List Int) : inV (.int k) (ns.map V.int) = decide (k ∈ ns) := by
  induction ns with
  | nil => simp [inV]
  | cons n ns ih =>
    have e : inV (.int k) ((n :: ns).map V.int) = (eqV (.int n) (.int k) || inV (.int k) (ns.map V.int)) := rfl
    rw [e, ih]
    have e2 : eqV (.int n) (.int k) = (n == k) := rfl
    rw [e2, Bool.eq_iff_iff, Bool.or_eq_true, beq_iff_eq, decide_eq_true_iff, decide_eq_true_iff, List.mem_cons]
    exact ⟨fun h => h.imp Eq.symm id, fun h => h.imp Eq.symm id⟩
theorem rd_add {i j : Int} : RD2 K (rI0 fun i j => .int (i + j)) (.int i) (.int j) (.int (i + j)) := fun O H x y Q t a b q => by
  cases a; cases b
  exact ⟨i, j, rfl, rfl, q _ _ (Same.refl _) (.int _)⟩
theorem rd_sub {i j : Int} : RD2 K (rI0 fun i j => .int (i - j)) (.int i) (.int j) (.int (i - j)) := fun O H x y Q t a b q => by
  cases a; cases b
  exact ⟨i, j, rfl, rfl, q _ _ (Same.refl _) (.int _)⟩
theorem rd_lt {i j : Int} : RD2 K (rI0 fun i j => .bl (decide (i < j))) (.int i) (.int j) (.bool (decide (i < j))) := fun O H x y Q t a b q => by
  cases a; cases b
  exact ⟨i, j, rfl, rfl, q _ _ (Same.refl _) (.bl _)⟩
theorem rd_le {i j : Int} : RD2 K (rI0 fun i j => .bl (decide (i ≤ j))) (.int i) (.int j) (.bool (decide (i ≤ j))) := fun O H x y Q t a b q => by
  cases a; cases b
  exact ⟨i, j, rfl, rfl, q _ _ (Same.refl _) (.bl _)⟩
theorem rd_gt {i j : Int} : RD2 K (rI0 fun i j => .bl (decide (j < i))) (.int i) (.int j) (.bool (decide (j < i))) := fun O H x y Q t a b q => by
  cases a; cases b
  exact ⟨i, j, rfl, rfl, q _ _ (Same.refl _) (.bl _)⟩
theorem rd_eqI {i j : Int} : RD2 K rEq (.int i) (.int j) (.bool (decide (i = j))) := fun O H x y Q t a b q => by
  cases a; cases b
  refine ⟨rfl, ?_⟩
  have e : decide (V.int i = V.int j) = decide (i = j) := by
    rw [Bool.eq_iff_iff]; simp
  rw [e]
  exact q _ _ (Same.refl _) (.bl _)
theorem rd_eqS {i j : Str} : RD2 K rEq (.str i) (.str j) (.bool (decide (i = j))) := fun O H x y Q t a b q => by
  cases a; cases b
  refine ⟨rfl, ?_⟩
  have e : decide (V.str i = V.str j) = decide (i = j) := by
    rw [Bool.eq_iff_iff]; simp
  rw [e]
  exact q _ _ (Same.refl _) (.bl _)
theorem rd_neI {i j : Int} : RD2 K rNe (.int i) (.int j) (.bool (!decide (i = j))) := fun O H x y Q t a b q => by
  cases a; cases b
  refine ⟨rfl, ?_⟩
  have e : decide (V.int i = V.int j) = decide (i = j) := by
    rw [Bool.eq_iff_iff]; simp
  rw [e]
  exact q _ _ (Same.refl _) (.bl _)
/-- == of data -/
theorem rd_eqD {a b : PyData} (ha : SeqAt.shaped a = true) (hb : SeqAt.shaped b = true) : RD2 K (rEqD K) a b (.bool (PyData.eqv a b)) := fun O H x y Q t da db q =>
  ⟨a, b, da.same hid_sub, db.same hid_sub, ha, hb, q _ _ (Same.refl _) (.bl _)⟩
/-- x is None -/
def isNone : PyData → Bool
  | .none => true
  | _ => false
def rIsN1 : R2 := fun x y H Q => y = .non ∧ Q (.bl (decide (x = .non))) H
theorem rd_isN {a : PyData} : RD2 K rIsN1 a .none (.bool (isNone a)) := fun O H x y Q t da db q => by
  cases db
  refine ⟨rfl, ?_⟩
  have e : decide (x = V.non) = isNone a := by
    cases da <;> rfl
  rw [e]
  exact q _ _ (Same.refl _) (.bl _)
/-- < of tuples of whole numbers -/
theorem rd_ltT {ns ms : List Int} : RD2 K (rLtT K) (eR ns) (eR ms) (.bool (HT.lexLt ns ms)) := fun O H x y Q t da db q => by
  cases da with
  | tup h1 h2 =>
    cases db with
    | tup h3 h4 =>
      rw [dpA_ints h2] at h1
      rw [dpA_ints h4] at h3
      exact ⟨_, _, ns, ms, rfl, rfl, sqT_same hid_sub h1, sqT_same hid_sub h3, q _ _ (Same.refl _) (.bl _)⟩
/-- in, not in a tuple or list of whole numbers -/
theorem rd_inT {k : Int} {ns : List Int} : RD2 K (rIn K false) (.int k) (eR ns) (.bool (decide (k ∈ ns))) := fun O H x y Q t da db q => by
  cases da
  cases db with
  | tup h1 h2 =>
    rw [dpA_ints h2] at h1
    refine ⟨_, _, rfl, .inr (sqT_same hid_sub h1), rfl, flat_ints ns, ?_⟩
    rw [inV_ints]
    exact q _ _ (Same.refl _) (.bl _)
theorem rd_niT {k : Int} {ns : List Int} : RD2 K (rIn K true) (.int k) (eR ns) (.bool (!decide (k ∈ ns))) := fun O H x y Q t da db q => by
  cases da
  cases db with
  | tup h1 h2 =>
    rw [dpA_ints h2] at h1
    refine ⟨_, _, rfl, .inr (sqT_same hid_sub h1), rfl, flat_ints ns, ?_⟩
    rw [inV_ints]
    exact q _ _ (Same.refl _) (.bl _)
theorem rd_niL {k : Int} {ns : List Int} : RD2 K (rIn K true) (.int k) (.list (ns.map PyData.int)) (.bool (!decide (k ∈ ns))) := fun O H x y Q t da db q => by
  cases da
  cases db with
  | lst h1 h2 =>
    rw [dpA_ints h2] at h1
    refine ⟨_, _, rfl, .inl (hid_sub.seq h1), rfl, flat_ints ns, ?_⟩
    rw [inV_ints]
    exact q _ _ (Same.refl _) (.bl _)
/-- data not in a list -/
theorem rd_niD {d : PyData} {ds : List PyData} (h1 : SeqAt.shaped d = true) (h2 : SeqAt.shaped (.list ds) = true) : RD2 K (rNotInD K) d (.list ds) (.bool (!ds.any fun z => PyData.eqv z d)) := fun O H x y Q t da db q =>
  ⟨d, ds, da.same hid_sub, db.same hid_sub, h1, h2, q _ _ (Same.refl _) (.bl _)⟩
/-- subscripts -/
theorem atI_dpA {ds : List PyData} {xs : List V} {i : Int} {d : PyData} (h : DpAll K H xs ds) (e : atI ds i = some d) : ∃ v, atI xs i = some v ∧ Dp K H v d := by
  unfold atI at e ⊢
  rw [h.length]
  cases q : ixN ds.length i with
  | none =>
    rw [q] at e
    cases e
  | some j =>
    rw [q] at e
    exact h.get (by simpa using e)
theorem rd_ixT {ds : List PyData} {i : Int} {d : PyData} (e : atI ds i = some d) : RD2 K (rIx K) (.tuple ds) (.int i) d := fun O H x y Q t da db q => by
  cases da with
  | tup h1 h2 =>
    cases db
    obtain ⟨v, h3, h4⟩ := atI_dpA h2 e
    exact .inr (.inl ⟨_, _, i, v, rfl, rfl, sqT_same hid_sub h1, h3, q _ _ (Same.refl _) h4⟩)
theorem rd_ixL {ds : List PyData} {i : Int} {d : PyData} (e : atI ds i = some d) : RD2 K (rIx K) (.list ds) (.int i) d := fun O H x y Q t da db q => by
  cases da with
  | lst h1 h2 =>
    cases db
    obtain ⟨v, h3, h4⟩ := atI_dpA h2 e
    exact .inl ⟨_, _, i, v, rfl, rfl, hid_sub.seq h1, h3, q _ _ (Same.refl _) h4⟩
/-- tuple + tuple -/
theorem rd_cat {as bs : List PyData} (hl : as.length + bs.length ≤ 100000) : RD2 K (rCatA K) (.tuple as) (.tuple bs) (.tuple (as ++ bs)) := fun O H x y Q t da db q => by
  cases da with
  | tup h1 h2 =>
    cases db with
    | tup h3 h4 =>
      have e1 := h2.length
      have e2 := h4.length
      refine ⟨_, _, _, _, rfl, rfl, sqT_same hid_sub h1, sqT_same hid_sub h3, small_n (by rw [e1, e2]; exact hl), fun z => ?_, fun z1 z2 => ?_, fun z1 z2 p hp => ?_⟩
      · subst z
        have e : as = [] := by
          cases as with
          | nil => rfl
          | cons _ _ => cases e1
        subst e
        exact q _ _ (Same.refl _) (.tup h3 h4)
      · subst z2
        have e : bs = [] := by
          cases bs with
          | nil => rfl
          | cons _ _ => cases e2
        subst e
        rw [List.append_nil] at q
        exact q _ _ (Same.refl _) (.tup h1 h2)
      · exact q _ _ (same_new hp) (.tup (.of (hid_at (t.out hp) upd_same)) ((h2.append h4).same (hid_same (same_new hp))))
/-- len -/
def rLenS (K : PySem.W.Frag) : List V → Hp → VK → Prop := fun xs H Q => ∃ p ys, xs = [.ref p] ∧ (SqL K H p ys ∨ SqT K H p ys) ∧ Q (.int ys.length) H
theorem rd_lenT {ds : List PyData} : RD1 K (rLenS K) [.tuple ds] (.int ds.length) := fun O H vs Q t da q => by
  cases da with
  | cons h1 h2 =>
    cases h2
    cases h1 with
    | tup h3 h4 =>
      refine ⟨_, _, rfl, .inr (sqT_same hid_sub h3), ?_⟩
      rw [h4.length]
      exact q _ _ (Same.refl _) (.int _)
theorem rd_lenL {ds : List PyData} : RD1 K (rLenS K) [.list ds] (.int ds.length) := fun O H vs Q t da q => by
  cases da with
  | cons h1 h2 =>
    cases h2
    cases h1 with
    | lst h3 h4 =>
      refine ⟨_, _, rfl, .inl (hid_sub.seq h3), ?_⟩
      rw [h4.length]
      exact q _ _ (Same.refl _) (.int _)
theorem rd_all {bs : List Bool} : RD1 K (rAll K) [.list (bs.map PyData.bool)] (.bool (bs.all id)) := fun O H vs Q t da q => by
  cases da with
  | cons h1 h2 =>
    cases h2
    cases h1 with
    | lst h3 h4 =>
      rw [dpA_bls h4] at h3
      exact ⟨_, bs, rfl, hid_sub.seq h3, q _ _ (Same.refl _) (.bl _)⟩
theorem rd_any {bs : List Bool} : RD1 K (rAny K) [.list (bs.map PyData.bool)] (.bool (bs.any id)) := fun O H vs Q t da q => by
  cases da with
  | cons h1 h2 =>
    cases h2
    cases h1 with
    | lst h3 h4 =>
      rw [dpA_bls h4] at h3
      exact ⟨_, bs, rfl, hid_sub.seq h3, q _ _ (Same.refl _) (.bl _)⟩
theorem rd_sum {ns : List Int} : RD1 K (rSum K) [.list (ns.map PyData.int)] (.int ns.sum) := fun O H vs Q t da q => by
  cases da with
  | cons h1 h2 =>
    cases h2
    cases h1 with
    | lst h3 h4 =>
      rw [dpA_ints h4] at h3
      exact ⟨_, ns, rfl, hid_sub.seq h3, q _ _ (Same.refl _) (.int _)⟩
theorem rd_min {ns : List Int} {m : Int} (hm : m ∈ ns) (hle : ∀ y ∈ ns, m ≤ y) : RD1 K (rMin K) [.list (ns.map PyData.int)] (.int m) := fun O H vs Q t da q => by
  cases da with
  | cons h1 h2 =>
    cases h2
    cases h1 with
    | lst h3 h4 =>
      rw [dpA_ints h4] at h3
      refine ⟨_, ns, rfl, hid_sub.seq h3, List.length_pos_of_mem hm, fun m' hm' hle' => ?_⟩
      have e : m' = m := Int.le_antisymm (hle' m hm) (hle m' hm')
      subst e
      exact q _ _ (Same.refl _) (.int _)
def rTupOf (K : PySem.W.Frag) : List V → Hp → VK → Prop := fun xs H Q => ∃ p ys, xs = [.ref p] ∧ ((SqL K H p ys ∧ ∀ l, H l = none → Q (.ref l) (upd H l (.tup ys))) ∨ (SqT K H p ys ∧ Q (.ref p) H))
theorem rd_tupL {ds : List PyData} : RD1 K (rTupOf K) [.list ds] (.tuple ds) := fun O H vs Q t da q => by
  cases da with
  | cons h1 h2 =>
    cases h2
    cases h1 with
    | lst h3 h4 =>
      exact ⟨_, _, rfl, .inl ⟨hid_sub.seq h3, fun l hl => q _ _ (same_new hl) (.tup (.of (hid_at (t.out hl) upd_same)) (h4.same (hid_same (same_new hl))))⟩⟩
theorem rd_abs {i : Int} : RD1 K (fun xs H Q => ∃ i, xs = [.int i] ∧ Q (.int (if i < 0 then -i else i)) H) [.int i] (.int (if i < 0 then -i else i)) := fun O H vs Q t da q => by
  cases da with
  | cons h1 h2 =>
    cases h2
    cases h1
    exact ⟨i, rfl, q _ _ (Same.refl _) (.int _)⟩
def rInt1 : List V → Hp → VK → Prop := fun xs H Q => (∃ i, xs = [.int i] ∧ Q (.int i) H) ∨ ∃ k, xs = [.bl k] ∧ Q (.int (if k then 1 else 0)) H
theorem rd_intI {i : Int} : RD1 K rInt1 [.int i] (.int i) := fun O H vs Q t da q => by
  cases da with
  | cons h1 h2 =>
    cases h2
    cases h1
    exact .inl ⟨i, rfl, q _ _ (Same.refl _) (.int _)⟩
theorem rd_intB {k : Bool} : RD1 K rInt1 [.bool k] (.int (if k then 1 else 0)) := fun O H vs Q t da q => by
  cases da with
  | cons h1 h2 =>
    cases h2
    cases h1
    exact .inr ⟨k, rfl, q _ _ (Same.refl _) (.int _)⟩
theorem rd_sorted {ns ms : List Int} (h64 : ns.length < 64) (hu : ∀ ys : List Int, ys.Perm ns → ys.Pairwise (· ≤ ·) → ys = ms) : RD1 K (rSorted K) [.list (ns.map PyData.int)] (.list (ms.map PyData.int)) := fun O H vs Q t da q => by
  cases da with
  | cons h1 h2 =>
    cases h2
    cases h1 with
    | lst h3 h4 =>
      rw [dpA_ints h4] at h3
      refine ⟨_, ns, rfl, hid_sub.seq h3, h64, fun ys p hp hs hn => ?_⟩
      rw [hu ys hp hs]
      exact q _ _ (same_new hn) (.lst (.of (hid_at (t.out hn) upd_same)) (ints_dpA ms))
end

/-! ### isinstance -/
def tyN : PyData → String
  | .none => "NoneType"
  | .bool _ => "bool"
  | .int _ => "int"
  | .str _ => "str"
  | .list _ => "list"
  | .tuple _ => "tuple"
  | .dict _ => "dict"
theorem tyX_of {K : PySem.W.Frag} {H : Hp} {v : V} {d : PyData} (h : Dp K H v d) : TyX K H v (.type (tyN d)) := by
  cases h with
  | non => exact .base .non
  | bl b => exact .base (.bl b)
  | int i => exact .base (.int i)
  | str x => exact .base (.str x)
  | lst h1 _ =>
    rcases h1 with (h | ⟨o, h⟩) | ⟨o, its, n, hk, hc, _⟩
    · exact .base (.lst h)
    · exact .base (.frz h)
    · exact .kList hk hc
  | tup h1 _ =>
    rcases h1 with (h | ⟨o, h⟩) | ⟨o, its, n, hk, hc, _⟩
    · exact .base (.tup h)
    · exact .fTuple h
    · exact .kTuple hk hc
theorem kII : kitB "int" "int" = some true := by decide +kernel
theorem kIB : kitB "int" "bool" = some false := by decide +kernel
theorem kIS : kitB "int" "str" = some false := by decide +kernel
theorem kBB : kitB "bool" "bool" = some true := by decide +kernel
theorem kSS : kitB "str" "str" = some true := by decide +kernel
theorem kSI : kitB "str" "int" = some false := by decide +kernel
theorem kSB : kitB "str" "bool" = some false := by decide +kernel
theorem kTT : kitB "tuple" "tuple" = some true := by decide +kernel
theorem kTI : kitB "tuple" "int" = some false := by decide +kernel
theorem kTB : kitB "tuple" "bool" = some false := by decide +kernel
theorem kTS : kitB "tuple" "str" = some false := by decide +kernel
theorem kTL : kitB "tuple" "list" = some false := by decide +kernel
theorem kLT : kitB "list" "tuple" = some false := by decide +kernel
theorem kLI : kitB "list" "int" = some false := by decide +kernel
theorem kLB : kitB "list" "bool" = some false := by decide +kernel
theorem kLS : kitB "list" "str" = some false := by decide +kernel
theorem kLL : kitB "list" "list" = some true := by decide +kernel
section
variable {X : Cx} {a e o : Expr} {es : List Expr} {ρ : Rho} {d : PyData} {pos p p2 : Pos}
theorem g_isi {T T' : String} {x : Str} {b : Bool} (hm : X.mg "isinstance" = none) (hmT : X.mg x = none) (hvT : bootBuiltins x = some (.type T)) (ha : GE X a ρ d) (hk : kitB T' T = some b) (ht : tyN d = T' := by rfl) (hg : Gl X "isinstance" := by rfl) (hgT : Gl X x := by rfl)
    (hnT : x ≠ "__name__" := by decide) (hdT : (x == ("__debug__" : Str)) = false := by decide)
    (hs : starEach (a :: [.Name x p2]) X.env = (false, eval a X.env) :: starEach [.Name x p2] X.env := by rfl) (hs2 : starEach [.Name x p2] X.env = (false, eval (.Name x p2) X.env) :: starEach [] X.env := by rfl)
    (hpl : (backTo pos (starEach [.Name x p2] X.env)).any (·.1) = false := by rfl) : GE X (.Call (.Name "isinstance" p) [a, .Name x p2] [] pos) ρ (.bool b) :=
  ⟨fun O σ H tO sd Q q => (pe_callB call_isi hg hm boot_isinstance (pa_cons sE_ok (pa_cons (pe_bltn (v := .ty T) hgT hmT hvT rfl hnT hdT) pa_nil hs2) hs) (by decide) (by decide) hs hpl).se
    (ha.run O σ H tO sd _ fun v H1 s1 dv => ⟨v, .ty T, _, _, b, rfl, .ty T, tyX_of (dv.same hid_sub), by rw [ht]; exact kit_ty hk, q _ H1 s1 (.bl b)⟩)⟩

/-! ### a new tuple whose object is known; index -/
structure GN (X : Cx) (e : Expr) (ρ : Rho) (ds : List PyData) : Prop where
  run : ∀ (O : List Addr) (σ : L2.St) (H : Hp), Trk O H → SD X.K (hidL O H) σ ρ → ∀ Q : VK, (∀ p ob xs H', Same H H' → hidL O H' p = some (.frz ob (.tup xs)) → ob.dict = none → DpAll X.K (hidL O H') xs ds → Q (.ref p) H') → sE X e σ H Q
theorem GN.ge {ds : List PyData} (h : GN X e ρ ds) : GE X e ρ (.tuple ds) := ⟨fun O σ H tO sd Q q => h.run O σ H tO sd Q fun p ob xs H' s hx _ ha => q _ _ s (.tup (.inl (.inr ⟨ob, hx⟩)) ha)⟩
def rTupN (K : PySem.W.Frag) : List V → Hp → VK → Prop := fun xs H Q => ∃ p ys, xs = [.ref p] ∧ SqL K H p ys ∧ ∀ l ob, H l = none → ob.dict = none → Q (.ref l) (upd H l (.frz ob (.tup ys)))
theorem call_tupN : CallR X (.type "tuple") (rTupN X.K) := by
  intro pins s σ H xs us Q I r h
  obtain ⟨p, ys, rfl, hq, q⟩ := h
  obtain ⟨u, rfl, rx⟩ := vals1 r
  cases rx
  obtain ⟨its, r', pl, hz⟩ := I.list hq
  have hlen := r'.length
  refine call_tuple_list pl.isList (fun h' kp => ?_) (by simp only [List.size_toArray] <;> omega)
  have I1 : Inv X pins σ H { s with heap := h' } := I.kept (t' := s.toks) kp
  have I2 : Inv X pins σ (upd H h'.objs.size (.frz { cls := .type "tuple", data := .seq its.toArray } (.tup ys))) { s with heap := h'.push { cls := .type "tuple", data := .seq its.toArray } } :=
    I1.laid (t' := s.toks) (fun b o e => Heap.get?_push_of_some _ e) (Nat.le_refl _) (show ObjOk X.prog X.w _ _ _ (.frz _ (.tup ys)) from ⟨Heap.get?_push_size _ rfl, hz, its, r', IsTup.new _ _⟩)
  exact ⟨.ref h'.objs.size, _, I2, rfl, q _ _ (I1.hok.fresh (Nat.le_refl _)) rfl⟩
theorem gn_tup {ds : List PyData} (hm : X.mg "tuple" = none) (ha : GE X a ρ (.list ds)) (hg : Gl X "tuple" := by rfl)
    (he : starEach (a :: []) X.env = (false, eval a X.env) :: starEach [] X.env := by rfl) (hpl : (backTo pos (starEach [] X.env)).any (·.1) = false := by rfl) : GN X (.Call (.Name "tuple" p) [a] [] pos) ρ ds :=
  ⟨fun O σ H tO sd Q q => (pe_callTy call_tupN hg hm boot_tuple (pa_cons sE_ok pa_nil he) (by decide) (by decide) he hpl).se
    (ha.run O σ H tO sd _ fun v H1 s1 dv => by
      cases dv with
      | lst h3 h4 => exact ⟨_, _, rfl, hid_sub.seq h3, fun l ob hl hd => q l ob _ _ (s1.trans (same_new hl)) (hid_at ((tO.mono s1).out hl) upd_same) hd (h4.same (hid_same (same_new hl)))⟩)⟩
/-- t.index(k) -/
theorem g_index {ns : List Int} {k : Int} {apos : Pos} (hk : k ∈ ns) (ho : GN X o ρ (ns.map PyData.int)) (ha : GE X e ρ (.int k)) (hbase : attributeBase o "index" X.env (eval o X.env) = eval o X.env := by rfl)
    (hfew : ((backTo pos (starEach (e :: []) X.env)).all (fun x => !x.1) && (backToKw pos (keywordEach [] X.env)).all (fun x => x.1.isSome)
      && decide ((e :: []).length + ([] : List Keyword).length + (if ([] : List Keyword).isEmpty then 0 else 1) < 30)) = true := by rfl)
    (hline : (apos.endLine == pos.line) = true := by rfl) (hs : starEach (e :: []) X.env = (false, eval e X.env) :: starEach [] X.env := by rfl) (hplain : (backTo pos (starEach [] X.env)).any (·.1) = false := by rfl) :
    GE X (.Call (.Attribute o "index" apos) [e] [] pos) ρ (.int (ns.idxOf k)) :=
  ⟨fun O σ H tO sd Q q pins s I => by
    refine wpAny_Call_method_late hbase hfew hline rfl (thn (ho.run O σ H tO sd (fun v H1 => ∃ p ob xs, v = .ref p ∧ Same H H1 ∧ hidL O H1 p = some (.frz ob (.tup xs)) ∧ ob.dict = none ∧ DpAll X.K (hidL O H1) xs (ns.map PyData.int)) (fun p ob xs H' s1 h1 h2 h3 => ⟨p, ob, xs, rfl, s1, h1, h2, h3⟩) pins s I) fun v s1 ⟨x, H1, I1, r1, p, ob, xs, ex, sm, h1, h2, h3⟩ => ?_)
    subst ex
    cases r1
    have hob : s1.heap.get? p = some ob := (I1.hok p _ (hid_sub _ _ h1)).1
    have hsq : SqT X.K H1 p (ns.map V.int) := by
      rw [dpA_ints h3] at h1
      exact .inl (.inr ⟨ob, hid_sub _ _ h1⟩)
    obtain ⟨its, rv, pt, hz⟩ := I1.tuple hsq
    refine ⟨"tuple", "tuple.index", PySem.F.plainAttrs_tuple, PySem.F.slot_tuple_index, PySem.F.type_tuple_index, pt.typeIs, fun a ea => by cases ea; exact ⟨ob, hob, h2⟩, ?_⟩
    have hA := (pa_cons (sE_ok (X := X) (e := e)) pa_nil hs).run pos pins s1 σ H1 (fun vs H2 => vs = [V.int k] ∧ Same H1 H2) I1 (ha.run O σ H1 (tO.mono sm) (sd.same (hid_same sm)) _ fun v H2 s2 dv => by cases dv; exact ⟨rfl, s2⟩)
    rw [hs] at hA ⊢
    refine Calls.callWith_builtin (by show (false || (backTo pos (starEach [] X.env)).any (·.1)) = false; rw [hplain] <;> rfl) (Calls.evalArgs_plain ?_)
    refine thn hA fun us s2 ⟨vs, H2, I2, r2, ev, sm2⟩ => ?_
    subst ev
    obtain ⟨u, rfl, t, rfl⟩ := vals1 r2
    have hsq2 : SqT X.K H2 p (ns.map V.int) := sqT_same sm2 hsq
    obtain ⟨its2, rv2, pt2, hz2⟩ := I2.tuple hsq2
    exact PySem.SeqAt.tuple_index_ints (show s2.heap.IsTuple p its2.toArray from pt2) (intsAre_of rv2) hk ⟨.int _, H2, I2.tok _, ⟨_, rfl⟩, q _ _ (sm.trans sm2) (.int _)⟩⟩
end
end TT
namespace PySem
open Sem (wp)
open AutoSeq1 (wpAny_loadPart')
theorem meets_enumerate_newTT (l : Addr) (items : Array Value) (n : Nat) (dct : Option Addr) (sl : Array (Option Value)) :
    Meets (Builtin.«enumerate.__new__» ⟨[.type "enumerate", .ref l], []⟩) (fun _ R s => s.heap.get? l = some { cls := .type "tuple", dict := dct, data := .seq items n, slots := sl } ∧
      R (.ok (.ret (.ref (s.heap.push { cls := .type "tuple_iterator", data := .fields #[.ref l, .int 0 0] }).objs.size)))
        { s with heap := (s.heap.push { cls := .type "tuple_iterator", data := .fields #[.ref l, .int 0 0] }).push { cls := .type "enumerate", data := .fields #[.none, .bool false, .ref s.heap.objs.size, rawInt 0, .none, .none] } }) :=
  .of_wp fun prog w A R s h => by
    obtain ⟨hp, g, d, tk, os⟩ := s; obtain ⟨hl, h⟩ := h
    have hsub := sub_enumerate
    have hL : Heap.IsTuple (Shared.heap ⟨hp, g, d, tk, os⟩) l items := ⟨_, hl, rfl, n, rfl⟩
    wp_walk using wpAny_loadPart' hl
    refine wpAny_stack_any fun st => wpAny_pure ?_
    split
    · rename_i c _ _ _ _ _
      cases (c == Value.type "enumerate")
      · wp_walk using wpAny_loadPart' hl, wpAny_pyIter_tuple hL
        exact ⟨_, rfl, h⟩
      · wp_walk using wpAny_loadPart' hl, wpAny_pyIter_tuple hL
        exact ⟨_, rfl, h⟩
    · wp_walk using wpAny_loadPart' hl, wpAny_pyIter_tuple hL
      exact ⟨_, rfl, h⟩
section
variable {prog : Program} {w : World} {A : Around} {E : Value → Shared → Prop} {s : Shared}
theorem call_enumerate_tupTT {l : Addr} {items : Array Value} {Q : Value → Shared → Prop} (hL : s.heap.IsTuple l items)
    (h : ∀ h', IsEnum h' (s.heap.objs.size + 1) s.heap.objs.size 0 .none → h'.IsTupleIter s.heap.objs.size l 0 → h'.objs.size = s.heap.objs.size + 2 →
      (∀ b o, s.heap.get? b = some o → h'.get? b = some o) → Q (.ref (s.heap.objs.size + 1)) { s with heap := h' }) :
    wpAny (model prog w) A (call (.type "enumerate") [.ref l]) Q E s := by
  obtain ⟨⟨c, dct, dt, sl⟩, hl, hc, n, hd⟩ := hL
  replace hc : c = .type "tuple" := hc
  replace hd : dt = .seq items n := hd
  subst hc hd
  refine callType_new F.called_enumerate (by decide) (F.typeCall_enumerate_1 _) (F.newCall_enumerate_1 _) (fun obj => F.args_object_init_2 obj _) F.entry_enumerate_new
    (meets_enumerate_newTT l items n dct sl) ⟨hl, ?_⟩
  have hz : (s.heap.push { cls := .type "tuple_iterator", data := .fields #[.ref l, .int 0 0] }).objs.size = s.heap.objs.size + 1 := Heap.size_push ..
  show _ ∧ _
  rw [hz]
  have he : IsEnum ((s.heap.push { cls := .type "tuple_iterator", data := .fields #[.ref l, .int 0 0] }).push
      { cls := .type "enumerate", data := .fields #[.none, .bool false, .ref s.heap.objs.size, rawInt 0, .none, .none] }) (s.heap.objs.size + 1) s.heap.objs.size 0 .none := by
    have := Heap.get?_push_size (s.heap.push { cls := .type "tuple_iterator", data := .fields #[.ref l, .int 0 0] })
      (o := { cls := .type "enumerate", data := .fields #[.none, .bool false, .ref s.heap.objs.size, rawInt 0, .none, .none] }) rfl
    rw [hz] at this; exact this
  refine ⟨⟨_, he, rfl⟩, h _ he ⟨_, Heap.get?_push_of_some _ (Heap.get?_push_size _ rfl), rfl, rfl⟩ (by rw [Heap.size_push, hz]) fun b o x => Heap.get?_push_of_some _ (Heap.get?_push_of_some _ x)⟩
end
end PySem

namespace TT
open PySem PySem.Spec PyProof.Rows L2
def IteT (K : PySem.W.Frag) (a : Addr) : It :=
  ⟨fun i H => ∃ (xs : List V) (x : V), SqT K H a xs ∧ xs[i]? = some x, fun i H v H' => ∃ T x, v = .ref T ∧ H T = none ∧ H' = upd H T (.tup [.int (i : Nat), x]) ∧ ∀ xs, SqT K H a xs → xs[i]? = some x, fun i H => ∃ xs : List V, SqT K H a xs ∧ xs.length = i⟩
theorem turn_enumT {P : Program} {w : World} {K : PySem.W.Frag} {elts : List Expr} {kk : Nat} {tpos : Pos} (a e it : Addr) :
    Turn P w K (.Tuple elts kk tpos) (IteT K a) [e, it] e (fun i h => (∃ old, IsEnum h e it ((i : Nat) : Int) old) ∧ h.IsTupleIter it a i ∧ e ≠ it) where
  mem := by simp
  obj := fun i h st b hb => by
    obtain ⟨⟨old, he⟩, ⟨o, ho, hc, hd⟩, _⟩ := st
    have e' : b = e ∨ b = it := by simpa using hb
    rcases e' with z | z
    · rw [z]; exact ⟨_, he, fun v q => nomatch q⟩
    · rw [z]; exact ⟨o, ho, fun v q => by rw [hd] at q; cases q⟩
  keep := fun i h h' st k => let ⟨⟨old, he⟩, hi, hne⟩ := st; ⟨⟨old, k e (by simp) _ he⟩, hi.at fun o q => k it (by simp) o q, hne⟩
  item := by
    intro X hP hw hK hc i pins s σ H E I hf st hg
    subst hP hw hK
    obtain ⟨⟨old, he⟩, hit, hne⟩ := st
    obtain ⟨xs, x, hq, hx⟩ := hg
    obtain ⟨its, rv, p, hz⟩ := I.tuple hq
    obtain ⟨u, hu, ru⟩ := rv.get hx
    have hel : e < s.heap.objs.size := Heap.lt_size he
    have hil : it < s.heap.objs.size := by obtain ⟨_, q, _⟩ := hit; exact Heap.lt_size q
    have hai : a ≠ it := fun z => by
      obtain ⟨o, h1, h2, _⟩ := p
      obtain ⟨o', h3, h4, _⟩ := hit
      rw [z, h3] at h1
      cases h1
      rw [h4] at h2
      injection h2 with h5
      exact absurd h5 (by decide)
    have hae : e ≠ a := fun z => by
      obtain ⟨o, h1, h2, _⟩ := p
      rw [← z, show s.heap.get? e = _ from he] at h1
      cases h1
      injection h2 with h5
      exact absurd h5 (by decide)
    have ul : i < its.toArray.size := by
      have := (List.getElem?_eq_some_iff.mp hu).1
      simpa using this
    refine wpAny_pyNext_enum_itemC (Draws.tuple (A := X.A.in1) (I.ok.hd hc) it a hai its.toArray) he ⟨hit, p⟩ ul hne (by simp [hne, hae]) fun x' h' tk hP ho hit' hT hsz hk => ?_
    have ex : x' = u := by
      have h1 : its.toArray[i]? = some x' := hP
      have h2 : its.toArray[i]? = some u := by simpa using hu
      rw [h1] at h2
      exact Option.some.inj h2
    subst ex
    refine ⟨_, rfl, wpAny_letOwnedTupleGo_enum (s := { s with heap := h', toks := tk + 1 }) ho fun h'' he' sb => ?_⟩
    have hT2 : h''.get? s.heap.objs.size = some { cls := .type "tuple", data := .seq #[.int i tk, x'] } := (sb.2 _ (Nat.ne_of_gt hel)).trans hT
    have new : ObjOk X.prog X.w (upd H s.heap.objs.size (.tup [.int (i : Nat), x])) h'' s.heap.objs.size (.tup [.int (i : Nat), x]) :=
      ⟨by show 2 ≤ sizeLine; decide, [.int i tk, x'], .cons ⟨_, rfl⟩ (.cons ru .nil), ⟨_, hT2, rfl, _, rfl⟩⟩
    have I1 : Inv X pins σ (upd H s.heap.objs.size (.tup [.int (i : Nat), x])) { s with heap := h'', toks := tk + 1 } :=
      I.turnedNew (ch := [e, it]) (fun b ob hb q => (sb.2 b (fun z => hb (by simp [z]))).trans (hk b ob (fun z => hb (by simp [z])) (fun z => hb (by simp [z])) q)) hf (Nat.le_refl _) new
    refine ⟨.ref s.heap.objs.size, _, I1, rfl, ⟨_, x, rfl, I.hok.fresh (Nat.le_refl _), rfl, fun ys hy => by rw [I.tuple_inj hy hq]; exact hx⟩, ⟨⟨x', ?_⟩, hit'.1.at fun o q => (sb.2 it (Ne.symm hne)).trans q, hne⟩, fun b hb => ?_⟩
    · have e1 : ((i + 1 : Nat) : Int) = (i : Int) + 1 := by omega
      rw [e1]; exact he'
    · have hb' : b < s.heap.objs.size := by
        have e' : b = e ∨ b = it := by simpa using hb
        rcases e' with z | z
        · rw [z]; exact hel
        · rw [z]; exact hil
      rw [upd_ne (Nat.ne_of_lt hb')]
      exact (hf b hb).1
  done := by
    intro X hP hw hK hc i pins s σ H E I hf st hg
    subst hP hw hK
    obtain ⟨⟨old, he⟩, hit, hne⟩ := st
    obtain ⟨xs, hq, hx⟩ := hg
    obtain ⟨its, rv, p, hz⟩ := I.tuple hq
    obtain ⟨f0, f1, f2, f3, f4, f5⟩ := hf it (by simp)
    have hl := rv.length
    have hai : a ≠ it := fun z => by
      obtain ⟨o, h1, h2, _⟩ := p
      obtain ⟨o', h3, h4, _⟩ := hit
      rw [z, h3] at h1
      cases h1
      rw [h4] at h2
      injection h2 with h5
      exact absurd h5 (by decide)
    have en : i = its.toArray.size := by rw [List.size_toArray, ← hl, hx]
    subst en
    exact wpAny_pyNext_enum_endD (Draws.tuple (A := X.A.in1) (I.ok.hd hc) it a hai its.toArray) he ⟨hit, p⟩ fun h' eb => ⟨rfl, I.turned (t' := s.toks) (fun b o hb q => eb b o hb q) f0 f1 f3 f4 f5⟩
  self := fun A i s Q E st h => let ⟨⟨_, he⟩, _⟩ := st; wpAny_pyIter_enum he h
def iEnumT (K : PySem.W.Frag) (ta : TA) : TI := fun σ H R => ta σ H fun vs H1 => ∃ a xs, vs = [.ref a] ∧ SqT K H1 a xs ∧ R (IteT K a) H1
theorem pi_enumT {X : Cx} {e : Expr} {ta : TA} {p pos tpos : Pos} {elts : List Expr} {kk : Nat} (hg : Gl X "enumerate") (hm : X.mg "enumerate" = none) (ha : PA X [e] ta) (hs : starEach [e] X.env = [(false, eval e X.env)] := by rfl) :
    PI X (.Tuple elts kk tpos) (.Call (.Name "enumerate" p) [e] [] pos) (iEnumT X.K ta) := by
  refine ⟨fun pins s σ H R I h => ?_⟩
  refine Call_ (ld_blt I hg hm boot_enumerate (PyProof.Rows.callWith_type1 (thn (ha.run pos pins s σ H _ I h) fun us s1 ⟨vs, H1, I1, r1, q1⟩ => ?_) hs rfl))
  obtain ⟨a, xs, ex, hq, q⟩ := q1
  subst ex
  cases r1 with
  | cons r rr =>
    cases rr
    cases r
    obtain ⟨its, rv, p', hz⟩ := I1.tuple hq
    refine call_enumerate_tupTT (show s1.heap.IsTuple a its.toArray from p') fun h' he hit hsz hk => wpAny_pyIter_enum he ?_
    have I2 : Inv X pins σ H1 { s1 with heap := h' } := I1.kept (t' := s1.toks) hk
    refine ⟨s1.heap.objs.size + 1, [s1.heap.objs.size + 1, s1.heap.objs.size], _, _, H1, rfl, I2, turn_enumT a (s1.heap.objs.size + 1) s1.heap.objs.size, ⟨⟨.none, he⟩, hit, Nat.succ_ne_self _⟩, fun b hb => ?_, q⟩
    have e' : b = s1.heap.objs.size + 1 ∨ b = s1.heap.objs.size := by simpa using hb
    have hle : s1.heap.objs.size ≤ b := by
      rcases e' with z | z
      · rw [z]; exact Nat.le_add_right _ _
      · rw [z]; exact Nat.le_refl _
    exact I1.fpOk hle (I1.hok.fresh hle)
end TT
namespace TT
open PySem PySem.Spec PyProof.Rows L2

/-- what an iterator that began in H' gives at turn i, from h to h' -/
def Yd (K : PySem.W.Frag) (O : List Addr) (H' : Hp) (ds : List PyData) : Nat → Hp → V → Hp → Prop := fun i h x h' => Same h h' ∧ ∃ d, ds[i]? = some d ∧ ∀ O', Same (hidL O H') (hidL O' h) → Trk O' h → Dp K (hidL O' h') x d
structure GI (X : Cx) (tg iter : Expr) (ρ : Rho) (ds : List PyData) : Prop where
  run : ∀ (O : List Addr) (σ : L2.St) (H : Hp), Trk O H → SD X.K (hidL O H) σ ρ → ∀ R : It → Hp → Prop,
    (∀ J H', Same H H' → Walk J ds.length (fun h => Same (hidL O H') (hidL O h)) (Yd X.K O H' ds) → R J H') → sI X tg iter σ H R
section
variable {X : Cx} {tg e a b : Expr} {ρ : Rho} {ds : List PyData} {pos p p2 : Pos}
theorem GI.to {ds' : List PyData} (h : GI X tg e ρ ds) (q : ds = ds') : GI X tg e ρ ds' := q ▸ h
theorem yd_at {K : PySem.W.Frag} {O : List Addr} {H' : Hp} {xs : List V} {i : Nat} {h h' : Hp} {x : V} (ha : DpAll K (hidL O H') xs ds) (y : YAt xs i h x h') : Yd K O H' ds i h x h' := by
  obtain ⟨rfl, hx⟩ := y
  have hl := (List.getElem?_eq_some_iff.mp hx).1
  rw [ha.length] at hl
  obtain ⟨v, h1, h2⟩ := ha.get (i := i) (List.getElem?_eq_getElem hl)
  rw [h1] at hx
  cases hx
  exact ⟨Same.refl _, _, List.getElem?_eq_getElem hl, fun O' s _ => h2.same s⟩
theorem gi_list (hl : GE X e ρ (.list ds)) : GI X tg e ρ ds := ⟨fun O σ H tO sd R q => (pi_list sE_ok).se (hl.run O σ H tO sd _ fun v H1 s1 dv => by
  cases dv with
  | lst h1 h2 =>
    refine ⟨_, rfl, ⟨_, hid_sub.seq h1⟩, q _ _ s1 ?_⟩
    rw [← h2.length]
    exact walk_list.mono (fun h s => hid_sub.seq (s.seq h1)) (fun i h x h' _ _ y => yd_at h2 y))⟩
theorem gi_tup (hl : GE X e ρ (.tuple ds)) : GI X tg e ρ ds := ⟨fun O σ H tO sd R q => (pi_tup sE_ok).se (hl.run O σ H tO sd _ fun v H1 s1 dv => by
  cases dv with
  | tup h1 h2 =>
    refine ⟨_, rfl, ⟨_, sqT_same hid_sub h1⟩, q _ _ s1 ?_⟩
    rw [← h2.length]
    exact walk_tup.mono (fun h s => sqT_same hid_sub (sqT_same s h1)) (fun i h x h' _ _ y => yd_at h2 y))⟩
def rngD (lo : Int) (n : Nat) : List PyData := (List.range n).map fun (k : Nat) => PyData.int (lo + (k : Int))
theorem rngD_length (lo : Int) (n : Nat) : (rngD lo n).length = n := by unfold rngD; rw [List.length_map, List.length_range]
theorem rngD_at {lo : Int} {n i : Nat} (h : i < n) : (rngD lo n)[i]? = some (.int (lo + (i : Int))) := by
  unfold rngD
  rw [List.getElem?_map, List.getElem?_range h]
  rfl
theorem gi_range1 {n : Int} (hm : X.mg "range" = none) (ha : GE X e ρ (.int n)) (h0 : -100000 ≤ n) (h1 : n ≤ 100000) (hg : Gl X "range" := by rfl) (hs : starEach [e] X.env = [(false, eval e X.env)] := by rfl)
    (hs2 : starEach (e :: []) X.env = (false, eval e X.env) :: starEach [] X.env := by rfl) : GI X tg (.Call (.Name "range" p) [e] [] pos) ρ (rngD 0 n.toNat) :=
  ⟨fun O σ H tO sd R q => (pi_range1 hg hm (pa_cons sE_ok pa_nil hs2) hs).se (ha.run O σ H tO sd _ fun v H1 s1 dv => by
    cases dv
    refine ⟨n, rfl, by omega, by omega, q _ _ s1 ?_⟩
    rw [rngD_length]
    exact walk_range.mono (fun _ _ => True.intro) fun i h x h' hi _ y => by
      obtain ⟨rfl, rfl⟩ := y
      exact ⟨Same.refl _, _, rngD_at hi, fun O' _ _ => .int _⟩)⟩
theorem gi_range2 {m n : Int} (hm : X.mg "range" = none) (ha : GE X a ρ (.int m)) (hb : GE X b ρ (.int n)) (h0 : -100000 ≤ m) (h1 : m ≤ 100000) (h2 : -100000 ≤ n) (h3 : n ≤ 100000) (hg : Gl X "range" := by rfl)
    (hs : starEach [a, b] X.env = [(false, eval a X.env), (false, eval b X.env)] := by rfl) (hs2 : starEach [b] X.env = [(false, eval b X.env)] := by rfl)
    (hs3 : starEach (a :: [b]) X.env = (false, eval a X.env) :: starEach [b] X.env := by rfl) (hs4 : starEach (b :: []) X.env = (false, eval b X.env) :: starEach [] X.env := by rfl) : GI X tg (.Call (.Name "range" p) [a, b] [] pos) ρ (rngD m (n - m).toNat) :=
  ⟨fun O σ H tO sd R q => (pi_range2 hg hm (pa_cons sE_ok (pa_cons sE_ok pa_nil hs4) hs3) hs hs2).se (ha.run O σ H tO sd _ fun v H1 s1 dv => hb.run O σ H1 (tO.mono s1) (sd.same (hid_same s1)) _ fun u H2 s2 du => by
    cases dv
    cases du
    refine ⟨m, n, rfl, ⟨by omega, by omega, by omega, by omega⟩, q _ _ (s1.trans s2) ?_⟩
    rw [rngD_length]
    exact walk_range.mono (fun _ _ => True.intro) fun i h x h' hi _ y => by
      obtain ⟨rfl, rfl⟩ := y
      exact ⟨Same.refl _, _, rngD_at hi, fun O' _ _ => .int _⟩)⟩
/-- pairs -/
def pairD (as bs : List PyData) : List PyData := (as.zip bs).map fun p => PyData.tuple [p.1, p.2]
theorem walk_zipT {K : PySem.W.Frag} {a b : Addr} {xs ys : List V} {n : Nat} (hn : n = min xs.length ys.length) : Walk (RZ.ItzT K a b) n (fun H => SqT K H a xs ∧ SqT K H b ys) (YPair (fun i => xs[i]?) (fun i => ys[i]?)) := by
  subst hn
  refine ⟨fun i _ hi q => ?_, fun _ q => ⟨xs, ys, q.1, q.2, by omega⟩, fun i H v H' _ q y => ?_⟩
  · have h1 : i < xs.length := by omega
    have h2 : i < ys.length := by omega
    exact ⟨xs, ys, xs[i], ys[i], q.1, q.2, by simp [h1], by simp [h2]⟩
  · obtain ⟨T, x, z, h1, h2, h3, h4, h5⟩ := y
    exact ⟨T, x, z, h1, h2, h3, h4 xs q.1, h5 ys q.2⟩
theorem walk_enumT {K : PySem.W.Frag} {a : Addr} {xs : List V} : Walk (IteT K a) xs.length (fun H => SqT K H a xs) (YPair (fun i => some (.int (i : Nat))) (fun i => xs[i]?)) := by
  refine ⟨fun i _ hi q => ⟨xs, xs[i], q, by simp [hi]⟩, fun _ q => ⟨xs, q, rfl⟩, fun i H v H' _ q y => ?_⟩
  obtain ⟨T, x, h1, h2, h3, h4⟩ := y
  exact ⟨T, .int (i : Nat), x, h1, h2, h3, rfl, h4 xs q⟩
theorem yd_pair {K : PySem.W.Frag} {O : List Addr} {H' h h' : Hp} {v x y : V} {T : Addr} {i : Nat} {da db : PyData} {ds : List PyData} (hd : ds[i]? = some (.tuple [da, db])) (hx : Dp K (hidL O H') x da) (hy : Dp K (hidL O H') y db)
    (e1 : v = .ref T) (e2 : h T = none) (e3 : h' = upd h T (.tup [x, y])) : Yd K O H' ds i h v h' := by
  subst e1 e3
  exact ⟨same_new e2, _, hd, fun O' s tO => .tup (.of (hid_at (tO.out e2) upd_same)) (.cons ((hx.same s).same (hid_same (same_new e2))) (.cons ((hy.same s).same (hid_same (same_new e2))) .nil))⟩
theorem gi_zip {as bs : List PyData} {elts : List Expr} {kk : Nat} {tpos : Pos} (hm : X.mg "zip" = none) (ha : GE X a ρ (.tuple as)) (hb : GE X b ρ (.tuple bs)) (hg : Gl X "zip" := by rfl)
    (hs : starEach [a, b] X.env = (false, eval a X.env) :: starEach [b] X.env := by rfl) (hs4 : starEach (b :: []) X.env = (false, eval b X.env) :: starEach [] X.env := by rfl) (hpl : (backTo pos (starEach [b] X.env)).any (·.1) = false := by rfl) :
    GI X (.Tuple elts kk tpos) (.Call (.Name "zip" p) [a, b] [] pos) ρ (pairD as bs) :=
  ⟨fun O σ H tO sd R q => (RZ.pi_zipA hg hm (pa_cons sE_ok (pa_cons sE_ok pa_nil hs4) hs) hs hpl).se (ha.run O σ H tO sd _ fun v H1 s1 dv => hb.run O σ H1 (tO.mono s1) (sd.same (hid_same s1)) _ fun u H2 s2 du => by
    have dv2 := dv.same (hid_same s2)
    cases dv2 with
    | @tup c xs _ h1 h2 =>
      cases du with
      | @tup c' ys _ h3 h4 =>
        refine ⟨_, _, xs, ys, rfl, .inr ⟨sqT_same hid_sub h1, sqT_same hid_sub h3, q _ _ (s1.trans s2) ?_⟩⟩
        have en : (pairD as bs).length = min xs.length ys.length := by
          unfold pairD
          rw [List.length_map, List.length_zip, h2.length, h4.length]
        refine (walk_zipT en).mono (fun h s => ⟨sqT_same hid_sub (sqT_same s h1), sqT_same hid_sub (sqT_same s h3)⟩) (fun i h x h' hi _ y => ?_)
        obtain ⟨T, x1, x2, e1, e2, e3, g1, g2⟩ := y
        rw [en] at hi
        have la : i < as.length := by rw [← h2.length]; omega
        have lb : i < bs.length := by rw [← h4.length]; omega
        obtain ⟨v1, f1, f2⟩ := h2.get (i := i) (List.getElem?_eq_getElem la)
        obtain ⟨v2, f3, f4⟩ := h4.get (i := i) (List.getElem?_eq_getElem lb)
        have g1' : xs[i]? = some x1 := g1
        have g2' : ys[i]? = some x2 := g2
        rw [f1] at g1'
        rw [f3] at g2'
        cases g1'
        cases g2'
        refine yd_pair ?_ f2 f4 e1 e2 e3
        unfold pairD
        rw [List.getElem?_map, List.getElem?_zip_eq_some (z := (as[i], bs[i])) |>.mpr ⟨List.getElem?_eq_getElem la, List.getElem?_eq_getElem lb⟩]
        rfl)⟩
def enumD (as : List PyData) : List PyData := (List.range as.length).map fun (i : Nat) => PyData.tuple [.int (i : Int), as.getD i .none]
theorem gi_enum {as : List PyData} {elts : List Expr} {kk : Nat} {tpos : Pos} (hm : X.mg "enumerate" = none) (ha : GE X e ρ (.tuple as)) (hg : Gl X "enumerate" := by rfl) (hs : starEach [e] X.env = [(false, eval e X.env)] := by rfl)
    (hs2 : starEach (e :: []) X.env = (false, eval e X.env) :: starEach [] X.env := by rfl) : GI X (.Tuple elts kk tpos) (.Call (.Name "enumerate" p) [e] [] pos) ρ (enumD as) :=
  ⟨fun O σ H tO sd R q => (pi_enumT hg hm (pa_cons sE_ok pa_nil hs2) hs).se (ha.run O σ H tO sd _ fun v H1 s1 dv => by
    cases dv with
    | @tup c xs _ h1 h2 =>
      refine ⟨_, xs, rfl, sqT_same hid_sub h1, q _ _ s1 ?_⟩
      have en : (enumD as).length = xs.length := by
        unfold enumD
        rw [List.length_map, List.length_range, h2.length]
      rw [en]
      refine walk_enumT.mono (fun h s => sqT_same hid_sub (sqT_same s h1)) (fun i h x h' hi _ y => ?_)
      obtain ⟨T, x1, x2, e1, e2, e3, g1, g2⟩ := y
      have la : i < as.length := by rw [← h2.length]; omega
      obtain ⟨v1, f1, f2⟩ := h2.get (i := i) (List.getElem?_eq_getElem la)
      have g2' : xs[i]? = some x2 := g2
      rw [f1] at g2'
      cases g1
      cases g2'
      refine yd_pair (da := .int (i : Int)) ?_ (.int _) f2 e1 e2 e3
      unfold enumD
      rw [List.getElem?_map, List.getElem?_range la]
      show some (PyData.tuple [PyData.int (i : Int), as.getD i .none]) = _
      rw [List.getD_eq_getElem?_getD, List.getElem?_eq_getElem la]
      rfl)⟩
/-- list(range(n)) -/
theorem gl_listRange {n : Int} {pos3 : Pos} (hc : X.calm = true) (hml : X.mg "list" = none) (hm : X.mg "range" = none) (ha : GE X e ρ (.int n)) (h0 : 0 ≤ n) (h1 : n ≤ 100000) (hgl : Gl X "list" := by rfl) (hg : Gl X "range" := by rfl)
    (na : starEach [e] X.env = (false, eval e X.env) :: starEach [] X.env := by rfl) (na2 : starEach [Expr.Call (.Name "range" p) [e] [] pos] X.env = (false, eval (.Call (.Name "range" p) [e] [] pos) X.env) :: starEach [] X.env := by rfl) :
    GEL X (.Call (.Name "list" p2) [.Call (.Name "range" p) [e] [] pos] [] pos3) ρ (rngD 0 n.toNat) :=
  ⟨fun O σ H tO sd Q q => (pe_listRg hc hgl hml (prg_1 hg hm sE_ok na) na2).se (ha.run O σ H tO sd _ fun v H1 s1 dv => by
    cases dv
    refine ⟨n, rfl, .of_le (by omega) (by omega) (by omega) h0, fun l hl => q l _ _ (s1.free hl) (s1.trans (same_new hl)) upd_same ?_⟩
    unfold rgV rngD
    rw [Int.sub_zero]
    have : ∀ ks : List Nat, DpAll X.K (hidL (l :: O) (upd H1 l (.lst ((List.range n.toNat).map fun i => V.int (0 + (i : Nat)))))) (ks.map fun i => V.int (0 + (i : Nat))) (ks.map fun (k : Nat) => PyData.int (0 + (k : Int))) := by
      intro ks
      induction ks with
      | nil => exact .nil
      | cons k ks ih => exact .cons (.int _) ih
    exact this _)⟩
end

/-! ### comprehensions -/
/-- tests of a block -/
structure GTs (X : Cx) (ifs : List Expr) (ρ : Rho) (b : Bool) : Prop where
  run : ∀ (O : List Addr) (σ : L2.St) (H : Hp), Trk O H → SD X.K (hidL O H) σ ρ → ∀ Q : Bool → Hp → Prop, (∀ H', Same H H' → Q b H') → ∀ pins s, Inv X pins σ H s →
    wpAny (model X.prog X.w) X.A (forIn ifs true fun c r => if r = true then do let ok ← isTrue c X.env (eval c X.env); pure (ForInStep.yield ok) else pure (ForInStep.yield r)) (TP X pins σ Q) X.xe s
theorem gts_nil {X : Cx} {ρ : Rho} : GTs X [] ρ true := ⟨fun O σ H tO sd Q q pins s I => (pts_nil (X := X)).run pins s σ H Q I (q H (Same.refl _))⟩
theorem gts_one {X : Cx} {ρ : Rho} {c : Expr} {b : Bool} (h : GT X c ρ b) : GTs X [c] ρ b := ⟨fun O σ H tO sd Q q pins s I => (pts_one (sT_ok (X := X) (e := c))).run pins s σ H Q I (h.run O σ H tO sd Q q)⟩
section
variable {X : Cx}
def bTs (X : Cx) (scope : Scope) (ifs : List Expr) : TT := fun σ H Q => ∀ (s0 : Shared) (H0 : Hp) (C : Addr) (cl : List (Str × Addr)) (fp : List Addr) pins s, Inv (X.blk s0 H0 scope (compEnvC scope cl C X.env) fp) pins σ H s →
  wpAny (model X.prog X.w) X.A (forIn ifs true fun c r => if r = true then do let ok ← isTrue c (compEnvC scope cl C X.env) (eval c (compEnvC scope cl C X.env)); pure (ForInStep.yield ok) else pure (ForInStep.yield r)) (TP (X.blk s0 H0 scope (compEnvC scope cl C X.env) fp) pins σ Q) (fun _ _ => False) s
def bE (X : Cx) (scope : Scope) (e : Expr) : TE := fun σ H Q => ∀ (s0 : Shared) (H0 : Hp) (C : Addr) (cl : List (Str × Addr)) (fp : List Addr), sE (X.blk s0 H0 scope (compEnvC scope cl C X.env) fp) e σ H Q
theorem wipe_set {σ : L2.St} {vs : List Nat} {i : Nat} {v : Option V} (hi : i ∈ vs) : L2.wipe ((L2.wipe σ vs).set i v) vs = L2.wipe σ vs := by
  have key : ∀ (ws : List Nat) (τ : L2.St) (j : Nat), (L2.wipe τ ws)[j]? = if j ∈ ws then (if j < τ.length then some none else none) else τ[j]? := by
    intro ws
    induction ws with
    | nil => intro τ j; simp [L2.wipe]
    | cons w ws ih =>
      intro τ j
      show ((L2.wipe τ ws).set w none)[j]? = _
      rw [List.getElem?_set]
      by_cases hj : w = j
      · subst hj
        simp [L2.wipe_length]
      · rw [if_neg hj, ih]
        simp only [List.mem_cons]
        by_cases hm : j ∈ ws
        · simp [hm]
        · simp [hm, Ne.symm hj]
  apply List.ext_getElem?
  intro j
  rw [key, key]
  by_cases hj : j ∈ vs
  · simp [hj, L2.wipe_length]
  · rw [if_neg hj, if_neg hj]
    have : i ≠ j := fun e => hj (e ▸ hi)
    rw [List.getElem?_set_ne this, key, if_neg hj]
/-- the reading of a comprehension gives a new list -/
structure GLC (X : Cx) (t : TE) (ρ : Rho) (ds : List PyData) : Prop where
  run : ∀ (O : List Addr) (σ : L2.St) (H : Hp), Trk O H → SD X.K (hidL O H) σ ρ → ∀ Q : VK, (∀ p xs H', H p = none → Same H H' → H' p = some (.lst xs) → DpAll X.K (hidL (p :: O) H') xs ds → Q (.ref p) H') → t σ H Q
theorem GLC.to {t : TE} {ρ : Rho} {ds ds' : List PyData} (h : GLC X t ρ ds) (q : ds = ds') : GLC X t ρ ds' := q ▸ h
theorem GLC.e {t : TE} {ρ : Rho} {ds : List PyData} {e : Expr} (h : GLC X t ρ ds) (p : PE X e t) : GEL X e ρ ds := ⟨fun O σ H tO sd Q q => p.se (h.run O σ H tO sd Q q)⟩
abbrev tL1 (X : Cx) (tg iter elt : Expr) (ifs : List Expr) (scope : Scope) (own : List (Str × Nat)) (i : Nat) : TE := tLc (sI X tg iter) (gName i) (bTs X scope ifs) (bE X scope elt) (own.map (·.2))
abbrev tL2 (X : Cx) (tg iter elt : Expr) (ifs : List Expr) (scope : Scope) (own : List (Str × Nat)) (i j : Nat) : TE := tLc (sI X tg iter) (gTup X.K 2 (gCons (gName i) (gCons (gName j) gNil))) (bTs X scope ifs) (bE X scope elt) (own.map (·.2))
/-- the target is a name -/
theorem glc1 {i : Nat} {elt tg iter : Expr} {ifs : List Expr} {scope : Scope} {own : List (Str × Nat)} {ρ : Rho} {items : List PyData} (t : PyData → Bool) (f : PyData → PyData) (hI : GI X tg iter ρ items)
    (hi : i ∈ own.map (·.2)) (hir : i < ρ.length) (hlen : items.length ≤ 100000)
    (hel : ∀ d ∈ items, ∀ (s : Shared) (H : Hp) (C : Addr) (cl : List (Str × Addr)) (fp : List Addr), GTs (X.blk s H scope (compEnvC scope cl C X.env) fp) ifs (st (wipeR ρ (own.map (·.2))) i (some d)) (t d) ∧ (t d = true → GE (X.blk s H scope (compEnvC scope cl C X.env) fp) elt (st (wipeR ρ (own.map (·.2))) i (some d)) (f d))) :
    GLC X (tL1 X tg iter elt ifs scope own i) ρ ((items.filter t).map f) :=
  ⟨fun O σ H tO sd Q q =>
    (hI.run O σ H tO sd _ fun J H' s1 W D hD => by
      have sdI := sd.same (hid_same s1)
      refine lc_it W (fun j h => Same H' h ∧ ∃ acc, h D = some (.lst acc) ∧ DpAll X.K (hidL (D :: O) h) acc (((items.take j).filter t).map f)) ⟨same_new hD, [], upd_same, .nil⟩ (fun j h _ p => hid_same p.1) (fun j x h h' hj p y => ?_) (fun h p => ?_)
      · obtain ⟨p1, acc, p2, p3⟩ := p
        obtain ⟨y1, d, hd, y2⟩ := y
        have tD : Trk (D :: O) h := fun a ha => by
          rcases List.mem_cons.mp ha with rfl | ha
          · rw [p2]; exact fun z => nomatch z
          · exact ((tO.mono s1).mono p1) a ha
        have dx := y2 (D :: O) (same_hid_new p1 hD) tD
        have sd2 : SD X.K (hidL (D :: O) h') ((L2.wipe σ (own.map (·.2))).set i (some x)) (st (wipeR ρ (own.map (·.2))) i (some d)) :=
          (((sdI.wipe (own.map (·.2))).same (same_hid_new (p1.trans y1) hD))).set (by rw [wipeR_length]; exact hir) dx
        have tD' := tD.mono y1
        have htk : items.take (j + 1) = items.take j ++ [d] := by rw [List.take_add_one, hd]; rfl
        show L2.wipe ((L2.wipe σ (own.map (·.2))).set i (some x)) (own.map (·.2)) = L2.wipe σ (own.map (·.2)) ∧ _
        refine ⟨wipe_set hi, fun s0 H0 C cl fp pins s I => (hel d (List.mem_of_getElem? hd) s0 H0 C cl fp).1.run (D :: O) _ _ tD' sd2 _ (fun H3 s3 => ?_) pins s I⟩
        cases ht : t d with
        | true =>
          refine iteT (fun s0 H0 C cl fp => ((hel d (List.mem_of_getElem? hd) s0 H0 C cl fp).2 ht).run (D :: O) _ _ (tD'.mono s3) (sd2.same (hid_same s3)) _ fun v H4 s4 dv => ?_)
          have sAll := (y1.trans s3).trans s4
          refine ⟨acc, sAll _ _ p2, ?_, same_put (p1.trans sAll) hD, _, upd_same, ?_⟩
          · rw [p3.length, List.length_map]
            refine small_l (Nat.le_trans (List.length_filter_le _ _) ?_)
            rw [List.length_take]
            omega
          · rw [htk, List.filter_append, List.map_append, List.filter_cons, if_pos ht]
            exact ((p3.same (hid_same sAll)).same hid_put).append (dpA_one (dv.same hid_put))
        | false =>
          refine iteF ⟨p1.trans (y1.trans s3), acc, s3 _ _ (y1 _ _ p2), ?_⟩
          rw [htk, List.filter_append, List.map_append, List.filter_cons, if_neg (by rw [ht]; decide)]
          show DpAll X.K _ acc (_ ++ [])
          rw [List.append_nil]
          exact p3.same (hid_same (y1.trans s3))
      · obtain ⟨p1, acc, p2, p3⟩ := p
        rw [List.take_length] at p3
        exact q D acc h (s1.free hD) (s1.trans p1) p2 p3)⟩
theorem pe_l1 {i : Nat} {elt tg iter : Expr} {ifs : List Expr} {scope : Scope} {own : List (Str × Nat)} {pos : Pos} (hc : X.calm = true) (hN : X.N.Nodup) (ok : BlkOk X.N X.env.scope scope own)
    (hg : ∀ (s : Shared) (H : Hp) (C : Addr) (cl : List (Str × Addr)) (fp : List Addr), PG (X.blk s H scope (compEnvC scope cl C X.env) fp) tg (gName i)) (hs : ∀ x, foldedSetIterable iter X.env x = pure x := by intro _; rfl) :
    PE X (.ListComp elt [⟨tg, iter, ifs, 0⟩] scope pos) (tL1 X tg iter elt ifs scope own i) :=
  pe_lc hc hN sI_ok ok hg (fun s0 H0 C cl fp => ⟨fun pins s σ H Q I w => w s0 H0 C cl fp pins s I⟩) (fun s0 H0 C cl fp => ⟨fun pins s σ H Q I w => w s0 H0 C cl fp pins s I⟩) hs
theorem gel_lc1 {i : Nat} {elt tg iter : Expr} {ifs : List Expr} {scope : Scope} {own : List (Str × Nat)} {pos : Pos} {ρ : Rho} {items : List PyData} (t : PyData → Bool) (f : PyData → PyData) (hc : X.calm = true) (hN : X.N.Nodup) (hI : GI X tg iter ρ items) (ok : BlkOk X.N X.env.scope scope own)
    (hi : i ∈ own.map (·.2)) (hir : i < ρ.length) (hlen : items.length ≤ 100000)
    (hg : ∀ (s : Shared) (H : Hp) (C : Addr) (cl : List (Str × Addr)) (fp : List Addr), PG (X.blk s H scope (compEnvC scope cl C X.env) fp) tg (gName i))
    (hel : ∀ d ∈ items, ∀ (s : Shared) (H : Hp) (C : Addr) (cl : List (Str × Addr)) (fp : List Addr), GTs (X.blk s H scope (compEnvC scope cl C X.env) fp) ifs (st (wipeR ρ (own.map (·.2))) i (some d)) (t d) ∧ (t d = true → GE (X.blk s H scope (compEnvC scope cl C X.env) fp) elt (st (wipeR ρ (own.map (·.2))) i (some d)) (f d)))
    (hs : ∀ x, foldedSetIterable iter X.env x = pure x := by intro _; rfl) :
    GEL X (.ListComp elt [⟨tg, iter, ifs, 0⟩] scope pos) ρ ((items.filter t).map f) := (glc1 t f hI hi hir hlen hel).e (pe_l1 hc hN ok hg hs)
/-- the target is a pair of names -/
theorem glc2 {i j : Nat} {elt tg iter : Expr} {ifs : List Expr} {scope : Scope} {own : List (Str × Nat)} {ρ : Rho} {items : List (PyData × PyData)} (t : PyData → PyData → Bool) (f : PyData → PyData → PyData) (hI : GI X tg iter ρ (items.map fun p => PyData.tuple [p.1, p.2]))
    (hi : i ∈ own.map (·.2)) (hj : j ∈ own.map (·.2)) (hir : i < ρ.length) (hjr : j < ρ.length) (hlen : items.length ≤ 100000)
    (hel : ∀ d ∈ items, ∀ (s : Shared) (H : Hp) (C : Addr) (cl : List (Str × Addr)) (fp : List Addr), GTs (X.blk s H scope (compEnvC scope cl C X.env) fp) ifs (st (st (wipeR ρ (own.map (·.2))) i (some d.1)) j (some d.2)) (t d.1 d.2) ∧ (t d.1 d.2 = true → GE (X.blk s H scope (compEnvC scope cl C X.env) fp) elt (st (st (wipeR ρ (own.map (·.2))) i (some d.1)) j (some d.2)) (f d.1 d.2))) :
    GLC X (tL2 X tg iter elt ifs scope own i j) ρ ((items.filter fun p => t p.1 p.2).map fun p => f p.1 p.2) :=
  ⟨fun O σ H tO sd Q q =>
    (hI.run O σ H tO sd _ fun J H' s1 W D hD => by
      have sdI := sd.same (hid_same s1)
      rw [List.length_map] at W
      refine lc_it W (fun m h => Same H' h ∧ ∃ acc, h D = some (.lst acc) ∧ DpAll X.K (hidL (D :: O) h) acc (((items.take m).filter fun p => t p.1 p.2).map fun p => f p.1 p.2)) ⟨same_new hD, [], upd_same, .nil⟩ (fun m h _ p => hid_same p.1) (fun m x h h' hm p y => ?_) (fun h p => ?_)
      · obtain ⟨p1, acc, p2, p3⟩ := p
        obtain ⟨y1, d0, hd0, y2⟩ := y
        obtain ⟨d, hd, ed⟩ : ∃ d, items[m]? = some d ∧ d0 = .tuple [d.1, d.2] := by
          rw [List.getElem?_map, List.getElem?_eq_getElem hm] at hd0
          exact ⟨items[m], List.getElem?_eq_getElem hm, (Option.some.inj hd0).symm⟩
        subst ed
        have tD : Trk (D :: O) h := fun a ha => by
          rcases List.mem_cons.mp ha with rfl | ha
          · rw [p2]; exact fun z => nomatch z
          · exact ((tO.mono s1).mono p1) a ha
        have dx := y2 (D :: O) (same_hid_new p1 hD) tD
        have tD' := tD.mono y1
        have htk : items.take (m + 1) = items.take m ++ [d] := by rw [List.take_add_one, hd]; rfl
        cases dx with
        | @tup aT xs _ hT hA =>
          cases hA with
          | @cons x1 _ _ _ dx1 hA2 =>
            cases hA2 with
            | @cons x2 _ _ _ dx2 hA3 =>
              cases hA3
              have sd2 : SD X.K (hidL (D :: O) h') (((L2.wipe σ (own.map (·.2))).set i (some x1)).set j (some x2)) (st (st (wipeR ρ (own.map (·.2))) i (some d.1)) j (some d.2)) :=
                ((((sdI.wipe (own.map (·.2))).same (same_hid_new (p1.trans y1) hD))).set (by rw [wipeR_length]; exact hir) dx1).set (by rw [st_length, wipeR_length]; exact hjr) dx2
              refine ⟨aT, [x1, x2], rfl, sqT_same hid_sub hT, rfl, x1, [x2], rfl, x2, [], rfl, rfl, ?_⟩
              refine ⟨?_, fun s0 H0 C cl fp pins s I => (hel d (List.mem_of_getElem? hd) s0 H0 C cl fp).1.run (D :: O) _ _ tD' sd2 _ (fun H3 s3 => ?_) pins s I⟩
              · have key : ∀ (ws : List Nat) (τ : L2.St) (j : Nat), (L2.wipe τ ws)[j]? = if j ∈ ws then (if j < τ.length then some none else none) else τ[j]? := by
                  intro ws
                  induction ws with
                  | nil => intro τ j; simp [L2.wipe]
                  | cons w ws ih =>
                    intro τ j
                    show ((L2.wipe τ ws).set w none)[j]? = _
                    rw [List.getElem?_set]
                    by_cases hj : w = j
                    · subst hj
                      simp [L2.wipe_length]
                    · rw [if_neg hj, ih]
                      simp only [List.mem_cons]
                      by_cases hm : j ∈ ws
                      · simp [hm]
                      · simp [hm, Ne.symm hj]
                apply List.ext_getElem?
                intro n
                rw [key, key]
                by_cases hn : n ∈ own.map (·.2)
                · rw [if_pos hn, if_pos hn]
                  simp only [List.length_set, L2.wipe_length]
                · rw [if_neg hn, if_neg hn]
                  have n1 : i ≠ n := fun e => hn (e ▸ hi)
                  have n2 : j ≠ n := fun e => hn (e ▸ hj)
                  rw [List.getElem?_set_ne n2, List.getElem?_set_ne n1, key, if_neg hn]
              cases ht : t d.1 d.2 with
              | true =>
                refine iteT (fun s0 H0 C cl fp => ((hel d (List.mem_of_getElem? hd) s0 H0 C cl fp).2 ht).run (D :: O) _ _ (tD'.mono s3) (sd2.same (hid_same s3)) _ fun v H4 s4 dv => ?_)
                have sAll := (y1.trans s3).trans s4
                refine ⟨acc, sAll _ _ p2, ?_, same_put (p1.trans sAll) hD, _, upd_same, ?_⟩
                · rw [p3.length, List.length_map]
                  refine small_l (Nat.le_trans (List.length_filter_le _ _) ?_)
                  rw [List.length_take]
                  omega
                · rw [htk, List.filter_append, List.map_append, List.filter_cons, if_pos ht]
                  exact ((p3.same (hid_same sAll)).same hid_put).append (dpA_one (dv.same hid_put))
              | false =>
                refine iteF ⟨p1.trans (y1.trans s3), acc, s3 _ _ (y1 _ _ p2), ?_⟩
                rw [htk, List.filter_append, List.map_append, List.filter_cons, if_neg (by rw [ht]; decide)]
                show DpAll X.K _ acc (_ ++ [])
                rw [List.append_nil]
                exact p3.same (hid_same (y1.trans s3))
      · obtain ⟨p1, acc, p2, p3⟩ := p
        rw [List.take_length] at p3
        exact q D acc h (s1.free hD) (s1.trans p1) p2 p3)⟩
theorem pe_l2 {i j : Nat} {elt tg iter : Expr} {ifs : List Expr} {scope : Scope} {own : List (Str × Nat)} {pos : Pos} (hc : X.calm = true) (hN : X.N.Nodup) (ok : BlkOk X.N X.env.scope scope own)
    (hg : ∀ (s : Shared) (H : Hp) (C : Addr) (cl : List (Str × Addr)) (fp : List Addr), PG (X.blk s H scope (compEnvC scope cl C X.env) fp) tg (gTup X.K 2 (gCons (gName i) (gCons (gName j) gNil)))) (hs : ∀ x, foldedSetIterable iter X.env x = pure x := by intro _; rfl) :
    PE X (.ListComp elt [⟨tg, iter, ifs, 0⟩] scope pos) (tL2 X tg iter elt ifs scope own i j) :=
  pe_lc hc hN sI_ok ok hg (fun s0 H0 C cl fp => ⟨fun pins s σ H Q I w => w s0 H0 C cl fp pins s I⟩) (fun s0 H0 C cl fp => ⟨fun pins s σ H Q I w => w s0 H0 C cl fp pins s I⟩) hs
theorem gel_lc2 {i j : Nat} {elt tg iter : Expr} {ifs : List Expr} {scope : Scope} {own : List (Str × Nat)} {pos : Pos} {ρ : Rho} {items : List (PyData × PyData)} (t : PyData → PyData → Bool) (f : PyData → PyData → PyData) (hc : X.calm = true) (hN : X.N.Nodup) (hI : GI X tg iter ρ (items.map fun p => PyData.tuple [p.1, p.2])) (ok : BlkOk X.N X.env.scope scope own)
    (hi : i ∈ own.map (·.2)) (hj : j ∈ own.map (·.2)) (hir : i < ρ.length) (hjr : j < ρ.length) (hlen : items.length ≤ 100000)
    (hg : ∀ (s : Shared) (H : Hp) (C : Addr) (cl : List (Str × Addr)) (fp : List Addr), PG (X.blk s H scope (compEnvC scope cl C X.env) fp) tg (gTup X.K 2 (gCons (gName i) (gCons (gName j) gNil))))
    (hel : ∀ d ∈ items, ∀ (s : Shared) (H : Hp) (C : Addr) (cl : List (Str × Addr)) (fp : List Addr), GTs (X.blk s H scope (compEnvC scope cl C X.env) fp) ifs (st (st (wipeR ρ (own.map (·.2))) i (some d.1)) j (some d.2)) (t d.1 d.2) ∧ (t d.1 d.2 = true → GE (X.blk s H scope (compEnvC scope cl C X.env) fp) elt (st (st (wipeR ρ (own.map (·.2))) i (some d.1)) j (some d.2)) (f d.1 d.2)))
    (hs : ∀ x, foldedSetIterable iter X.env x = pure x := by intro _; rfl) :
    GEL X (.ListComp elt [⟨tg, iter, ifs, 0⟩] scope pos) ρ ((items.filter fun p => t p.1 p.2).map fun p => f p.1 p.2) := (glc2 t f hI hi hj hir hjr hlen hel).e (pe_l2 hc hN ok hg hs)
/-- two clauses, names, without tests -/
def bI (X : Cx) (scope : Scope) (tg iter : Expr) : TI := fun σ H R => ∀ (s0 : Shared) (H0 : Hp) (C : Addr) (cl : List (Str × Addr)) (fp : List Addr), sI (X.blk s0 H0 scope (compEnvC scope cl C X.env) fp) tg iter σ H R
abbrev tLL (X : Cx) (tg iter tg1 iter1 elt : Expr) (scope : Scope) (own : List (Str × Nat)) (i j : Nat) : TE := tLc2 (sI X tg iter) (gName i) tYes (bI X scope tg1 iter1) (gName j) tYes (bE X scope elt) (own.map (·.2)) [j]
theorem yes_go {σ : L2.St} {H : Hp} {A B : Hp → Prop} (h : A H) : tYes σ H (fun b H3 => if b = true then A H3 else B H3) := by
  show (if true = true then A H else B H)
  rw [if_pos rfl]
  exact h
theorem flat_take {α β : Type} (f : α → List β) {l : List α} {j : Nat} {d : α} (h : l[j]? = some d) : (l.take (j + 1)).flatMap f = (l.take j).flatMap f ++ f d := by
  rw [List.take_add_one, h]
  show (l.take j ++ [d]).flatMap f = _
  rw [List.flatMap_append]
  simp
theorem glcL {i j : Nat} {elt tg iter tg1 iter1 : Expr} {scope : Scope} {own : List (Str × Nat)} {ρ : Rho} {items items1 : List PyData} (f : PyData → PyData → PyData) (hI : GI X tg iter ρ items)
    (hi : i ∈ own.map (·.2)) (hir : i < ρ.length) (hjr : j < ρ.length) (hlen : items.length * items1.length ≤ 100000)
    (hI1 : ∀ d ∈ items, ∀ (s : Shared) (H : Hp) (C : Addr) (cl : List (Str × Addr)) (fp : List Addr), GI (X.blk s H scope (compEnvC scope cl C X.env) fp) tg1 iter1 (st (wipeR ρ (own.map (·.2))) i (some d)) items1)
    (hel : ∀ d ∈ items, ∀ e ∈ items1, ∀ (s : Shared) (H : Hp) (C : Addr) (cl : List (Str × Addr)) (fp : List Addr), GE (X.blk s H scope (compEnvC scope cl C X.env) fp) elt (st (st (st (wipeR ρ (own.map (·.2))) i (some d)) j none) j (some e)) (f d e)) :
    GLC X (tLL X tg iter tg1 iter1 elt scope own i j) ρ (items.flatMap fun d => items1.map (f d)) :=
  ⟨fun O σ H tO sd Q q => hI.run O σ H tO sd _ fun J H' s1 W D hD => by
    have sdI := sd.same (hid_same s1)
    refine ⟨fun a m h => m = items.length - a ∧ a ≤ items.length ∧ Same H' h ∧ ∃ acc, h D = some (.lst acc) ∧ DpAll X.K (hidL (D :: O) h) acc ((items.take a).flatMap fun d => items1.map (f d)),
      ⟨items.length, by simp, Nat.zero_le _, same_new hD, [], upd_same, .nil⟩, ?_⟩
    rintro a m h ⟨rfl, ha, p1, acc, p2, p3⟩
    by_cases hlt : a < items.length
    · refine .inr ⟨W.goes a h hlt (hid_same p1), fun h => Same H' h ∧ ∃ acc, h D = some (.lst acc) ∧ DpAll X.K (hidL (D :: O) h) acc ((items.take (a + 1)).flatMap fun d => items1.map (f d)), fun h' z => ⟨items.length - (a + 1), by omega, rfl, hlt, z⟩, fun x h' y => ?_⟩
      obtain ⟨y1, d, hd, y2⟩ := W.yields a h x h' hlt (hid_same p1) y
      have hdm := List.mem_of_getElem? hd
      have tD : Trk (D :: O) h := fun a ha => by
        rcases List.mem_cons.mp ha with rfl | ha
        · rw [p2]; exact fun z => nomatch z
        · exact ((tO.mono s1).mono p1) a ha
      have dx := y2 (D :: O) (same_hid_new p1 hD) tD
      have sd2 : SD X.K (hidL (D :: O) h') ((L2.wipe σ (own.map (·.2))).set i (some x)) (st (wipeR ρ (own.map (·.2))) i (some d)) :=
        (((sdI.wipe (own.map (·.2))).same (same_hid_new (p1.trans y1) hD))).set (by rw [wipeR_length]; exact hir) dx
      have tD' := tD.mono y1
      show L2.wipe ((L2.wipe σ (own.map (·.2))).set i (some x)) (own.map (·.2)) = L2.wipe σ (own.map (·.2)) ∧ _
      refine ⟨wipe_set hi, ?_⟩
      refine yes_go (fun s0 H0 C cl fp => (hI1 d hdm s0 H0 C cl fp).run (D :: O) _ h' tD' sd2 _ fun J1 H4 s4 W1 => ?_)
      have p14 : Same H' H4 := (p1.trans y1).trans s4
      refine ⟨fun b n h => n = items1.length - b ∧ b ≤ items1.length ∧ Same H' h ∧ Same (hidL (D :: O) H4) (hidL (D :: O) h) ∧ ∃ acc, h D = some (.lst acc) ∧ DpAll X.K (hidL (D :: O) h) acc (((items.take a).flatMap fun d => items1.map (f d)) ++ (items1.take b).map (f d)),
        ⟨items1.length, by simp, Nat.zero_le _, p14, Same.refl _, acc, s4 _ _ (y1 _ _ p2), by
          show DpAll X.K _ acc (_ ++ [])
          rw [List.append_nil]
          exact p3.same (hid_same (y1.trans s4))⟩, ?_⟩
      rintro b n g ⟨rfl, hb, q1, q2, acc2, q3, q4⟩
      by_cases hlb : b < items1.length
      · refine .inr ⟨W1.goes b g hlb q2, fun h => Same H' h ∧ Same (hidL (D :: O) H4) (hidL (D :: O) h) ∧ ∃ acc, h D = some (.lst acc) ∧ DpAll X.K (hidL (D :: O) h) acc (((items.take a).flatMap fun d => items1.map (f d)) ++ (items1.take (b + 1)).map (f d)), fun h' z => ⟨items1.length - (b + 1), by omega, rfl, hlb, z⟩, fun x1 g' y => ?_⟩
        obtain ⟨z1, e, he, z2⟩ := W1.yields b g x1 g' hlb q2 y
        have tG : Trk (D :: O) g := fun a ha => by
          rcases List.mem_cons.mp ha with rfl | ha
          · rw [q3]; exact fun z => nomatch z
          · exact ((tO.mono s1).mono q1) a ha
        have dx1 := z2 (D :: O) q2 tG
        have sG : Same (hidL (D :: O) h') (hidL (D :: O) g') := ((hid_same s4).trans q2).trans (hid_same z1)
        have sd3 : SD X.K (hidL (D :: O) g') ((L2.wipe ((L2.wipe σ (own.map (·.2))).set i (some x)) [j]).set j (some x1)) (st (st (st (wipeR ρ (own.map (·.2))) i (some d)) j none) j (some e)) :=
          ((sd2.same sG).wipe [j]).set (by rw [wipeR_length, st_length, wipeR_length]; exact hjr) dx1
        refine ⟨wipe_set (List.mem_singleton.mpr rfl), ?_⟩
        refine yes_go (fun s0 H0 C cl fp => (hel d hdm e (List.mem_of_getElem? he) s0 H0 C cl fp).run (D :: O) _ g' (tG.mono z1) sd3 _ fun v H7 s7 dv => ?_)
        have sAll := z1.trans s7
        refine ⟨acc2, sAll _ _ q3, ?_, same_put (q1.trans sAll) hD, ((q2.trans (hid_same sAll)).trans hid_put), _, upd_same, ?_⟩
        · rw [q4.length, List.length_append, List.length_map, List.length_take]
          have hfl : ((items.take a).flatMap fun d => items1.map (f d)).length = a * items1.length := by
            have : ∀ l : List PyData, (l.flatMap fun d => items1.map (f d)).length = l.length * items1.length := by
              intro l
              induction l with
              | nil => simp
              | cons x l ih =>
                rw [List.flatMap_cons, List.length_append, ih, List.length_map, List.length_cons, Nat.add_mul, Nat.one_mul, Nat.add_comm]
            rw [this, List.length_take, Nat.min_eq_left ha]
          rw [hfl]
          refine small_l ?_
          have h1 : a * items1.length + min b items1.length ≤ (a + 1) * items1.length := by
            rw [Nat.add_mul, Nat.one_mul]
            have : min b items1.length ≤ items1.length := Nat.min_le_right _ _
            omega
          have h2 : (a + 1) * items1.length ≤ items.length * items1.length := Nat.mul_le_mul_right _ hlt
          omega
        · rw [List.take_add_one, he]
          show DpAll X.K _ _ (_ ++ (items1.take b ++ [e]).map (f d))
          rw [List.map_append, ← List.append_assoc]
          exact ((q4.same (hid_same sAll)).same hid_put).append (dpA_one (dv.same hid_put))
      · have eb : b = items1.length := by omega
        subst eb
        refine .inl ⟨W1.stops g q2, q1, acc2, q3, ?_⟩
        rw [flat_take _ hd]
        rw [List.take_length] at q4
        exact q4
    · have ea : a = items.length := by omega
      subst ea
      rw [List.take_length] at p3
      exact .inl ⟨W.stops h (hid_same p1), q D acc h (s1.free hD) (s1.trans p1) p2 p3⟩⟩
end

/-! ### calls -/
/-- a def that leaves all as it is: from the data ds it gives d, where R ds d -/
def spD (K : PySem.W.Frag) (R : List PyData → PyData → Prop) : Sp := fun vs H Q _ => ∃ O ds d, Trk O H ∧ DpAll K (hidL O H) vs ds ∧ R ds d ∧ ∀ v H', Same H H' → Dp K (hidL O H') v d → Q v H'
structure Df (P : Program) (w : World) (K : PySem.W.Frag) (mg : Str → Option Value) (base : Heap) (x : Str) (ps : List Str) (k : Nat) (R : List PyData → PyData → Prop) : Prop where
  ex : ∃ f fd, mg x = some (.ref f) ∧ PySem.W.keepIn K (.ref f) = true ∧ Binds K fd ps [] ∧ FnOk P w K mg base CX0 k f fd ps (spD K R)
section
variable {X : Cx} {e : Expr} {es : List Expr} {ρ : Rho} {d : PyData} {ds : List PyData} {pos p : Pos} {x : Str} {ps : List Str} {k : Nat} {R : List PyData → PyData → Prop}
theorem g_call (D : Df X.prog X.w X.K X.mg X.base x ps k R) (hr : Room k X.A) (hR : R ds d) (ha : GA X (e :: es) ρ ds) (hg : Gl X x := by rfl)
    (hdb : (x == ("__debug__" : Str)) = false := by decide) (he : starEach (e :: es) X.env = (false, eval e X.env) :: starEach es X.env := by rfl) (hpl : (backTo pos (starEach es X.env)).any (·.1) = false := by rfl) :
    GE X (.Call (.Name x p) (e :: es) [] pos) ρ d := by
  obtain ⟨f, fd, hm, hk, hb, F⟩ := D.ex
  exact ⟨fun O σ H tO sd Q q => (pe_call F hr hg hm hk hb .nil pass0 sA_ok hdb he hpl).se (ha.run O σ H tO sd _ fun vs H1 s1 dvs => by
    rw [List.append_nil]
    exact ⟨O, ds, d, tO.mono s1, dvs, hR, fun v H2 s2 dv => q v H2 (s1.trans s2) dv⟩)⟩
end
end TT
namespace TT
open PySem PySem.Spec PyProof.Rows L2

inductive Sl where
  | no | im (d : PyData) | ow (ds : List PyData) | dk (ks : List Int) | ad (a : Addr)
abbrev Rs := List Sl
/-- own lists hidden | seen -/
def datN : Rs → Rho
  | [] => []
  | .im d :: r => some d :: datN r
  | _ :: r => none :: datN r
def dat : Rs → Rho
  | [] => []
  | .im d :: r => some d :: dat r
  | .ow ds :: r => some (.list ds) :: dat r
  | _ :: r => none :: dat r
def lkS : Rs → Nat → Sl
  | [], _ => .no
  | d :: _, 0 => d
  | _ :: r, i + 1 => lkS r i
def stS : Rs → Nat → Sl → Rs
  | [], _, _ => []
  | _ :: r, 0, d => d :: r
  | x :: r, i + 1, d => x :: stS r i d
theorem datN_length : ∀ r : Rs, (datN r).length = r.length
  | [] => rfl
  | .no :: r => congrArg (· + 1) (datN_length r)
  | .im _ :: r => congrArg (· + 1) (datN_length r)
  | .ow _ :: r => congrArg (· + 1) (datN_length r)
  | .dk _ :: r => congrArg (· + 1) (datN_length r)
  | .ad _ :: r => congrArg (· + 1) (datN_length r)
theorem dat_length : ∀ r : Rs, (dat r).length = r.length
  | [] => rfl
  | .no :: r => congrArg (· + 1) (dat_length r)
  | .im _ :: r => congrArg (· + 1) (dat_length r)
  | .ow _ :: r => congrArg (· + 1) (dat_length r)
  | .dk _ :: r => congrArg (· + 1) (dat_length r)
  | .ad _ :: r => congrArg (· + 1) (dat_length r)
theorem stS_length : ∀ (r : Rs) (i : Nat) (d : Sl), (stS r i d).length = r.length
  | [], _, _ => rfl
  | _ :: _, 0, _ => rfl
  | _ :: r, i + 1, d => congrArg (· + 1) (stS_length r i d)
theorem lkS_st : ∀ (r : Rs) (i j : Nat) (d : Sl), i < r.length → lkS (stS r i d) j = if i = j then d else lkS r j
  | [], _, _, _, h => by simp at h
  | _ :: _, 0, 0, _, _ => rfl
  | _ :: _, 0, j + 1, _, _ => rfl
  | _ :: _, i + 1, 0, _, _ => rfl
  | _ :: r, i + 1, j + 1, d, h => by
    have ih := lkS_st r i j d (by simpa using h)
    show lkS (stS r i d) j = if i + 1 = j + 1 then d else lkS r j
    rw [ih]
    by_cases e : i = j
    · subst e
      rw [if_pos rfl, if_pos rfl]
    · rw [if_neg e, if_neg (by omega)]
theorem lkS_ge : ∀ (r : Rs) (i : Nat), r.length ≤ i → lkS r i = .no
  | [], _, _ => rfl
  | _ :: r, 0, h => by simp at h
  | _ :: r, i + 1, h => lkS_ge r i (by simpa using h)
theorem lk_datN : ∀ (r : Rs) (i : Nat) (d : PyData), lk (datN r) i = some d → lkS r i = .im d
  | [], _, _, h => by cases h
  | .no :: r, 0, d, h => by cases h
  | .im _ :: r, 0, d, h => by cases h; rfl
  | .ow _ :: r, 0, d, h => by cases h
  | .dk _ :: r, 0, d, h => by cases h
  | .ad _ :: r, 0, d, h => by cases h
  | .ad _ :: r, i + 1, d, h => lk_datN r i d h
  | .no :: r, i + 1, d, h => lk_datN r i d h
  | .im _ :: r, i + 1, d, h => lk_datN r i d h
  | .ow _ :: r, i + 1, d, h => lk_datN r i d h
  | .dk _ :: r, i + 1, d, h => lk_datN r i d h
theorem lk_dat : ∀ (r : Rs) (i : Nat) (d : PyData), lk (dat r) i = some d → lkS r i = .im d ∨ ∃ ds, d = .list ds ∧ lkS r i = .ow ds
  | [], _, _, h => by cases h
  | .no :: r, 0, d, h => by cases h
  | .im _ :: r, 0, d, h => by cases h; exact .inl rfl
  | .ow ds :: r, 0, d, h => by cases h; exact .inr ⟨_, rfl, rfl⟩
  | .dk _ :: r, 0, d, h => by cases h
  | .ad _ :: r, 0, d, h => by cases h
  | .ad _ :: r, i + 1, d, h => lk_dat r i d h
  | .no :: r, i + 1, d, h => lk_dat r i d h
  | .im _ :: r, i + 1, d, h => lk_dat r i d h
  | .ow _ :: r, i + 1, d, h => lk_dat r i d h
  | .dk _ :: r, i + 1, d, h => lk_dat r i d h

/-! ### data without lists -/
mutual
def lf : PyData → Bool
  | .list _ => false
  | .dict _ => false
  | .tuple ds => lfA ds
  | _ => true
def lfA : List PyData → Bool
  | [] => true
  | d :: ds => lf d && lfA ds
end
theorem lfA_iff : ∀ {ds : List PyData}, lfA ds = true ↔ ∀ d ∈ ds, lf d = true
  | [] => by simp [lfA]
  | d :: ds => by
    rw [lfA, Bool.and_eq_true, lfA_iff (ds := ds)]
    simp
theorem lfA_ints (ns : List Int) : lfA (ns.map PyData.int) = true := by
  rw [lfA_iff]
  intro d hd
  obtain ⟨n, _, rfl⟩ := List.mem_map.mp hd
  rfl
theorem lf_eR (ns : List Int) : lf (eR ns) = true := by
  show lfA (ns.map PyData.int) = true
  exact lfA_ints ns
def mo : HO → Bool
  | .lst _ => true
  | .dK _ => true
  | _ => false
mutual
theorem dp_lf {K : PySem.W.Frag} {G G' : Hp} (ht : ∀ a xs, Rd G a (.tup xs) → Rd G' a (.tup xs)) : ∀ (d : PyData) (v : V), lf d = true → Dp K G v d → Dp K G' v d
  | .none, _, _, h => by cases h; exact .non
  | .bool b, _, _, h => by cases h; exact .bl b
  | .int i, _, _, h => by cases h; exact .int i
  | .str x, _, _, h => by cases h; exact .str x
  | .list ds, _, l, h => by rw [lf] at l; cases l
  | .tuple ds, _, l, h => by
    rw [lf] at l
    cases h with
    | tup hs ha =>
      refine .tup ?_ (dpA_lf ht ds _ l ha)
      rcases hs with h | h
      · exact .inl (ht _ _ h)
      · exact .inr h
  | .dict _, _, _, h => by cases h
theorem dpA_lf {K : PySem.W.Frag} {G G' : Hp} (ht : ∀ a xs, Rd G a (.tup xs) → Rd G' a (.tup xs)) : ∀ (ds : List PyData) (vs : List V), lfA ds = true → DpAll K G vs ds → DpAll K G' vs ds
  | [], _, _, h => by cases h; exact .nil
  | d :: ds, _, l, h => by
    rw [lfA, Bool.and_eq_true] at l
    cases h with
    | cons h1 h2 => exact .cons (dp_lf ht d _ l.1 h1) (dpA_lf ht ds _ l.2 h2)
end

/-! ### the state -/
def isOw : Sl → Bool
  | .ow _ => true
  | .dk _ => true
  | _ => false
def kvT (ks : List Int) : List (Key × V) := ks.map fun k => (Sum.inl k, V.bl true)
def SlOk (K : PySem.W.Frag) (O os : List Addr) (H : Hp) : Sl → Option (Option V) → Prop
  | .no, _ => True
  | .im d, s => ∃ v, s = some (some v) ∧ Dp K (hidL (os ++ O) H) v d
  | .ow ds, s => ∃ p xs, s = some (some (.ref p)) ∧ p ∈ os ∧ H p = some (.lst xs) ∧ DpAll K (hidL (os ++ O) H) xs ds
  | .dk ks, s => ∃ p, s = some (some (.ref p)) ∧ p ∈ os ∧ H p = some (.dK (kvT ks))
  | .ad a, s => s = some (some (.ref a))
structure SIo (K : PySem.W.Frag) (O : List Addr) (H0 H : Hp) (σ : L2.St) (ρ : Rs) (os : List Addr) : Prop where
  same : Same H0 H
  own : ∀ a ∈ os, H0 a = none ∧ ∃ o, H a = some o ∧ mo o = true
  len : σ.length = ρ.length
  slot : ∀ i, SlOk K O os H (lkS ρ i) (σ[i]?)
  apart : ∀ i j p, i ≠ j → isOw (lkS ρ i) = true → isOw (lkS ρ j) = true → σ[i]? = some (some (.ref p)) → σ[j]? = some (some (.ref p)) → False
def SI (K : PySem.W.Frag) (O : List Addr) (H0 H : Hp) (σ : L2.St) (ρ : Rs) : Prop := ∃ os, SIo K O H0 H σ ρ os
theorem SlOk.same {K : PySem.W.Frag} {O os : List Addr} {H H' : Hp} (s : Same H H') : ∀ {l : Sl} {x : Option (Option V)}, SlOk K O os H l x → SlOk K O os H' l x
  | .no, _, _ => trivial
  | .im _, _, ⟨v, h1, h2⟩ => ⟨v, h1, h2.same (hid_same s)⟩
  | .ow _, _, ⟨p, xs, h1, h2, h3, h4⟩ => ⟨p, xs, h1, h2, s _ _ h3, h4.same (hid_same s)⟩
  | .dk _, _, ⟨p, h1, h2, h3⟩ => ⟨p, h1, h2, s _ _ h3⟩
  | .ad _, _, h => h
section
variable {K : PySem.W.Frag} {O os : List Addr} {H0 H H1 : Hp} {σ : L2.St} {ρ : Rs}
theorem SIo.step (h : SIo K O H0 H σ ρ os) (s : Same H H1) : SIo K O H0 H1 σ ρ os :=
  ⟨h.same.trans s, fun a ha => let ⟨h1, o, h2, h3⟩ := h.own a ha; ⟨h1, o, s _ _ h2, h3⟩, h.len, fun i => (h.slot i).same s, h.apart⟩
theorem SIo.trk (h : SIo K O H0 H σ ρ os) (t : Trk O H0) : Trk (os ++ O) H := fun a ha => by
  rcases List.mem_append.mp ha with ha | ha
  · obtain ⟨_, o, h2, _⟩ := h.own a ha
    rw [h2]
    exact fun z => nomatch z
  · exact (t.mono h.same) a ha
theorem SIo.notO (h : SIo K O H0 H σ ρ os) (t : Trk O H0) {p : Addr} (hp : p ∈ os) : p ∉ O := fun z => t p z (h.own p hp).1
/-- own lists hidden -/
theorem SIo.sdN (h : SIo K O H0 H σ ρ os) : SD K (hidL (os ++ O) H) σ (datN ρ) := ⟨by rw [datN_length]; exact h.len, fun i d e => by
  have g := h.slot i
  rw [lk_datN ρ i d e] at g
  exact g⟩
theorem hid_app : Same (hidL (os ++ O) H) (hidL O H) := fun b o e => by
  unfold hidL at e ⊢
  split at e
  · cases e
  · rename_i hb
    rw [if_neg fun z => hb (List.mem_append_right _ z)]
    exact e
theorem SIo.sd (h : SIo K O H0 H σ ρ os) (t : Trk O H0) : SD K (hidL O H) σ (dat ρ) := ⟨by rw [dat_length]; exact h.len, fun i d e => by
  have g := h.slot i
  rcases lk_dat ρ i d e with e1 | ⟨ds, rfl, e1⟩
  · rw [e1] at g
    obtain ⟨v, h1, h2⟩ := g
    exact ⟨v, h1, h2.same hid_app⟩
  · rw [e1] at g
    obtain ⟨p, xs, h1, h2, h3, h4⟩ := g
    exact ⟨_, h1, .lst (.of (hid_at (h.notO t h2) h3)) (h4.same hid_app)⟩⟩
/-- data without lists avoid own lists -/
theorem SIo.lf1 (h : SIo K O H0 H σ ρ os) {d : PyData} {v : V} (l : lf d = true) (hd : Dp K (hidL O H) v d) : Dp K (hidL (os ++ O) H) v d := by
  refine dp_lf (fun a xs r => ?_) d v l hd
  have key : ∀ o, hidL O H a = some o → mo o = false → hidL (os ++ O) H a = some o := fun o e m => by
    unfold hidL at e ⊢
    split at e
    · cases e
    · rename_i hb
      rw [if_neg fun z => ?_]
      · exact e
      · rcases List.mem_append.mp z with z | z
        · obtain ⟨_, o', h2, h3⟩ := h.own a z
          rw [e] at h2
          cases h2
          rw [m] at h3
          cases h3
        · exact hb z
  rcases r with r | ⟨o, r⟩
  · exact .inl (key _ r rfl)
  · exact .inr ⟨o, key _ r rfl⟩
theorem SIo.lfA1 (h : SIo K O H0 H σ ρ os) {p : Addr} (hp : p ∉ os) : ∀ {ds : List PyData} {vs : List V}, lfA ds = true → DpAll K (hidL (p :: O) H) vs ds → DpAll K (hidL (os ++ p :: O) H) vs ds := fun {ds vs} l hd => by
  refine dpA_lf (fun a xs r => ?_) ds vs l hd
  have key : ∀ o, hidL (p :: O) H a = some o → mo o = false → hidL (os ++ p :: O) H a = some o := fun o e m => by
    unfold hidL at e ⊢
    split at e
    · cases e
    · rename_i hb
      rw [if_neg fun z => ?_]
      · exact e
      · rcases List.mem_append.mp z with z | z
        · obtain ⟨_, o', h2, h3⟩ := h.own a z
          rw [e] at h2
          cases h2
          rw [m] at h3
          cases h3
        · exact hb z
  rcases r with r | ⟨o, r⟩
  · exact .inl (key _ r rfl)
  · exact .inr ⟨o, key _ r rfl⟩
/-- a slot is set to data -/
theorem SIo.setIm (h : SIo K O H0 H σ ρ os) {i : Nat} {v : V} {d : PyData} (hi : i < ρ.length) (hd : Dp K (hidL (os ++ O) H) v d) : SIo K O H0 H (σ.set i (some v)) (stS ρ i (.im d)) os := by
  refine ⟨h.same, h.own, by rw [List.length_set, stS_length]; exact h.len, fun j => ?_, fun j k p hjk hj hk e1 e2 => ?_⟩
  · rw [lkS_st ρ i j _ hi]
    by_cases e : i = j
    · subst e
      rw [if_pos rfl, List.getElem?_set_self (by rw [h.len]; exact hi)]
      exact ⟨v, rfl, hd⟩
    · rw [if_neg e, List.getElem?_set_ne e]
      exact h.slot j
  · rw [lkS_st ρ i j _ hi] at hj
    rw [lkS_st ρ i k _ hi] at hk
    by_cases e : i = j
    · rw [if_pos e] at hj
      cases hj
    · by_cases e' : i = k
      · rw [if_pos e'] at hk
        cases hk
      · rw [if_neg e] at hj
        rw [if_neg e'] at hk
        rw [List.getElem?_set_ne e] at e1
        rw [List.getElem?_set_ne e'] at e2
        exact h.apart j k p hjk hj hk e1 e2
theorem hid_swap {p : Addr} : Same (hidL (os ++ p :: O) H) (hidL (p :: os ++ O) H) := fun b o e => by
  unfold hidL at e ⊢
  split at e
  · cases e
  · rename_i hb
    rw [if_neg fun z => hb (by
      simp only [List.cons_append, List.mem_cons, List.mem_append] at z ⊢
      rcases z with z | z | z
      · exact .inr (.inl z)
      · exact .inl z
      · exact .inr (.inr z))]
    exact e
theorem SlOk.more {p : Addr} {o : HO} (hp : H p = none) : ∀ {l : Sl} {x : Option (Option V)}, SlOk K O os H l x → SlOk K O (p :: os) (upd H p o) l x
  | .no, _, _ => trivial
  | .im _, _, ⟨v, h1, h2⟩ => ⟨v, h1, h2.same (same_hid_new (same_new hp) hp)⟩
  | .ow _, _, ⟨q, xs, h1, h2, h3, h4⟩ => ⟨q, xs, h1, List.mem_cons_of_mem _ h2, same_new hp _ _ h3, h4.same (same_hid_new (same_new hp) hp)⟩
  | .dk _, _, ⟨q, h1, h2, h3⟩ => ⟨q, h1, List.mem_cons_of_mem _ h2, same_new hp _ _ h3⟩
  | .ad _, _, h => h
theorem SlOk.more' {p : Addr} (hp : H p = none) (s : Same H H1) : ∀ {l : Sl} {x : Option (Option V)}, SlOk K O os H l x → SlOk K O (p :: os) H1 l x
  | .no, _, _ => trivial
  | .im _, _, ⟨v, h1, h2⟩ => ⟨v, h1, h2.same (same_hid_new s hp)⟩
  | .ow _, _, ⟨q, xs, h1, h2, h3, h4⟩ => ⟨q, xs, h1, List.mem_cons_of_mem _ h2, s _ _ h3, h4.same (same_hid_new s hp)⟩
  | .dk _, _, ⟨q, h1, h2, h3⟩ => ⟨q, h1, List.mem_cons_of_mem _ h2, s _ _ h3⟩
  | .ad _, _, h => h
/-- a slot is set to a new own object -/
theorem SIo.setNew (h : SIo K O H0 H σ ρ os) {i : Nat} {p : Addr} {o : HO} {l : Sl} (hi : i < ρ.length) (hp : H p = none) (s : Same H H1) (ho : H1 p = some o) (hm : mo o = true) (hl : SlOk K O (p :: os) H1 l (some (some (.ref p)))) :
    SIo K O H0 H1 (σ.set i (some (.ref p))) (stS ρ i l) (p :: os) := by
  have nop : ∀ j, isOw (lkS ρ j) = true → σ[j]? ≠ some (some (.ref p)) := fun j hj e => by
    have g := h.slot j
    cases q : lkS ρ j with
    | no => rw [q] at hj; cases hj
    | im d => rw [q] at hj; cases hj
    | ad a => rw [q] at hj; cases hj
    | ow ds =>
      rw [q] at g
      obtain ⟨p', xs, h1, h2, h3, _⟩ := g
      rw [e] at h1
      cases h1
      rw [hp] at h3
      cases h3
    | dk ks =>
      rw [q] at g
      obtain ⟨p', h1, h2, h3⟩ := g
      rw [e] at h1
      cases h1
      rw [hp] at h3
      cases h3
  refine ⟨h.same.trans s, fun a ha => ?_, by rw [List.length_set, stS_length]; exact h.len, fun j => ?_, fun j k q hjk hj hk e1 e2 => ?_⟩
  · rcases List.mem_cons.mp ha with rfl | ha
    · exact ⟨h.same.free hp, o, ho, hm⟩
    · obtain ⟨h1, o', h2, h3⟩ := h.own a ha
      exact ⟨h1, o', s _ _ h2, h3⟩
  · rw [lkS_st ρ i j _ hi]
    by_cases e : i = j
    · subst e
      rw [if_pos rfl, List.getElem?_set_self (by rw [h.len]; exact hi)]
      exact hl
    · rw [if_neg e, List.getElem?_set_ne e]
      exact (h.slot j).more' hp s
  · rw [lkS_st ρ i j _ hi] at hj
    rw [lkS_st ρ i k _ hi] at hk
    by_cases e : i = j
    · have e' : i ≠ k := fun z => hjk (e.symm.trans z)
      rw [if_neg e'] at hk
      subst e
      rw [List.getElem?_set_self (by rw [h.len]; exact hi)] at e1
      cases e1
      rw [List.getElem?_set_ne e'] at e2
      exact nop k hk e2
    · rw [if_neg e] at hj
      rw [List.getElem?_set_ne e] at e1
      by_cases e' : i = k
      · subst e'
        rw [List.getElem?_set_self (by rw [h.len]; exact hi)] at e2
        cases e2
        exact nop j hj e1
      · rw [if_neg e'] at hk
        rw [List.getElem?_set_ne e'] at e2
        exact h.apart j k q hjk hj hk e1 e2
/-- an own object is written -/
theorem SIo.write (h : SIo K O H0 H σ ρ os) {i : Nat} {p : Addr} {o : HO} {l : Sl} (hp : p ∈ os) (hs : σ[i]? = some (some (.ref p))) (hw : isOw (lkS ρ i) = true) (hm : mo o = true) (hlo : isOw l = true) (hl : SlOk K O os (upd H p o) l (some (some (.ref p)))) :
    SIo K O H0 (upd H p o) σ (stS ρ i l) os := by
  have hi : i < ρ.length := by
    rw [← h.len]
    exact (List.getElem?_eq_some_iff.mp hs).1
  have hid : Same (hidL (os ++ O) H) (hidL (os ++ O) (upd H p o)) := fun b u e => by
    unfold hidL at e ⊢
    split at e
    · cases e
    · rename_i hb
      rw [if_neg hb, upd_ne fun z => hb (List.mem_append_left _ (by rw [z]; exact hp))]
      exact e
  refine ⟨fun b u e => ?_, fun a ha => ?_, by rw [stS_length]; exact h.len, fun j => ?_, fun j k q hjk hj hk e1 e2 => ?_⟩
  · rw [upd_ne (ne_of_none e (h.own p hp).1)]
    exact h.same _ _ e
  · obtain ⟨h1, o', h2, h3⟩ := h.own a ha
    by_cases e : a = p
    · rw [e]
      rw [e] at h1
      exact ⟨h1, o, upd_same, hm⟩
    · exact ⟨h1, o', by rw [upd_ne e]; exact h2, h3⟩
  · rw [lkS_st ρ i j _ hi]
    by_cases e : i = j
    · subst e
      rw [if_pos rfl, hs]
      exact hl
    · rw [if_neg e]
      have g := h.slot j
      cases q : lkS ρ j with
      | no => trivial
      | im d =>
        rw [q] at g
        obtain ⟨v, h1, h2⟩ := g
        exact ⟨v, h1, h2.same hid⟩
      | ow ds =>
        rw [q] at g
        obtain ⟨p', xs, h1, h2, h3, h4⟩ := g
        have np : p' ≠ p := fun z => h.apart i j p e hw (by rw [q]; rfl) hs (by rw [h1, z])
        exact ⟨p', xs, h1, h2, by rw [upd_ne np]; exact h3, h4.same hid⟩
      | dk ks =>
        rw [q] at g
        obtain ⟨p', h1, h2, h3⟩ := g
        have np : p' ≠ p := fun z => h.apart i j p e hw (by rw [q]; rfl) hs (by rw [h1, z])
        exact ⟨p', h1, h2, by rw [upd_ne np]; exact h3⟩
      | ad a =>
        rw [q] at g
        exact g
  · rw [lkS_st ρ i j _ hi] at hj
    rw [lkS_st ρ i k _ hi] at hk
    have own : ∀ m, isOw (if i = m then l else lkS ρ m) = true → isOw (lkS ρ m) = true := fun m z => by
      by_cases e : i = m
      · subst e; exact hw
      · rw [if_neg e] at z; exact z
    exact h.apart j k q hjk (own j hj) (own k hk) e1 e2
/-- forgetting -/
def Wk (ρ ρ' : Rs) : Prop := ρ'.length = ρ.length ∧ ∀ i, lkS ρ' i = .no ∨ lkS ρ' i = lkS ρ i
theorem Wk.refl (ρ : Rs) : Wk ρ ρ := ⟨rfl, fun _ => .inr rfl⟩
theorem wk_nil : Wk [] [] := Wk.refl _
theorem wk_no {ρ ρ' : Rs} {l : Sl} (h : Wk ρ ρ') : Wk (l :: ρ) (.no :: ρ') := ⟨congrArg (· + 1) h.1, fun i => by
  cases i with
  | zero => exact .inl rfl
  | succ i => exact h.2 i⟩
theorem wk_eq {ρ ρ' : Rs} {l : Sl} (h : Wk ρ ρ') : Wk (l :: ρ) (l :: ρ') := ⟨congrArg (· + 1) h.1, fun i => by
  cases i with
  | zero => exact .inr rfl
  | succ i => exact h.2 i⟩
theorem SIo.weak {ρ' : Rs} (h : SIo K O H0 H σ ρ os) (w : Wk ρ ρ') : SIo K O H0 H σ ρ' os := by
  refine ⟨h.same, h.own, h.len.trans w.1.symm, fun i => ?_, fun i j p hij hi hj e1 e2 => ?_⟩
  · rcases w.2 i with e | e
    · rw [e]; trivial
    · rw [e]; exact h.slot i
  · have key : ∀ m, isOw (lkS ρ' m) = true → isOw (lkS ρ m) = true := fun m z => by
      rcases w.2 m with e | e
      · rw [e] at z; cases z
      · rw [e] at z; exact z
    exact h.apart i j p hij (key i hi) (key j hj) e1 e2
/-- an own list is now data -/
theorem SIo.freeze (h : SIo K O H0 H σ ρ os) (t : Trk O H0) {i : Nat} {ds : List PyData} (hi : lkS ρ i = .ow ds) : ∃ os', SIo K O H0 H σ (stS ρ i (.im (.list ds))) os' := by
  have g := h.slot i
  rw [hi] at g
  obtain ⟨p, xs, h1, h2, h3, h4⟩ := g
  have hl : i < ρ.length := by
    rw [← h.len]
    exact (List.getElem?_eq_some_iff.mp h1).1
  have sub : Same (hidL (os ++ O) H) (hidL ((os.filter fun a => decide (a ≠ p)) ++ O) H) := fun b o e => by
    unfold hidL at e ⊢
    split at e
    · cases e
    · rename_i hb
      rw [if_neg fun z => hb ?_]
      · exact e
      · rcases List.mem_append.mp z with z | z
        · exact List.mem_append_left _ (List.mem_filter.mp z).1
        · exact List.mem_append_right _ z
  have stay : ∀ j q, i ≠ j → isOw (lkS ρ j) = true → σ[j]? = some (some (.ref q)) → q ∈ os → q ∈ os.filter fun a => decide (a ≠ p) := fun j q hij hj e hq =>
    List.mem_filter.mpr ⟨hq, decide_eq_true fun z => h.apart i j p hij (by rw [hi]; rfl) hj h1 (by rw [e, z])⟩
  refine ⟨os.filter fun a => decide (a ≠ p), h.same, fun a ha => h.own a (List.mem_filter.mp ha).1, by rw [stS_length]; exact h.len, fun j => ?_, fun j k q hjk hj hk e1 e2 => ?_⟩
  · rw [lkS_st ρ i j _ hl]
    by_cases e : i = j
    · subst e
      rw [if_pos rfl]
      refine ⟨_, h1, .lst (.of (hid_at (fun z => ?_) h3)) (h4.same sub)⟩
      rcases List.mem_append.mp z with z | z
      · exact of_decide_eq_true (List.mem_filter.mp z).2 rfl
      · exact h.notO t h2 z
    · rw [if_neg e]
      have g := h.slot j
      cases q : lkS ρ j with
      | no => trivial
      | im d =>
        rw [q] at g
        obtain ⟨v, g1, g2⟩ := g
        exact ⟨v, g1, g2.same sub⟩
      | ow es =>
        rw [q] at g
        obtain ⟨p', xs', g1, g2, g3, g4⟩ := g
        exact ⟨p', xs', g1, stay j p' e (by rw [q]; rfl) g1 g2, g3, g4.same sub⟩
      | dk ks =>
        rw [q] at g
        obtain ⟨p', g1, g2, g3⟩ := g
        exact ⟨p', g1, stay j p' e (by rw [q]; rfl) g1 g2, g3⟩
      | ad a =>
        rw [q] at g
        exact g
  · rw [lkS_st ρ i j _ hl] at hj
    rw [lkS_st ρ i k _ hl] at hk
    have own : ∀ m, isOw (if i = m then Sl.im (.list ds) else lkS ρ m) = true → isOw (lkS ρ m) = true := fun m z => by
      by_cases e : i = m
      · rw [if_pos e] at z; cases z
      · rw [if_neg e] at z; exact z
    exact h.apart j k q hjk (own j hj) (own k hk) e1 e2
end

/-! ### the judgements -/
inductive Out where
  | nx (ρ : Rs) | rt (d : PyData) | rn (ds : List PyData)
def Ens (K : PySem.W.Frag) (O : List Addr) (H0 : Hp) (D : Ends) : Out → Prop
  | .nx ρ => ∀ σ H, SI K O H0 H σ ρ → D.nx σ H
  | .rt d => ∀ v H, Same H0 H → Dp K (hidL O H) v d → D.rt v H
  | .rn ds => ∀ p ob xs H, Same H0 H → hidL O H p = some (.frz ob (.tup xs)) → ob.dict = none → DpAll K (hidL O H) xs ds → D.rt (.ref p) H
structure GS (X : Cx) (s : Stmt) (ρ : Rs) (o : Out) : Prop where
  run : ∀ (O : List Addr) (H0 : Hp) (σ : L2.St) (H : Hp), Trk O H0 → SI X.K O H0 H σ ρ → ∀ D : Ends, Ens X.K O H0 D o → sP X s D σ H
structure GB (X : Cx) (s : List Stmt) (ρ : Rs) (o : Out) : Prop where
  run : ∀ (O : List Addr) (H0 : Hp) (σ : L2.St) (H : Hp), Trk O H0 → SI X.K O H0 H σ ρ → ∀ D : Ends, Ens X.K O H0 D o → sPs X s D σ H
/-- an expression for a slot -/
structure GV (X : Cx) (e : Expr) (ρ : Rs) (d : PyData) : Prop where
  run : ∀ (O os : List Addr) (H0 : Hp) (σ : L2.St) (H : Hp), Trk O H0 → SIo X.K O H0 H σ ρ os → ∀ Q : VK, (∀ v H', Same H H' → Dp X.K (hidL (os ++ O) H') v d → Q v H') → sE X e σ H Q
structure GVL (X : Cx) (e : Expr) (ρ : Rs) (ds : List PyData) : Prop where
  run : ∀ (O os : List Addr) (H0 : Hp) (σ : L2.St) (H : Hp), Trk O H0 → SIo X.K O H0 H σ ρ os → ∀ Q : VK, (∀ p xs H', H p = none → Same H H' → H' p = some (.lst xs) → DpAll X.K (hidL (p :: os ++ O) H') xs ds → Q (.ref p) H') → sE X e σ H Q
section
variable {X : Cx} {e c : Expr} {ρ ρ1 : Rs} {d : PyData} {ds es : List PyData} {o : Out} {s : Stmt} {ss a b : List Stmt} {pos pos' : Pos} {i : Nat} {x : Str}
theorem GE.v (h : GE X e (datN ρ) d) : GV X e ρ d := ⟨fun O os H0 σ H tO I Q q => h.run (os ++ O) σ H (I.trk tO) I.sdN Q q⟩
theorem GE.vo (h : GE X e (dat ρ) d) (l : lf d = true) : GV X e ρ d := ⟨fun O os H0 σ H tO I Q q => h.run O σ H (tO.mono I.same) (I.sd tO) Q fun v H' s dv => q v H' s ((I.step s).lf1 l dv)⟩
theorem GEL.v (h : GEL X e (datN ρ) ds) : GVL X e ρ ds := ⟨fun O os H0 σ H tO I Q q => h.run (os ++ O) σ H (I.trk tO) I.sdN Q q⟩
theorem GEL.vo (h : GEL X e (dat ρ) ds) (l : lfA ds = true) : GVL X e ρ ds := ⟨fun O os H0 σ H tO I Q q => h.run O σ H (tO.mono I.same) (I.sd tO) Q fun p xs H' hp s hx ha => q p xs H' hp s hx (((I.step s).lfA1 (fun z => by
  obtain ⟨_, o', h2, _⟩ := I.own p z
  rw [hp] at h2
  cases h2) l ha).same hid_swap)⟩
theorem GB.to {o' : Out} (h : GB X ss ρ o) (q : o = o') : GB X ss ρ o' := q ▸ h
theorem gb_nil : GB X [] ρ (.nx ρ) := ⟨fun O H0 σ H tO I D q => pss_nil.se (q σ H I)⟩
theorem gb_cons (h1 : GS X s ρ (.nx ρ1)) (h2 : GB X ss ρ1 o) : GB X (s :: ss) ρ o := ⟨fun O H0 σ H tO I D q => (pss_cons sP_ok sPs_ok).se (h1.run O H0 σ H tO I { D with nx := sPs X ss D } fun σ' H' I' => h2.run O H0 σ' H' tO I' D q)⟩
theorem gb_stop (h1 : GS X s ρ (.rt d)) : GB X (s :: ss) ρ (.rt d) := ⟨fun O H0 σ H tO I D q => (pss_cons sP_ok sPs_ok).se (h1.run O H0 σ H tO I { D with nx := sPs X ss D } q)⟩
theorem gb_one (h1 : GS X s ρ o) : GB X [s] ρ o := ⟨fun O H0 σ H tO I D q => (pss_one sP_ok).se (h1.run O H0 σ H tO I D q)⟩
theorem GB.weak (w : Wk ρ ρ1) (h : GB X ss ρ1 o) : GB X ss ρ o := ⟨fun O H0 σ H tO I D q => let ⟨os, I⟩ := I; h.run O H0 σ H tO ⟨os, I.weak w⟩ D q⟩
theorem gb_frz (i : Nat) (hi : lkS ρ i = .ow ds := by rfl) (h : GB X ss (stS ρ i (.im (.list ds))) o) : GB X ss ρ o := ⟨fun O H0 σ H tO I D q => let ⟨os, I⟩ := I; h.run O H0 σ H tO (I.freeze tO hi) D q⟩
theorem gs_ret (h : GE X e (dat ρ) d) : GS X (.Return (some e) pos) ρ (.rt d) := ⟨fun O H0 σ H tO I D q => let ⟨os, I⟩ := I; (ps_ret sE_ok).se (h.run O σ H (tO.mono I.same) (I.sd tO) _ fun v H' s dv => q v H' (I.same.trans s) dv)⟩
theorem gs_expr (h : GE X e (dat ρ) d) (hs : swapsWith e none pos.line X.env = pure false := by rfl) : GS X (.Expr e pos) ρ (.nx ρ) := ⟨fun O H0 σ H tO I D q => let ⟨os, I⟩ := I; (ps_expr sE_ok hs).se (h.run O σ H (tO.mono I.same) (I.sd tO) _ fun v H' s dv => q σ H' ⟨os, I.step s⟩)⟩
theorem gs_ifT (hc : GT X c (dat ρ) true) (h : GB X a ρ o) : GS X (.If c a b pos) ρ o := ⟨fun O H0 σ H tO I D q => let ⟨os, I⟩ := I; (ps_if sT_ok sPs_ok sPs_ok).se (hc.run O σ H (tO.mono I.same) (I.sd tO) _ fun H' s => iteT (h.run O H0 σ H' tO ⟨os, I.step s⟩ D q))⟩
theorem gs_ifF (hc : GT X c (dat ρ) false) (h : GB X b ρ o) : GS X (.If c a b pos) ρ o := ⟨fun O H0 σ H tO I D q => let ⟨os, I⟩ := I; (ps_if sT_ok sPs_ok sPs_ok).se (hc.run O σ H (tO.mono I.same) (I.sd tO) _ fun H' s => iteF (h.run O H0 σ H' tO ⟨os, I.step s⟩ D q))⟩
theorem gs_set (h : GV X e ρ d) (hN : X.N.Nodup) (hi : X.N[i]? = some x) (hx : Loc X.env.scope x) (hl : i < ρ.length := by exact ltb rfl) (hs : swapsWith e (some (.Name x pos')) pos.line X.env = pure false := by rfl) (hf : X.fn x = true ∨ X.env.scope.names.lookup x = some .local := by first | exact .inl rfl | exact .inr rfl | assumption) :
    GS X (.Assign [.Name x pos'] e pos) ρ (.nx (stS ρ i (.im d))) := ⟨fun O H0 σ H tO I D q => let ⟨os, I⟩ := I; (ps_set hN hi hx sE_ok hs hf).se (h.run O os H0 σ H tO I _ fun v H' s dv => q _ H' ⟨os, (I.step s).setIm hl dv⟩)⟩
theorem SIo.setLst {K : PySem.W.Frag} {O os : List Addr} {H0 H H' : Hp} {σ : L2.St} (I : SIo K O H0 H σ ρ os) {p : Addr} {xs : List V} (hi : i < ρ.length) (hp : H p = none) (s : Same H H') (hx : H' p = some (.lst xs)) (ha : DpAll K (hidL (p :: os ++ O) H') xs ds) :
    SIo K O H0 H' (σ.set i (some (.ref p))) (stS ρ i (.ow ds)) (p :: os) := I.setNew hi hp s hx rfl ⟨p, xs, rfl, List.mem_cons_self .., hx, ha⟩
theorem gs_setL (h : GVL X e ρ ds) (hN : X.N.Nodup) (hi : X.N[i]? = some x) (hx : Loc X.env.scope x) (hl : i < ρ.length := by exact ltb rfl) (hs : swapsWith e (some (.Name x pos')) pos.line X.env = pure false := by rfl) (hf : X.fn x = true ∨ X.env.scope.names.lookup x = some .local := by first | exact .inl rfl | exact .inr rfl | assumption) :
    GS X (.Assign [.Name x pos'] e pos) ρ (.nx (stS ρ i (.ow ds))) := ⟨fun O H0 σ H tO I D q => let ⟨os, I⟩ := I; (ps_set hN hi hx sE_ok hs hf).se (h.run O os H0 σ H tO I _ fun p xs H' hp s hx ha => q _ H' ⟨_, I.setLst hl hp s hx ha⟩)⟩
/-- name = [..] on one line: a new own list | data -/
theorem gs_setC {t : TE} (p : PS X s (tAsg t (gName i))) (h : GLC X t (datN ρ) ds) (hl : i < ρ.length := by exact ltb rfl) : GS X s ρ (.nx (stS ρ i (.ow ds))) := ⟨fun O H0 σ H tO I D q => let ⟨os, I⟩ := I; p.se (h.run (os ++ O) σ H (I.trk tO) I.sdN _ fun p xs H' hp s hx ha => q _ H' ⟨_, I.setLst hl hp s hx ha⟩)⟩
theorem SIo.setLi {K : PySem.W.Frag} {O os : List Addr} {H0 H H' : Hp} {σ : L2.St} (I : SIo K O H0 H σ ρ os) (tO : Trk O H0) {p : Addr} {xs : List V} (hi : i < ρ.length) (hp : H p = none) (s : Same H H') (hx : H' p = some (.lst xs)) (ha : DpAll K (hidL (p :: (os ++ O)) H') xs ds) :
    SIo K O H0 H' (σ.set i (some (.ref p))) (stS ρ i (.im (.list ds))) os := (I.step s).setIm hi (.lst (.of (hid_at ((I.trk tO).out hp) hx)) (ha.same hid_less))
theorem gs_setCi {t : TE} (p : PS X s (tAsg t (gName i))) (h : GLC X t (datN ρ) ds) (hl : i < ρ.length := by exact ltb rfl) : GS X s ρ (.nx (stS ρ i (.im (.list ds)))) := ⟨fun O H0 σ H tO I D q => let ⟨os, I⟩ := I; p.se (h.run (os ++ O) σ H (I.trk tO) I.sdN _ fun p xs H' hp s hx ha => q _ H' ⟨_, I.setLi tO hl hp s hx ha⟩)⟩
theorem gs_app {apos cpos npos : Pos} (hw : lkS ρ i = .ow ds) (h : GV X e ρ d) (hz : ds.length < 100000) (hN : X.N[i]? = some x) (hv : Vis X.env.scope x := by first | exact Or.inl rfl | exact Or.inr (Or.inl rfl) | exact Or.inr (Or.inr rfl)) (h1 : (x == ("__debug__" : Str)) = false := by decide) (h2 : (x == ("__classdict__" : Str)) = false := by decide)
    (hb : attributeBase (.Name x npos) "append" X.env (eval (.Name x npos) X.env) = eval (.Name x npos) X.env := by rfl)
    (hfew : ((backTo cpos (starEach (e :: []) X.env)).all (fun x => !x.1) && (backToKw cpos (keywordEach [] X.env)).all (fun x => x.1.isSome)
      && decide ((e :: []).length + ([] : List Keyword).length + (if ([] : List Keyword).isEmpty then 0 else 1) < 30)) = true := by rfl)
    (hline : (apos.endLine == cpos.line) = true := by rfl) (hst : starEach (e :: []) X.env = (false, eval e X.env) :: starEach [] X.env := by rfl) (hpl : (backTo cpos (starEach [] X.env)).any (·.1) = false := by rfl)
    (hs : swapsWith (.Call (.Attribute (.Name x npos) "append" apos) [e] [] cpos) none pos.line X.env = pure false := by rfl) :
    GS X (.Expr (.Call (.Attribute (.Name x npos) "append" apos) [e] [] cpos) pos) ρ (.nx (stS ρ i (.ow (ds ++ [d])))) := ⟨fun O H0 σ H tO I D q => by
  obtain ⟨os, I⟩ := I
  have g := I.slot i
  rw [hw] at g
  obtain ⟨p, xs, g1, g2, g3, g4⟩ := g
  refine (ps_expr (pe_bm PySem.F.plainAttrs_list PySem.F.slot_list_append PySem.F.type_list_append mt_append (pe_var hN hv h1 h2) (pa_cons sE_ok pa_nil hst) hb hfew hline hst hpl) hs).se ⟨.ref p, g1, .inl ⟨rfl, _, .of g3⟩, h.run O os H0 σ H tO I _ fun v H' s dv => ⟨p, xs, v, rfl, rfl, s _ _ g3, small_l (by rw [g4.length]; omega), q σ _ ⟨os, ?_⟩⟩⟩
  have I' := I.step s
  refine I'.write g2 g1 (by rw [hw]; rfl) rfl rfl ⟨p, _, rfl, g2, upd_same, ?_⟩
  have hid : Same (hidL (os ++ O) H') (hidL (os ++ O) (upd H' p (.lst (xs ++ [v])))) := fun b u e => by
    unfold hidL at e ⊢
    split at e
    · cases e
    · rename_i hb
      rw [if_neg hb, upd_ne fun z => hb (List.mem_append_left _ (by rw [z]; exact g2))]
      exact e
  exact ((g4.same (hid_same s)).append (dpA_one dv)).same hid⟩
theorem gs_ext {apos cpos npos : Pos} (hw : lkS ρ i = .ow ds) (h : GVL X e ρ es) (hz : ds.length + es.length ≤ 100000) (hN : X.N[i]? = some x) (hv : Vis X.env.scope x := by first | exact Or.inl rfl | exact Or.inr (Or.inl rfl) | exact Or.inr (Or.inr rfl)) (h1 : (x == ("__debug__" : Str)) = false := by decide) (h2 : (x == ("__classdict__" : Str)) = false := by decide)
    (hb : attributeBase (.Name x npos) "extend" X.env (eval (.Name x npos) X.env) = eval (.Name x npos) X.env := by rfl)
    (hfew : ((backTo cpos (starEach (e :: []) X.env)).all (fun x => !x.1) && (backToKw cpos (keywordEach [] X.env)).all (fun x => x.1.isSome)
      && decide ((e :: []).length + ([] : List Keyword).length + (if ([] : List Keyword).isEmpty then 0 else 1) < 30)) = true := by rfl)
    (hline : (apos.endLine == cpos.line) = true := by rfl) (hst : starEach (e :: []) X.env = (false, eval e X.env) :: starEach [] X.env := by rfl) (hpl : (backTo cpos (starEach [] X.env)).any (·.1) = false := by rfl)
    (hs : swapsWith (.Call (.Attribute (.Name x npos) "extend" apos) [e] [] cpos) none pos.line X.env = pure false := by rfl) :
    GS X (.Expr (.Call (.Attribute (.Name x npos) "extend" apos) [e] [] cpos) pos) ρ (.nx (stS ρ i (.ow (ds ++ es)))) := ⟨fun O H0 σ H tO I D q => by
  obtain ⟨os, I⟩ := I
  have g := I.slot i
  rw [hw] at g
  obtain ⟨p, xs, g1, g2, g3, g4⟩ := g
  refine (ps_expr (pe_bm PySem.F.plainAttrs_list PySem.F.slot_list_extend PySem.F.type_list_extend mt_extend (pe_var hN hv h1 h2) (pa_cons sE_ok pa_nil hst) hb hfew hline hst hpl) hs).se ⟨.ref p, g1, .inl ⟨rfl, _, .of g3⟩, h.run O os H0 σ H tO I _ fun r ys H' hr s hy ha => ⟨p, r, xs, ys, rfl, rfl, s _ _ g3, hy, small_n (by rw [g4.length, ha.length]; exact hz), q σ _ ⟨os, ?_⟩⟩⟩
  have I' := I.step s
  refine I'.write g2 g1 (by rw [hw]; rfl) rfl rfl ⟨p, _, rfl, g2, upd_same, ?_⟩
  have hid : Same (hidL (os ++ O) H') (hidL (os ++ O) (upd H' p (.lst (xs ++ ys)))) := fun b u e => by
    unfold hidL at e ⊢
    split at e
    · cases e
    · rename_i hb
      rw [if_neg hb, upd_ne fun z => hb (List.mem_append_left _ (by rw [z]; exact g2))]
      exact e
  exact ((g4.same (hid_same s)).append (ha.same hid_less)).same hid⟩
/-- a for loop: j turns pass; the m-th may hand back -/
theorem gs_forR {g : TG} {tg iter : Expr} {body : List Stmt} {items : List PyData} (r : Nat → Rs) (m : Nat) (hm : m ≤ items.length) (bind : Rs → PyData → Rs) (hp : PassesOwn (model X.prog X.w) X.A X.env X.xe) (hc : X.calm = true) (hI : GI X tg iter (datN ρ) items) (h0 : Wk ρ (r 0)) (hg : PG X tg g)
    (hbind : ∀ (j : Nat) (O os : List Addr) (H0 : Hp) (σ : L2.St) (H : Hp) (v : V) (d : PyData), items[j]? = some d → SIo X.K O H0 H σ (r j) os → Dp X.K (hidL (os ++ O) H) v d → ∀ Q : L2.St → Hp → Prop, (∀ σ', SIo X.K O H0 H σ' (bind (r j) d) os → Q σ' H) → g v σ H Q)
    (ht : ∀ j d, j < m → items[j]? = some d → ∃ ρ', GB X body (bind (r j) d) (.nx ρ') ∧ Wk ρ' (r (j + 1)))
    (he : (m = items.length ∧ o = .nx (r items.length)) ∨ ∃ d e, items[m]? = some d ∧ o = .rt e ∧ GB X body (bind (r m) d) (.rt e))
    (hs : ∀ x, foldedSetIterable iter X.env x = pure x := by intro _; rfl) : GS X (.For tg iter body [] pos) ρ o := ⟨fun O H0 σ H tO I D q => by
  obtain ⟨os, I⟩ := I
  refine (ps_for hp hc sI_ok hg sPs_ok hs).se (hI.run (os ++ O) σ H (I.trk tO) I.sdN _ fun J H' s W => ?_)
  have I' := (I.step s).weak h0
  -- the heap at the loop's start without the own lists
  have s0 : Same H0 (hidL os H') := fun b u e => by
    unfold hidL
    rw [if_neg fun z => by rw [(I'.own b z).1] at e; cases e]
    exact I'.same _ _ e
  have tO' : Trk O (hidL os H') := tO.mono s0
  have hidOs : ∀ {h : Hp} {os2 : List Addr}, Same (hidL os H') h → (∀ a ∈ os2, hidL os H' a = none) → Same (hidL (os ++ O) H') (hidL (os2 ++ O) h) := fun {h os2} sh ho b u e => by
    unfold hidL at e
    split at e
    · cases e
    · rename_i hb
      have n1 : b ∉ os := fun z => hb (List.mem_append_left _ z)
      have n2 : b ∉ O := fun z => hb (List.mem_append_right _ z)
      have e' : hidL os H' b = some u := hid_at n1 e
      refine hid_at (fun z => ?_) (sh _ _ e')
      rcases List.mem_append.mp z with z | z
      · rw [ho b z] at e'; cases e'
      · exact n2 z
  have I0 : SIo X.K O (hidL os H') H' σ (r 0) os := ⟨hid_sub, fun a ha => ⟨by unfold hidL; rw [if_pos ha], (I'.own a ha).2⟩, I'.len, I'.slot, I'.apart⟩
  have back : ∀ {h : Hp} {τ : L2.St} {ρ2 : Rs} {os2 : List Addr}, SIo X.K O (hidL os H') h τ ρ2 os2 → SIo X.K O H0 h τ ρ2 os2 := fun {h τ ρ2 os2} Z => ⟨s0.trans Z.same, fun a ha => ⟨s0.free (Z.own a ha).1, (Z.own a ha).2⟩, Z.len, Z.slot, Z.apart⟩
  refine for_it W (fun j τ h => j ≤ m ∧ SI X.K O (hidL os H') h τ (r j)) ⟨Nat.zero_le _, os, I0⟩ (fun j τ h _ p => ?_) (fun j x τ h h' hj p y => ?_) (fun τ h p => ?_)
  · obtain ⟨_, os2, Z⟩ := p
    exact fun b u e => by
      have z := hidOs (os2 := []) Z.same (fun a ha => absurd ha (by simp)) b u e
      unfold hidL at e ⊢
      split at e
      · cases e
      · rename_i hb
        rw [if_neg hb]
        exact hid_sub _ _ z
  · obtain ⟨hjm, os2, Z⟩ := p
    obtain ⟨y1, d, hd, y2⟩ := y
    have dx := y2 (os2 ++ O) (hidOs Z.same fun a ha => (Z.own a ha).1) (Z.trk tO')
    have Z' := Z.step y1
    refine hbind j O os2 _ τ h' x d hd Z' dx _ fun τ' Z2 => ?_
    by_cases hlt : j < m
    · obtain ⟨ρ', hb, hw⟩ := ht j d hlt hd
      exact hb.run O _ τ' h' tO' ⟨os2, Z2⟩ _ fun τ3 h3 Z3 => let ⟨os3, Z3⟩ := Z3; ⟨hlt, os3, Z3.weak hw⟩
    · have ejm : j = m := by omega
      subst ejm
      rcases he with ⟨z, _⟩ | ⟨d', e', hd', rfl, hb⟩
      · omega
      · rw [hd] at hd'
        cases hd'
        exact hb.run O _ τ' h' tO' ⟨os2, Z2⟩ _ fun v h3 s3 dv => q v h3 (s0.trans s3) dv
  · obtain ⟨hjm, os2, Z⟩ := p
    rcases he with ⟨z, rfl⟩ | ⟨d', e', hd', _, _⟩
    · exact q τ h ⟨os2, back Z⟩
    · have := (List.getElem?_eq_some_iff.mp hd').1
      omega⟩
/-- the target is a name; no turn hands back -/
theorem gs_for1 {tg iter : Expr} {body : List Stmt} {items : List PyData} (r : Nat → Rs) (hp : PassesOwn (model X.prog X.w) X.A X.env X.xe) (hc : X.calm = true) (hI : GI X tg iter (datN ρ) items) (h0 : Wk ρ (r 0)) (hg : PG X tg (gName i)) (hl : ∀ j, i < (r j).length)
    (ht : ∀ j d, items[j]? = some d → ∃ ρ', GB X body (stS (r j) i (.im d)) (.nx ρ') ∧ Wk ρ' (r (j + 1))) (hs : ∀ x, foldedSetIterable iter X.env x = pure x := by intro _; rfl) : GS X (.For tg iter body [] pos) ρ (.nx (r items.length)) :=
  gs_forR r items.length (Nat.le_refl _) (fun ρ d => stS ρ i (.im d)) hp hc hI h0 hg (fun j O os H0 σ H v d _ I dv Q q => q _ (I.setIm (hl j) dv)) (fun j d _ hd => ht j d hd) (.inl ⟨rfl, rfl⟩) hs
/-- the m-th turn hands back -/
theorem gs_for1R {tg iter : Expr} {body : List Stmt} {items : List PyData} {d : PyData} (r : Nat → Rs) (m : Nat) (hp : PassesOwn (model X.prog X.w) X.A X.env X.xe) (hc : X.calm = true) (hI : GI X tg iter (datN ρ) items) (h0 : Wk ρ (r 0)) (hg : PG X tg (gName i)) (hl : ∀ j, i < (r j).length)
    (ht : ∀ j d, j < m → items[j]? = some d → ∃ ρ', GB X body (stS (r j) i (.im d)) (.nx ρ') ∧ Wk ρ' (r (j + 1))) {it : PyData} (hit : items[m]? = some it) (hm : GB X body (stS (r m) i (.im it)) (.rt d)) (hs : ∀ x, foldedSetIterable iter X.env x = pure x := by intro _; rfl) : GS X (.For tg iter body [] pos) ρ (.rt d) :=
  gs_forR r m (Nat.le_of_lt (List.getElem?_eq_some_iff.mp hit).1) (fun ρ d => stS ρ i (.im d)) hp hc hI h0 hg (fun j O os H0 σ H v d _ I dv Q q => q _ (I.setIm (hl j) dv)) ht (.inr ⟨it, d, hit, rfl, hm⟩) hs
/-- the target is a pair of names -/
theorem gs_for2 {i j : Nat} {tg iter : Expr} {body : List Stmt} {items : List (PyData × PyData)} (r : Nat → Rs) (hp : PassesOwn (model X.prog X.w) X.A X.env X.xe) (hc : X.calm = true) (hI : GI X tg iter (datN ρ) (items.map fun p => PyData.tuple [p.1, p.2])) (h0 : Wk ρ (r 0)) (hg : PG X tg (gTup X.K 2 (gCons (gName i) (gCons (gName j) gNil)))) (hl : ∀ n, i < (r n).length) (hl' : ∀ n, j < (r n).length)
    (ht : ∀ n d, items[n]? = some d → ∃ ρ', GB X body (stS (stS (r n) i (.im d.1)) j (.im d.2)) (.nx ρ') ∧ Wk ρ' (r (n + 1))) (hs : ∀ x, foldedSetIterable iter X.env x = pure x := by intro _; rfl) : GS X (.For tg iter body [] pos) ρ (.nx (r items.length)) := by
  have key := gs_forR (body := body) (o := .nx (r (items.map fun p => PyData.tuple [p.1, p.2]).length)) (pos := pos) r _ (Nat.le_refl _) (fun ρ d => match d with | .tuple [a, b] => stS (stS ρ i (.im a)) j (.im b) | _ => ρ) hp hc hI h0 hg (fun n O os H0 σ H v d hd I dv Q q => ?_) (fun n d _ hd => ?_) (.inl ⟨rfl, rfl⟩) hs
  · rw [List.length_map] at key
    exact key
  · rw [List.getElem?_map] at hd
    obtain ⟨d0, _, rfl⟩ := Option.map_eq_some_iff.mp hd
    cases dv with
    | @tup aT xs _ hT hA =>
      cases hA with
      | @cons x1 _ _ _ dx1 hA2 =>
        cases hA2 with
        | @cons x2 _ _ _ dx2 hA3 =>
          cases hA3
          exact ⟨aT, [x1, x2], rfl, sqT_same hid_sub hT, rfl, x1, [x2], rfl, x2, [], rfl, rfl, q _ ((I.setIm (hl n) dx1).setIm (by rw [stS_length]; exact hl' n) dx2)⟩
  · rw [List.getElem?_map] at hd
    obtain ⟨d0, h0, rfl⟩ := Option.map_eq_some_iff.mp hd
    exact ht n d0 h0
end

/-! ### a def -/
def entry (n : Nat) (ds : List PyData) : Rs := ds.map Sl.im ++ List.replicate (n - ds.length) .no
theorem lkS_entry (n : Nat) : ∀ (ds : List PyData) (i : Nat), lkS (ds.map Sl.im ++ List.replicate n .no) i = match ds[i]? with | some d => .im d | none => .no
  | [], i => by
    show lkS (List.replicate n .no) i = Sl.no
    induction n generalizing i with
    | zero => rfl
    | succ n ih =>
      cases i with
      | zero => rfl
      | succ i => exact ih i
  | d :: ds, 0 => rfl
  | d :: ds, i + 1 => by
    show lkS (ds.map Sl.im ++ List.replicate n .no) i = _
    rw [lkS_entry n ds i]
    rfl
section
variable {P : Program} {w : World} {K : PySem.W.Frag} {mg : Str → Option Value} {base : Heap}
theorem SI.entry {N : List Str} {O : List Addr} {H : Hp} {vs : List V} {ds : List PyData} (ha : DpAll K (hidL O H) vs ds) (hn : ds.length ≤ N.length) : SI K O H H (L2.start N vs) (entry N.length ds) := by
  refine ⟨[], Same.refl _, fun a ha => absurd ha (by simp), ?_, fun i => ?_, fun i j p hij hi hj e1 e2 => ?_⟩
  · unfold L2.start TT.entry
    simp only [List.length_append, List.length_map, List.length_replicate, ha.length]
  · unfold TT.entry
    rw [lkS_entry]
    cases q : ds[i]? with
    | none => trivial
    | some d =>
      obtain ⟨v, h1, h2⟩ := ha.get q
      refine ⟨v, ?_, h2⟩
      unfold L2.start
      rw [List.getElem?_append_left (by rw [List.length_map]; exact (List.getElem?_eq_some_iff.mp h1).1), List.getElem?_map, h1]
      rfl
  · unfold TT.entry at hi
    rw [lkS_entry] at hi
    cases q : ds[i]? with
    | none => rw [q] at hi; cases hi
    | some d => rw [q] at hi; cases hi
/-- THE RULE for a def -/
theorem Df.mk' {x qual : Str} {s : Stmt} {f : Addr} {fd : FuncData} {N ps : List Str} {k : Nat} {R : List PyData → PyData → Prop} (F : Fun K x qual s f fd) (S : FnScope N ps (defScope s)) (hm : mg x = some (.ref f)) (hb : Binds K fd ps []) (hlen : ∀ ds d, R ds d → ds.length = ps.length) (hN : ps.length ≤ N.length)
    (body : ∀ (cdv : Value) (A : Around) (outer : List Env) (s' : Shared) (H : Hp) (E : XK), Room k (A.deeper (envOfC qual (defScope s) s'.heap.objs.size f cdv)) → ∀ ds d, R ds d →
      GB (cxOf CX0 P w K mg base N qual (defScope s) f cdv A outer s' H E).nox (defBody s) (entry N.length ds) (.rt d)) : Df P w K mg base x ps (k + 1) R := by
  refine ⟨f, fd, hm, F.kp, hb, F.ok S (fun vs H Q E h => ?_) (fun cdv A outer s' H vs Q E hr h => ?_)⟩
  · obtain ⟨O, ds, d, tO, hd, hR, _⟩ := h
    rw [hd.length]
    exact hlen ds d hR
  · obtain ⟨O, ds, d, tO, hd, hR, q⟩ := h
    refine ⟨_, sPs_ok, (body cdv A outer s' H E hr ds d hR).run O H _ H tO (SI.entry hd (by rw [hlen ds d hR]; exact hN)) _ fun v H' s dv => q v H' s dv⟩
/-- .. that ends without return -/
theorem Df.mkN {x qual : Str} {s : Stmt} {f : Addr} {fd : FuncData} {N ps : List Str} {k : Nat} {R : List PyData → Prop} (F : Fun K x qual s f fd) (S : FnScope N ps (defScope s)) (hm : mg x = some (.ref f)) (hb : Binds K fd ps []) (hlen : ∀ ds, R ds → ds.length = ps.length) (hN : ps.length ≤ N.length)
    (body : ∀ (cdv : Value) (A : Around) (outer : List Env) (s' : Shared) (H : Hp) (E : XK), Room k (A.deeper (envOfC qual (defScope s) s'.heap.objs.size f cdv)) → ∀ ds, R ds →
      ∃ ρ, GB (cxOf CX0 P w K mg base N qual (defScope s) f cdv A outer s' H E).nox (defBody s) (entry N.length ds) (.nx ρ)) : Df P w K mg base x ps (k + 1) (fun ds d => R ds ∧ d = .none) := by
  refine ⟨f, fd, hm, F.kp, hb, F.ok S (fun vs H Q E h => ?_) (fun cdv A outer s' H vs Q E hr h => ?_)⟩
  · obtain ⟨O, ds, d, tO, hd, hR, _⟩ := h
    rw [hd.length]
    exact hlen ds hR.1
  · obtain ⟨O, ds, d, tO, hd, ⟨hR, rfl⟩, q⟩ := h
    obtain ⟨ρ, g⟩ := body cdv A outer s' H E hr ds hR
    refine ⟨_, sPs_ok, g.run O H _ H tO (SI.entry hd (by rw [hlen ds hR]; exact hN)) _ fun σ' H' I => ?_⟩
    obtain ⟨os, I⟩ := I
    exact q .non H' I.same .non
end
end TT
namespace TT
open PySem PySem.Spec PyProof.Rows L2

def topS (i : Nat) : Stmt := PySem.Challenge.pw_tabletalk_k58_whole_questions.main.body.getD i (.Pass ⟨0, 0, 0, 0⟩)
/-- the names that the defs read off the module -/
structure Nm (mg : Str → Option Value) : Prop where
  isi : mg "isinstance" = none
  int : mg "int" = none
  bool : mg "bool" = none
  str : mg "str" = none
  len : mg "len" = none
  all : mg "all" = none
  any : mg "any" = none
  range : mg "range" = none
  tuple : mg "tuple" = none
  list : mg "list" = none
  zip : mg "zip" = none
  enum : mg "enumerate" = none
  sorted : mg "sorted" = none
  min : mg "min" = none
  sum : mg "sum" = none
  abs : mg "abs" = none
  cV : ∃ t, mg "MOST_VARIABLE" = some (.int 5 t)
  cW : ∃ t, mg "WIDEST_SCOPE" = some (.int 3 t)
  cC : ∃ t, mg "MOST_COST" = some (.int 100 t)
  cN : ∃ t, mg "MOST_NODES" = some (.int 5 t)
/-- a def as it stands -/
structure Fd (K : PySem.W.Frag) (mg : Str → Option Value) (x : Str) (ps : List Str) (s : Stmt) : Prop where
  ex : ∃ f fd, Fun K x x s f fd ∧ mg x = some (.ref f) ∧ Binds K fd ps []
section
variable {P : Program} {w : World} {K : PySem.W.Frag} {mg : Str → Option Value} {base : Heap}
theorem Df.of {x : Str} {s : Stmt} {N ps : List Str} {k : Nat} {R : List PyData → PyData → Prop} (T : Fd K mg x ps s) (S : FnScope N ps (defScope s)) (hlen : ∀ ds d, R ds d → ds.length = ps.length)
    (body : ∀ (f : Addr) (cdv : Value) (A : Around) (outer : List Env) (s' : Shared) (H : Hp) (E : XK), Room k (A.deeper (envOfC x (defScope s) s'.heap.objs.size f cdv)) → ∀ ds d, R ds d →
      GB (cxOf CX0 P w K mg base N x (defScope s) f cdv A outer s' H E).nox (defBody s) (entry N.length ds) (.rt d)) : Df P w K mg base x ps (k + 1) R := by
  obtain ⟨f, fd, F, hm, hb⟩ := T.ex
  refine Df.mk' F S hm hb hlen ?_ (body f)
  have := congrArg List.length S.pre
  rw [List.length_take] at this
  omega
theorem Df.ofN {x : Str} {s : Stmt} {N ps : List Str} {k : Nat} {R : List PyData → Prop} (T : Fd K mg x ps s) (S : FnScope N ps (defScope s)) (hlen : ∀ ds, R ds → ds.length = ps.length)
    (body : ∀ (f : Addr) (cdv : Value) (A : Around) (outer : List Env) (s' : Shared) (H : Hp) (E : XK), Room k (A.deeper (envOfC x (defScope s) s'.heap.objs.size f cdv)) → ∀ ds, R ds →
      ∃ ρ, GB (cxOf CX0 P w K mg base N x (defScope s) f cdv A outer s' H E).nox (defBody s) (entry N.length ds) (.nx ρ)) : Df P w K mg base x ps (k + 1) (fun ds d => R ds ∧ d = .none) := by
  obtain ⟨f, fd, F, hm, hb⟩ := T.ex
  refine Df.mkN F S hm hb hlen ?_ (body f)
  have := congrArg List.length S.pre
  rw [List.length_take] at this
  omega
theorem Df.imp {x : Str} {ps : List Str} {k k' : Nat} {R R' : List PyData → PyData → Prop} (D : Df P w K mg base x ps k R) (hk : k ≤ k') (h : ∀ ds d, R' ds d → R ds d) : Df P w K mg base x ps k' R' := by
  obtain ⟨f, fd, h1, h2, h3, F⟩ := D.ex
  exact ⟨f, fd, h1, h2, h3, (F.mono hk).imp fun vs H Q E ⟨O, ds, d, a, b, c, e⟩ => ⟨O, ds, d, a, b, h ds d c, e⟩⟩
end
section
variable {X : Cx} {elt tg iter tg1 iter1 : Expr} {ifs : List Expr} {scope : Scope} {own : List (Str × Nat)} {pos spos py : Pos} {y : Str} {i j m : Nat}
theorem ps_l1 (hc : X.calm = true) (hN : X.N.Nodup) (hy : X.N[m]? = some y) (hyl : X.env.scope.names.lookup y = some .local) (hsw : swapsWith (.ListComp elt [⟨tg, iter, ifs, 0⟩] scope pos) (some (.Name y py)) spos.line X.env = pure true) (ok : BlkOk X.N X.env.scope scope own)
    (hg : ∀ (s : Shared) (H : Hp) (C : Addr) (cl : List (Str × Addr)) (fp : List Addr), PG (X.blk s H scope (compEnvC scope cl C X.env) fp) tg (gName i)) (hs : ∀ x, foldedSetIterable iter X.env x = pure x := by intro _; rfl) :
    PS X (.Assign [.Name y py] (.ListComp elt [⟨tg, iter, ifs, 0⟩] scope pos) spos) (tAsg (tL1 X tg iter elt ifs scope own i) (gName m)) :=
  ps_setLc hc hN hy hyl hsw sI_ok ok hg (fun s0 H0 C cl fp => ⟨fun pins s σ H Q I w => w s0 H0 C cl fp pins s I⟩) (fun s0 H0 C cl fp => ⟨fun pins s σ H Q I w => w s0 H0 C cl fp pins s I⟩) hs
theorem ps_l2 (hc : X.calm = true) (hN : X.N.Nodup) (hy : X.N[m]? = some y) (hyl : X.env.scope.names.lookup y = some .local) (hsw : swapsWith (.ListComp elt [⟨tg, iter, ifs, 0⟩] scope pos) (some (.Name y py)) spos.line X.env = pure true) (ok : BlkOk X.N X.env.scope scope own)
    (hg : ∀ (s : Shared) (H : Hp) (C : Addr) (cl : List (Str × Addr)) (fp : List Addr), PG (X.blk s H scope (compEnvC scope cl C X.env) fp) tg (gTup X.K 2 (gCons (gName i) (gCons (gName j) gNil)))) (hs : ∀ x, foldedSetIterable iter X.env x = pure x := by intro _; rfl) :
    PS X (.Assign [.Name y py] (.ListComp elt [⟨tg, iter, ifs, 0⟩] scope pos) spos) (tAsg (tL2 X tg iter elt ifs scope own i j) (gName m)) :=
  ps_setLc hc hN hy hyl hsw sI_ok ok hg (fun s0 H0 C cl fp => ⟨fun pins s σ H Q I w => w s0 H0 C cl fp pins s I⟩) (fun s0 H0 C cl fp => ⟨fun pins s σ H Q I w => w s0 H0 C cl fp pins s I⟩) hs
theorem ps_lL (hc : X.calm = true) (hN : X.N.Nodup) (hy : X.N[m]? = some y) (hyl : X.env.scope.names.lookup y = some .local) (hsw : swapsWith (.ListComp elt [⟨tg, iter, [], 0⟩, ⟨tg1, iter1, [], 0⟩] scope pos) (some (.Name y py)) spos.line X.env = pure true) (ok : BlkOk X.N X.env.scope scope own) (hv : ∀ n ∈ [j], n ∈ own.map (·.2))
    (hg : ∀ (s : Shared) (H : Hp) (C : Addr) (cl : List (Str × Addr)) (fp : List Addr), PG (X.blk s H scope (compEnvC scope cl C X.env) fp) tg (gName i))
    (hg1 : ∀ (s : Shared) (H : Hp) (C : Addr) (cl : List (Str × Addr)) (fp : List Addr), PG (X.blk s H scope (compEnvC scope cl C X.env) fp) tg1 (gName j)) (hs : ∀ x, foldedSetIterable iter X.env x = pure x := by intro _; rfl) (hs1 : ∀ env x, foldedSetIterable iter1 env x = pure x := by intro _ _; rfl) :
    PS X (.Assign [.Name y py] (.ListComp elt [⟨tg, iter, [], 0⟩, ⟨tg1, iter1, [], 0⟩] scope pos) spos) (tAsg (tLL X tg iter tg1 iter1 elt scope own i j) (gName m)) :=
  ps_setLc2 hc hN hy hyl hsw sI_ok ok hv hg (fun _ _ _ _ _ => pts_nil) (fun s0 H0 C cl fp => ⟨fun pins s σ H Q I w => w s0 H0 C cl fp pins s I⟩) hg1 (fun _ _ _ _ _ => pts_nil) (fun s0 H0 C cl fp => ⟨fun pins s σ H Q I w => w s0 H0 C cl fp pins s I⟩) hs hs1
end
section
variable {X : Cx} {elt tg iter : Expr} {scope : Scope} {own : List (Str × Nat)} {pos pos' p : Pos} {ρ : Rho} {ns : List Int}
theorem allD {ds : List PyData} (b : PyData → Bool) : ((ds.filter fun _ => true).map fun d => PyData.bool (b d)) = (ds.map b).map PyData.bool := by
  rw [List.filter_eq_self.mpr (fun _ _ => rfl), List.map_map]
  rfl
theorem allP {ds : List (PyData × PyData)} (b : PyData → PyData → Bool) : ((ds.filter fun _ => true).map fun d => PyData.bool (b d.1 d.2)) = (ds.map fun d => b d.1 d.2).map PyData.bool := by
  rw [List.filter_eq_self.mpr (fun _ _ => rfl), List.map_map]
  rfl
theorem all_id {α : Type} (l : List α) (b : α → Bool) : (l.map b).all id = l.all b := by
  rw [List.all_map]; rfl
theorem any_id {α : Type} (l : List α) (b : α → Bool) : (l.map b).any id = l.any b := by
  rw [List.any_map]; rfl
variable {i j : Nat}
theorem glc_m1 {items : List PyData} (f : PyData → PyData) (hI : GI X tg iter ρ items) (hlen : items.length ≤ 100000)
    (h : ∀ d ∈ items, ∀ (s : Shared) (H : Hp) (C : Addr) (cl : List (Str × Addr)) (fp : List Addr), GE (X.blk s H scope (compEnvC scope cl C X.env) fp) elt (st (wipeR ρ (own.map (·.2))) i (some d)) (f d))
    (hi : i ∈ own.map (·.2) := by decide) (hir : i < ρ.length := by exact ltb rfl) : GLC X (tL1 X tg iter elt [] scope own i) ρ (items.map f) :=
  (glc1 (fun _ => true) f hI hi hir hlen (fun d hd s H C cl fp => ⟨gts_nil, fun _ => h d hd s H C cl fp⟩)).to (by rw [List.filter_eq_self.mpr (fun _ _ => rfl)])
theorem glc_m2 {items : List (PyData × PyData)} (f : PyData → PyData → PyData) (hI : GI X tg iter ρ (items.map fun p => PyData.tuple [p.1, p.2])) (hlen : items.length ≤ 100000)
    (h : ∀ d ∈ items, ∀ (s : Shared) (H : Hp) (C : Addr) (cl : List (Str × Addr)) (fp : List Addr), GE (X.blk s H scope (compEnvC scope cl C X.env) fp) elt (st (st (wipeR ρ (own.map (·.2))) i (some d.1)) j (some d.2)) (f d.1 d.2))
    (hi : i ∈ own.map (·.2) := by decide) (hj : j ∈ own.map (·.2) := by decide) (hir : i < ρ.length := by exact ltb rfl) (hjr : j < ρ.length := by exact ltb rfl) : GLC X (tL2 X tg iter elt [] scope own i j) ρ (items.map fun p => f p.1 p.2) :=
  (glc2 (fun _ _ => true) f hI hi hj hir hjr hlen (fun d hd s H C cl fp => ⟨gts_nil, fun _ => h d hd s H C cl fp⟩)).to (by rw [List.filter_eq_self.mpr (fun _ _ => rfl)])
/-- [elt for x in iter], without tests -/
theorem gel_m1 {items : List PyData} (f : PyData → PyData) (hc : X.calm = true) (hN : X.N.Nodup) (hI : GI X tg iter ρ items) (ok : BlkOk X.N X.env.scope scope own) (hlen : items.length ≤ 100000)
    (hg : ∀ (s : Shared) (H : Hp) (C : Addr) (cl : List (Str × Addr)) (fp : List Addr), PG (X.blk s H scope (compEnvC scope cl C X.env) fp) tg (gName i))
    (h : ∀ d ∈ items, ∀ (s : Shared) (H : Hp) (C : Addr) (cl : List (Str × Addr)) (fp : List Addr), GE (X.blk s H scope (compEnvC scope cl C X.env) fp) elt (st (wipeR ρ (own.map (·.2))) i (some d)) (f d))
    (hi : i ∈ own.map (·.2) := by decide) (hir : i < ρ.length := by exact ltb rfl) (hs : ∀ x, foldedSetIterable iter X.env x = pure x := by intro _; rfl) : GEL X (.ListComp elt [⟨tg, iter, [], 0⟩] scope pos) ρ (items.map f) :=
  (gel_lc1 (fun _ => true) f hc hN hI ok hi hir hlen hg (fun d hd s H C cl fp => ⟨gts_nil, fun _ => h d hd s H C cl fp⟩) hs).to (by rw [List.filter_eq_self.mpr (fun _ _ => rfl)])
theorem gel_m2 {items : List (PyData × PyData)} (f : PyData → PyData → PyData) (hc : X.calm = true) (hN : X.N.Nodup) (hI : GI X tg iter ρ (items.map fun p => PyData.tuple [p.1, p.2])) (ok : BlkOk X.N X.env.scope scope own) (hlen : items.length ≤ 100000)
    (hg : ∀ (s : Shared) (H : Hp) (C : Addr) (cl : List (Str × Addr)) (fp : List Addr), PG (X.blk s H scope (compEnvC scope cl C X.env) fp) tg (gTup X.K 2 (gCons (gName i) (gCons (gName j) gNil))))
    (h : ∀ d ∈ items, ∀ (s : Shared) (H : Hp) (C : Addr) (cl : List (Str × Addr)) (fp : List Addr), GE (X.blk s H scope (compEnvC scope cl C X.env) fp) elt (st (st (wipeR ρ (own.map (·.2))) i (some d.1)) j (some d.2)) (f d.1 d.2))
    (hi : i ∈ own.map (·.2) := by decide) (hj : j ∈ own.map (·.2) := by decide) (hir : i < ρ.length := by exact ltb rfl) (hjr : j < ρ.length := by exact ltb rfl) (hs : ∀ x, foldedSetIterable iter X.env x = pure x := by intro _; rfl) : GEL X (.ListComp elt [⟨tg, iter, [], 0⟩] scope pos) ρ (items.map fun p => f p.1 p.2) :=
  (gel_lc2 (fun _ _ => true) f hc hN hI ok hi hj hir hjr hlen hg (fun d hd s H C cl fp => ⟨gts_nil, fun _ => h d hd s H C cl fp⟩) hs).to (by rw [List.filter_eq_self.mpr (fun _ _ => rfl)])
theorem g_all {e : Expr} {bs : List Bool} (hc : X.calm = true) (hm : X.mg "all" = none) (h : GEL X e ρ (bs.map PyData.bool)) (hg : Gl X "all" := by rfl)
    (he : starEach (e :: []) X.env = (false, eval e X.env) :: starEach [] X.env := by rfl) (hpl : (backTo pos (starEach [] X.env)).any (·.1) = false := by rfl) : GE X (.Call (.Name "all" p) [e] [] pos) ρ (.bool (bs.all id)) :=
  g_callB (cr_all hc) rd_all hm boot_all (a_cons h.ge a_nil he) hg (by decide) (by decide) he hpl
theorem g_any {e : Expr} {bs : List Bool} (hc : X.calm = true) (hm : X.mg "any" = none) (h : GEL X e ρ (bs.map PyData.bool)) (hg : Gl X "any" := by rfl)
    (he : starEach (e :: []) X.env = (false, eval e X.env) :: starEach [] X.env := by rfl) (hpl : (backTo pos (starEach [] X.env)).any (·.1) = false := by rfl) : GE X (.Call (.Name "any" p) [e] [] pos) ρ (.bool (bs.any id)) :=
  g_callB (cr_any hc) rd_any hm boot_any (a_cons h.ge a_nil he) hg (by decide) (by decide) he hpl
theorem g_len {e : Expr} {ds : List PyData} (hm : X.mg "len" = none) (h : GE X e ρ (.tuple ds)) (hg : Gl X "len" := by rfl)
    (he : starEach (e :: []) X.env = (false, eval e X.env) :: starEach [] X.env := by rfl) (hpl : (backTo pos (starEach [] X.env)).any (·.1) = false := by rfl) : GE X (.Call (.Name "len" p) [e] [] pos) ρ (.int ds.length) :=
  g_callB call_len_seq rd_lenT hm boot_len (a_cons h a_nil he) hg (by decide) (by decide) he hpl
theorem g_lenL {e : Expr} {ds : List PyData} (hm : X.mg "len" = none) (h : GE X e ρ (.list ds)) (hg : Gl X "len" := by rfl)
    (he : starEach (e :: []) X.env = (false, eval e X.env) :: starEach [] X.env := by rfl) (hpl : (backTo pos (starEach [] X.env)).any (·.1) = false := by rfl) : GE X (.Call (.Name "len" p) [e] [] pos) ρ (.int ds.length) :=
  g_callB call_len_seq rd_lenL hm boot_len (a_cons h a_nil he) hg (by decide) (by decide) he hpl
theorem g_tupOf {e : Expr} {ds : List PyData} (hm : X.mg "tuple" = none) (h : GE X e ρ (.list ds)) (hg : Gl X "tuple" := by rfl)
    (he : starEach (e :: []) X.env = (false, eval e X.env) :: starEach [] X.env := by rfl) (hpl : (backTo pos (starEach [] X.env)).any (·.1) = false := by rfl) : GE X (.Call (.Name "tuple" p) [e] [] pos) ρ (.tuple ds) :=
  g_callTy call_tuple_of rd_tupL hm boot_tuple (a_cons h a_nil he) hg (by decide) (by decide) he hpl
/-- x[i], i written or known -/
theorem g_ixT {a b : Expr} {ds : List PyData} {d : PyData} {n : Int} (h : atI ds n = some d) (ha : GE X a ρ (.tuple ds)) (hb : GE X b ρ (.int n)) (hs : PlainIx b := by intro _ _; rfl) : GE X (.Subscript a b pos) ρ d := g_ix ix_seq (rd_ixT h) ha hb hs
theorem g_ixL {a b : Expr} {ds : List PyData} {d : PyData} {n : Int} (h : atI ds n = some d) (ha : GE X a ρ (.list ds)) (hb : GE X b ρ (.int n)) (hs : PlainIx b := by intro _ _; rfl) : GE X (.Subscript a b pos) ρ d := g_ix ix_seq (rd_ixL h) ha hb hs
end
end TT
namespace TT
open PySem PySem.Spec PyProof.Rows L2
/-! ### parts of the text -/
def forBody : Stmt → List Stmt
  | .For _ _ b _ _ => b
  | _ => []
def nth (l : List Stmt) (i : Nat) : Stmt := l.getD i (.Pass ⟨0, 0, 0, 0⟩)
def ifTest : Stmt → Expr
  | .If c _ _ _ => c
  | _ => .Constant .none 0 ⟨0, 0, 0, 0⟩
def ifBody : Stmt → List Stmt
  | .If _ b _ _ => b
  | _ => []
def notArg : Expr → Expr
  | .UnaryOp _ a _ => a
  | e => e
section
variable {X : Cx} {e c : Expr} {ρ ρ1 : Rs} {d : PyData} {ds es : List PyData} {o : Out} {s : Stmt} {pos pos' p1 p2 p3 p4 p5 : Pos} {i j k : Nat} {x : Str} {ks ms : List Int}
theorem gs_retN (h : GN X e (dat ρ) es) : GS X (.Return (some e) pos) ρ (.rn es) := ⟨fun O H0 σ H tO I D q => let ⟨os, I⟩ := I; (ps_ret sE_ok).se (h.run O σ H (tO.mono I.same) (I.sd tO) _ fun p ob xs H' s h1 h2 h3 => q p ob xs H' (I.same.trans s) h1 h2 h3)⟩
/-- d = {} -/
theorem gs_setD (hN : X.N.Nodup) (hi : X.N[i]? = some x) (hx : Loc X.env.scope x) (hl : i < ρ.length := by exact ltb rfl) (hs : swapsWith (.Dict [] [] p1) (some (.Name x pos')) pos.line X.env = pure false := by rfl) (hf : X.fn x = true ∨ X.env.scope.names.lookup x = some .local := by first | exact .inl rfl | exact .inr rfl | assumption) :
    GS X (.Assign [.Name x pos'] (.Dict [] [] p1) pos) ρ (.nx (stS ρ i (.dk []))) := ⟨fun O H0 σ H tO I D q => let ⟨os, I⟩ := I; (ps_set hN hi hx pe_dnewK hs hf).se (fun p hp => q _ _ ⟨p :: os, I.setNew hl hp (same_new hp) upd_same rfl ⟨p, rfl, List.mem_cons_self .., upd_same⟩⟩)⟩
def addK (ks : List Int) (n : Int) : List Int := if n ∈ ks then ks else ks ++ [n]
theorem putK_kvT (ks : List Int) (n : Int) : putK (kvT ks) (Sum.inl n : Key) (V.bl true) = kvT (addK ks n) := by
  unfold putK addK
  have ha : ((kvT ks).any fun kv => decide (kv.1 = (Sum.inl n : Key))) = decide (n ∈ ks) := by
    unfold kvT
    rw [List.any_map, Bool.eq_iff_iff, List.any_eq_true, decide_eq_true_iff]
    constructor
    · rintro ⟨m, hm, h⟩
      have h' : (Sum.inl m : Key) = Sum.inl n := of_decide_eq_true h
      cases h'
      exact hm
    · exact fun h => ⟨n, h, decide_eq_true rfl⟩
  rw [ha]
  by_cases h : n ∈ ks
  · rw [if_pos (decide_eq_true h), if_pos h]
    unfold kvT
    rw [List.map_map]
    refine List.map_congr_left fun m _ => ?_
    show (if (Sum.inl m : Key) = Sum.inl n then ((Sum.inl m : Key), V.bl true) else (Sum.inl m, V.bl true)) = (Sum.inl m, V.bl true)
    split <;> rfl
  · rw [if_neg (by rw [decide_eq_true_iff]; exact h), if_neg h]
    unfold kvT
    rw [List.map_append]
    rfl
/-- d[n] = True -/
theorem gs_dput {n : Int} {jj} (hu : X.A.units + 1 < cLine) (hw : lkS ρ i = .dk ks) (he : GE X e (datN ρ) (.int n)) (hz : ks.length < 100000) (hN : X.N[i]? = some x) (hv : Vis X.env.scope x := by first | exact Or.inl rfl | exact Or.inr (Or.inl rfl) | exact Or.inr (Or.inr rfl)) (h1 : (x == ("__debug__" : Str)) = false := by decide) (h2 : (x == ("__classdict__" : Str)) = false := by decide)
    (hs : swapsWith (.Constant (.bool true) jj p2) (some (.Subscript (.Name x p1) e pos')) pos.line X.env = pure false := by rfl) :
    GS X (.Assign [.Subscript (.Name x p1) e pos'] (.Constant (.bool true) jj p2) pos) ρ (.nx (stS ρ i (.dk (addK ks n)))) := ⟨fun O H0 σ H tO I D q => by
  obtain ⟨os, I⟩ := I
  have g := I.slot i
  rw [hw] at g
  obtain ⟨p, g1, g2, g3⟩ := g
  refine (ps_dput hu (pe_var hN hv h1 h2) sE_ok pe_bl hs).se ⟨.ref p, g1, he.run (os ++ O) σ H (I.trk tO) I.sdN _ fun v H' s dv => ?_⟩
  cases dv
  have I' := I.step s
  refine ⟨p, _, rfl, DPut.k (k := Sum.inl n) (s _ _ g3) ?_, q σ _ ⟨os, ?_⟩⟩
  · unfold kvT
    rw [List.length_map]
    exact small_l (by omega)
  · rw [putK_kvT]
    exact I'.write g2 g1 (by rw [hw]; rfl) rfl rfl ⟨p, rfl, g2, upd_same⟩⟩
/-- return tuple(sorted(d)) -/
theorem gs_retTS (hc : X.calm = true) (hmt : X.mg "tuple" = none) (hms : X.mg "sorted" = none) (hw : lkS ρ i = .dk ks) (h64 : ks.length < 64) (hu : ∀ ys : List Int, ys.Perm ks → ys.Pairwise (· ≤ ·) → ys = ms) (hN : X.N[i]? = some x)
    (hv : Vis X.env.scope x := by first | exact Or.inl rfl | exact Or.inr (Or.inl rfl) | exact Or.inr (Or.inr rfl)) (h1 : (x == ("__debug__" : Str)) = false := by decide) (h2 : (x == ("__classdict__" : Str)) = false := by decide) (hgt : Gl X "tuple" := by rfl) (hgs : Gl X "sorted" := by rfl)
    (he : starEach ([Expr.Name x p3]) X.env = (false, eval (.Name x p3) X.env) :: starEach [] X.env := by rfl) (hpl : (backTo p4 (starEach [] X.env)).any (·.1) = false := by rfl)
    (he2 : starEach ([Expr.Call (.Name "sorted" p2) [.Name x p3] [] p4]) X.env = (false, eval (.Call (.Name "sorted" p2) [.Name x p3] [] p4) X.env) :: starEach [] X.env := by rfl) (hpl2 : (backTo p5 (starEach [] X.env)).any (·.1) = false := by rfl) :
    GS X (.Return (some (.Call (.Name "tuple" p1) [.Call (.Name "sorted" p2) [.Name x p3] [] p4] [] p5)) pos) ρ (.rn (ms.map PyData.int)) := ⟨fun O H0 σ H tO I D q => by
  obtain ⟨os, I⟩ := I
  have g := I.slot i
  rw [hw] at g
  obtain ⟨p, g1, g2, g3⟩ := g
  refine (ps_ret (pe_callTy call_tupN hgt hmt boot_tuple (pa_cons (pe_callB (call_sortedDI hc) hgs hms boot_sorted (pa_cons (pe_var hN hv h1 h2) pa_nil he) (by decide) (by decide) he hpl) pa_nil he2) (by decide) (by decide) he2 hpl2)).se
    ⟨.ref p, g1, p, kvT ks, ks, rfl, .of g3, by unfold kvT; rw [List.map_map]; rfl, h64, fun ys r hp hs hr => ⟨r, ys.map V.int, rfl, .of upd_same, fun l ob hl hd => ?_⟩⟩
  have s1 : Same H (upd H r (.lst (ys.map V.int))) := same_new hr
  have tl := ((tO.mono I.same).mono s1).out hl
  rw [hu ys hp hs]
  rw [hu ys hp hs] at hl s1
  exact q l ob _ _ ((I.same.trans s1).trans (same_new hl)) (hid_at tl upd_same) hd (ints_dpA ms)⟩
/-- a, b, c = a tuple -/
theorem gs_unp3 {tg : Expr} {d1 d2 d3 : PyData} (hi : i < ρ.length) (hj : j < ρ.length) (hk : k < ρ.length) (h : GV X e ρ (.tuple [d1, d2, d3])) (hg : PG X tg (gTup X.K 3 (gCons (gName i) (gCons (gName j) (gCons (gName k) gNil)))))
    (hs : swapsWithSole [tg] e pos.line X.env = pure false := by rfl) (hw : swappedStores [tg] e X.env = pure none := by rfl) (h1 : (assignEach [tg] X.env).map (·.2) = [assign tg X.env] := by rfl) :
    GS X (.Assign [tg] e pos) ρ (.nx (stS (stS (stS ρ i (.im d1)) j (.im d2)) k (.im d3))) := ⟨fun O H0 σ H tO I D q => by
  obtain ⟨os, I⟩ := I
  refine (ps_asg sE_ok hg hs hw h1).se (h.run O os H0 σ H tO I _ fun v H' s dv => ?_)
  have I' := I.step s
  cases dv with
  | @tup aT xs _ hT hA =>
    cases hA with
    | @cons x1 _ _ _ dx1 hA2 =>
      cases hA2 with
      | @cons x2 _ _ _ dx2 hA3 =>
        cases hA3 with
        | @cons x3 _ _ _ dx3 hA4 =>
          cases hA4
          exact ⟨aT, _, rfl, sqT_same hid_sub hT, rfl, x1, _, rfl, x2, _, rfl, x3, _, rfl, rfl, q _ _ ⟨os, ((I'.setIm hi dx1).setIm (by rw [stS_length]; exact hj) dx2).setIm (by rw [stS_length, stS_length]; exact hk) dx3⟩⟩⟩
theorem gs_unp2 {tg : Expr} {d1 d2 : PyData} (hi : i < ρ.length) (hj : j < ρ.length) (h : GV X e ρ (.tuple [d1, d2])) (hg : PG X tg (gTup X.K 2 (gCons (gName i) (gCons (gName j) gNil))))
    (hs : swapsWithSole [tg] e pos.line X.env = pure false := by rfl) (hw : swappedStores [tg] e X.env = pure none := by rfl) (h1 : (assignEach [tg] X.env).map (·.2) = [assign tg X.env] := by rfl) :
    GS X (.Assign [tg] e pos) ρ (.nx (stS (stS ρ i (.im d1)) j (.im d2))) := ⟨fun O H0 σ H tO I D q => by
  obtain ⟨os, I⟩ := I
  refine (ps_asg sE_ok hg hs hw h1).se (h.run O os H0 σ H tO I _ fun v H' s dv => ?_)
  have I' := I.step s
  cases dv with
  | @tup aT xs _ hT hA =>
    cases hA with
    | @cons x1 _ _ _ dx1 hA2 =>
      cases hA2 with
      | @cons x2 _ _ _ dx2 hA3 =>
        cases hA3
        exact ⟨aT, _, rfl, sqT_same hid_sub hT, rfl, x1, _, rfl, x2, _, rfl, rfl, q _ _ ⟨os, (I'.setIm hi dx1).setIm (by rw [stS_length]; exact hj) dx2⟩⟩⟩
end
/-! ### a def that gives a new tuple, its object known -/
def spN (K : PySem.W.Frag) (R : List PyData → List PyData → Prop) : Sp := fun vs H Q _ => ∃ O ds es, Trk O H ∧ DpAll K (hidL O H) vs ds ∧ R ds es ∧ ∀ p ob xs H', Same H H' → hidL O H' p = some (.frz ob (.tup xs)) → ob.dict = none → DpAll K (hidL O H') xs es → Q (.ref p) H'
structure DfN (P : Program) (w : World) (K : PySem.W.Frag) (mg : Str → Option Value) (base : Heap) (x : Str) (ps : List Str) (k : Nat) (R : List PyData → List PyData → Prop) : Prop where
  ex : ∃ f fd, mg x = some (.ref f) ∧ PySem.W.keepIn K (.ref f) = true ∧ Binds K fd ps [] ∧ FnOk P w K mg base CX0 k f fd ps (spN K R)
section
variable {P : Program} {w : World} {K : PySem.W.Frag} {mg : Str → Option Value} {base : Heap}
theorem DfN.df {x : Str} {ps : List Str} {k : Nat} {R : List PyData → List PyData → Prop} (D : DfN P w K mg base x ps k R) : Df P w K mg base x ps k (fun ds d => ∃ es, R ds es ∧ d = .tuple es) := by
  obtain ⟨f, fd, h1, h2, h3, F⟩ := D.ex
  exact ⟨f, fd, h1, h2, h3, F.imp fun vs H Q E ⟨O, ds, d, a, b, ⟨es, c, ed⟩, q⟩ => ⟨O, ds, es, a, b, c, fun p ob xs H' s e1 e2 e3 => q _ _ s (by rw [ed]; exact .tup (.inl (.inr ⟨ob, e1⟩)) e3)⟩⟩
theorem DfN.of {x : Str} {s : Stmt} {N ps : List Str} {k : Nat} {R : List PyData → List PyData → Prop} (T : Fd K mg x ps s) (S : FnScope N ps (defScope s)) (hlen : ∀ ds d, R ds d → ds.length = ps.length)
    (body : ∀ (f : Addr) (cdv : Value) (A : Around) (outer : List Env) (s' : Shared) (H : Hp) (E : XK), Room k (A.deeper (envOfC x (defScope s) s'.heap.objs.size f cdv)) → ∀ ds es, R ds es →
      GB (cxOf CX0 P w K mg base N x (defScope s) f cdv A outer s' H E).nox (defBody s) (entry N.length ds) (.rn es)) : DfN P w K mg base x ps (k + 1) R := by
  obtain ⟨f, fd, F, hm, hb⟩ := T.ex
  have hN : ps.length ≤ N.length := by
    have := congrArg List.length S.pre
    rw [List.length_take] at this
    omega
  refine ⟨f, fd, hm, F.kp, hb, F.ok S (fun vs H Q E h => ?_) (fun cdv A outer s' H vs Q E hr h => ?_)⟩
  · obtain ⟨O, ds, d, tO, hd, hR, _⟩ := h
    rw [hd.length]
    exact hlen ds d hR
  · obtain ⟨O, ds, d, tO, hd, hR, q⟩ := h
    exact ⟨_, sPs_ok, (body f cdv A outer s' H E hr ds d hR).run O H _ H tO (SI.entry hd (by rw [hlen ds d hR]; exact hN)) _ fun p ob xs H' s h1 h2 h3 => q p ob xs H' s h1 h2 h3⟩
theorem gn_call {X : Cx} {e : Expr} {es : List Expr} {ρ : Rho} {ds rs : List PyData} {pos p : Pos} {x : Str} {ps : List Str} {k : Nat} {R : List PyData → List PyData → Prop} (D : DfN X.prog X.w X.K X.mg X.base x ps k R) (hr : Room k X.A) (hR : R ds rs) (ha : GA X (e :: es) ρ ds) (hg : Gl X x := by rfl)
    (hdb : (x == ("__debug__" : Str)) = false := by decide) (he : starEach (e :: es) X.env = (false, eval e X.env) :: starEach es X.env := by rfl) (hpl : (backTo pos (starEach es X.env)).any (·.1) = false := by rfl) :
    GN X (.Call (.Name x p) (e :: es) [] pos) ρ rs := by
  obtain ⟨f, fd, hm, hk, hb, F⟩ := D.ex
  exact ⟨fun O σ H tO sd Q q => (pe_call F hr hg hm hk hb .nil pass0 sA_ok hdb he hpl).se (ha.run O σ H tO sd _ fun vs H1 s1 dvs => by
    rw [List.append_nil]
    exact ⟨O, ds, rs, tO.mono s1, dvs, hR, fun p ob xs H2 s2 h1 h2 h3 => q p ob xs H2 (s1.trans s2) h1 h2 h3⟩)⟩
end
end TT
namespace TT
open PySem PySem.Spec PyProof.Rows L2
section
variable {P : Program} {w : World} {K : PySem.W.Frag} {mg : Str → Option Value} {base : Heap}
abbrev nWhole : List Str := ["value", "low", "high"]
theorem scWhole : FnScope nWhole nWhole (defScope (topS 8)) := ⟨rfl, rfl, rfl, by decide +kernel, rfl, by decide +kernel, by decide +kernel⟩
def RWhole : List PyData → PyData → Prop := fun ds d => ∃ v lo hi : Int, ds = [.int v, .int lo, .int hi] ∧ d = .bool (decide (lo ≤ v) && decide (v ≤ hi))
theorem df_is_whole (T : Fd K mg "is_whole" nWhole (topS 8)) (M : Nm mg) : Df P w K mg base "is_whole" nWhole 1 RWhole := by
  refine Df.of T scWhole (by rintro _ _ ⟨_, _, _, rfl, _⟩; rfl) ?_
  rintro f cdv A outer s' H E hr ds d ⟨v, lo, hi, rfl, rfl⟩
  exact gb_one (gs_ret (GE.to (g_and (g_isi M.isi M.int boot_int (gv 0) kII) fun _ => g_and (g_not (g_isi M.isi M.bool boot_bool (gv 0) kIB)) fun _ => g_one (g_chain (gv 1) (gv 0) (gv 2))) rfl))
end
end TT
namespace TT
open PySem PySem.Spec PyProof.Rows L2
theorem atI_ints {ns : List Int} {z : Int} {k : Nat} (e : z = (k : Int)) (h : k < ns.length) : atI (ns.map PyData.int) z = some (.int ns[k]) := by
  rw [e]
  refine atI_nat ?_
  rw [List.getElem?_map, List.getElem?_eq_getElem h]
  rfl
theorem atI_rows {α : Type} {f : α → PyData} {ns : List α} {z : Int} {k : Nat} (e : z = (k : Int)) (h : k < ns.length) : atI (ns.map f) z = some (f ns[k]) := by
  rw [e]
  refine atI_nat ?_
  rw [List.getElem?_map, List.getElem?_eq_getElem h]
  rfl
theorem mem_rng {d : PyData} {lo : Int} {n : Nat} (h : d ∈ rngD lo n) : ∃ k : Nat, k < n ∧ d = .int (lo + (k : Int)) := by
  unfold rngD at h
  obtain ⟨k, hk, rfl⟩ := List.mem_map.mp h
  exact ⟨k, List.mem_range.mp hk, rfl⟩
section
variable {X : Cx} {e : Expr} {pos p : Pos} {ρ : Rho}
theorem g_allB {α : Type} {items : List α} {b : α → Bool} (hc : X.calm = true) (hm : X.mg "all" = none) (h : GEL X e ρ (items.map fun d => PyData.bool (b d))) (hg : Gl X "all" := by rfl)
    (he : starEach (e :: []) X.env = (false, eval e X.env) :: starEach [] X.env := by rfl) (hpl : (backTo pos (starEach [] X.env)).any (·.1) = false := by rfl) : GE X (.Call (.Name "all" p) [e] [] pos) ρ (.bool (items.all b)) :=
  (g_all (bs := items.map b) hc hm (h.to (by rw [List.map_map]; rfl)) hg he hpl).to (by rw [all_id])
theorem g_allT {items : List PyData} (hc : X.calm = true) (hm : X.mg "all" = none) (h : GEL X e ρ (items.map fun d => PyData.bool true)) (hg : Gl X "all" := by rfl)
    (he : starEach (e :: []) X.env = (false, eval e X.env) :: starEach [] X.env := by rfl) (hpl : (backTo pos (starEach [] X.env)).any (·.1) = false := by rfl) : GE X (.Call (.Name "all" p) [e] [] pos) ρ (.bool true) :=
  (g_allB (b := fun _ => true) hc hm h hg he hpl).to (by rw [List.all_eq_true.mpr (fun _ _ => rfl)])
theorem g_anyB {α : Type} {items : List α} {b : α → Bool} (hc : X.calm = true) (hm : X.mg "any" = none) (h : GEL X e ρ (items.map fun d => PyData.bool (b d))) (hg : Gl X "any" := by rfl)
    (he : starEach (e :: []) X.env = (false, eval e X.env) :: starEach [] X.env := by rfl) (hpl : (backTo pos (starEach [] X.env)).any (·.1) = false := by rfl) : GE X (.Call (.Name "any" p) [e] [] pos) ρ (.bool (items.any b)) :=
  (g_any (bs := items.map b) hc hm (h.to (by rw [List.map_map]; rfl)) hg he hpl).to (by rw [any_id])
end
/-- rows in order -/
def lexP (a b : List Int) : Prop := HT.lexLt a b = true
def RClimb : List PyData → PyData → Prop := fun ds d => d = .bool true ∧ ((∃ ns : List Int, ds = [eR ns] ∧ ns.Pairwise (· < ·) ∧ ns.length ≤ 1000) ∨ (∃ rs : List (List Int), ds = [.list (rs.map eR)] ∧ rs.Pairwise lexP ∧ rs.length ≤ 1000))
section
variable {P : Program} {w : World} {K : PySem.W.Frag} {mg : Str → Option Value} {base : Heap}
abbrev nClimb : List Str := ["value", "at"]
theorem scClimb : FnScope nClimb ["value"] (defScope (topS 9)) := ⟨rfl, rfl, rfl, by decide +kernel, rfl, by decide +kernel, by decide +kernel⟩
theorem df_is_climbing (T : Fd K mg "is_climbing" ["value"] (topS 9)) (M : Nm mg) : Df P w K mg base "is_climbing" ["value"] 1 RClimb := by
  refine Df.of T scClimb (by rintro _ _ ⟨_, ⟨_, rfl, _⟩ | ⟨_, rfl, _⟩⟩ <;> rfl) ?_
  rintro f cdv A outer s' H E hr ds d ⟨rfl, ⟨ns, rfl, hp, hl⟩ | ⟨rs, rfl, hp, hl⟩⟩
  · refine gb_one (gs_ret (g_allT rfl M.all (gel_m1 (i := 1) _ rfl scClimb.nd (gi_range1 M.range (g_op op_sub rd_sub (g_len M.len (gv 0)) g_int) ?_ ?_) (blkOk_by (own := [("at", 1)]) (N := nClimb) (sc := defScope (topS 9)) (by decide +kernel)) ?_
      (fun _ _ _ _ _ => pg_name (i := 1) scClimb.nd rfl (Or.inl rfl)) (fun d hd s0 H0 C cl fp => ?_))))
    · rw [List.length_map]; omega
    · rw [List.length_map]; omega
    · rw [rngD_length, List.length_map]; omega
    · rw [List.length_map] at hd
      obtain ⟨k, hk, rfl⟩ := mem_rng hd
      have h1 : k < ns.length := by omega
      have h2 : k + 1 < ns.length := by omega
      refine (g_cmp op_lt rd_lt (g_ixT (atI_ints (Int.zero_add _) h1) (gv 0) (gv 1)) (g_ixT (atI_ints (z := 0 + (k : Int) + 1) (k := k + 1) (by omega) h2) (gv 0) (g_op op_add rd_add (gv 1) g_int)) (nomark _)).to ?_
      rw [decide_eq_true ((List.pairwise_iff_getElem.mp hp) k (k + 1) h1 h2 (by omega))]
  · refine gb_one (gs_ret (g_allT rfl M.all (gel_m1 (i := 1) _ rfl scClimb.nd (gi_range1 M.range (g_op op_sub rd_sub (g_lenL M.len (gv 0)) g_int) ?_ ?_) (blkOk_by (own := [("at", 1)]) (N := nClimb) (sc := defScope (topS 9)) (by decide +kernel)) ?_
      (fun _ _ _ _ _ => pg_name (i := 1) scClimb.nd rfl (Or.inl rfl)) (fun d hd s0 H0 C cl fp => ?_))))
    · rw [List.length_map]; omega
    · rw [List.length_map]; omega
    · rw [rngD_length, List.length_map]; omega
    · rw [List.length_map] at hd
      obtain ⟨k, hk, rfl⟩ := mem_rng hd
      have h1 : k < rs.length := by omega
      have h2 : k + 1 < rs.length := by omega
      refine (g_cmp (op_ltT hr.units0) rd_ltT (g_ixL (atI_rows (Int.zero_add _) h1) (gv 0) (gv 1)) (g_ixL (atI_rows (z := 0 + (k : Int) + 1) (k := k + 1) (by omega) h2) (gv 0) (g_op op_add rd_add (gv 1) g_int)) (nomark _)).to ?_
      rw [show HT.lexLt rs[k] rs[k + 1] = true from (List.pairwise_iff_getElem.mp hp) k (k + 1) h1 h2 (by omega)]
end
end TT
namespace TT
open PySem PySem.Spec PyProof.Rows L2
/-! ### graphs and tables -/
structure ScopeOk (s : List Int) : Prop where
  vars : ∀ v ∈ s, 0 ≤ v ∧ v ≤ 5
  up : s.Pairwise (· < ·)
  len : s.length ≤ 3
structure RowOk (v : Int) (n : Nat) (r : List Int) : Prop where
  len : r.length = n
  vals : ∀ x ∈ r, 0 ≤ x ∧ x ≤ v - 1
abbrev Tbl := List (List Int × Int)
def eP (p : List Int × Int) : PyData := .tuple [eR p.1, .int p.2]
def eT (t : Tbl) : PyData := .tuple (t.map eP)
structure TblOk (v : Int) (s : List Int) (t : Tbl) : Prop where
  rows : ∀ p ∈ t, RowOk v s.length p.1
  cost : ∀ p ∈ t, 0 ≤ p.2 ∧ p.2 ≤ 100
  up : (t.map (·.1)).Pairwise lexP
  len : t.length ≤ 1000
structure Gr where
  v : Int
  sc : List (List Int)
  ed : List (List Int)
def eG (g : Gr) : PyData := .tuple [.int g.v, .tuple (g.sc.map eR), .tuple (g.ed.map eR)]
structure EdgeOk (n : Nat) (e : List Int) : Prop where
  ex : ∃ a b : Int, e = [a, b] ∧ 0 ≤ a ∧ a < b ∧ b ≤ (n : Int) - 1
structure GrOk (g : Gr) : Prop where
  v2 : 2 ≤ g.v
  v3 : g.v ≤ 3
  n1 : 1 ≤ g.sc.length
  n5 : g.sc.length ≤ 5
  sc : ∀ s ∈ g.sc, ScopeOk s
  ed : ∀ e ∈ g.ed, EdgeOk g.sc.length e
  up : g.ed.Pairwise lexP
  el : g.ed.length ≤ 1000
def eTs (ts : List Tbl) : PyData := .tuple (ts.map eT)
structure TsOk (g : Gr) (ts : List Tbl) : Prop where
  len : ts.length = g.sc.length
  ok : ∀ p ∈ g.sc.zip ts, TblOk g.v p.1 p.2

section
variable {P : Program} {w : World} {K : PySem.W.Frag} {mg : Str → Option Value} {base : Heap}
abbrev nVars : List Str := ["value", "one"]
theorem scVars : FnScope nVars ["value"] (defScope (topS 10)) := ⟨rfl, rfl, rfl, by decide +kernel, rfl, by decide +kernel, by decide +kernel⟩
def RScope : List PyData → PyData → Prop := fun ds d => ∃ s, ScopeOk s ∧ ds = [eR s] ∧ d = .bool true
theorem df_are_variables (T : Fd K mg "are_variables" ["value"] (topS 10)) (M : Nm mg) (D1 : Df P w K mg base "is_whole" nWhole 1 RWhole) (D2 : Df P w K mg base "is_climbing" ["value"] 1 RClimb) : Df P w K mg base "are_variables" ["value"] 2 RScope := by
  refine Df.of T scVars (by rintro _ _ ⟨_, _, rfl, _⟩; rfl) ?_
  rintro f cdv A outer s' H E hr ds d ⟨s, hs, rfl, rfl⟩
  obtain ⟨tV, cV⟩ := M.cV
  refine gb_cons (gs_ifF (GT.to (t_w (w_or (t_not (t_val (g_isi M.isi M.tuple boot_tuple (gv 0) kTT))) fun _ => w_or1 (t_not (t_val (g_allT rfl M.all (gel_m1 (i := 1) _ rfl scVars.nd (gi_tup (gv 0))
    (blkOk_by (own := [("one", 1)]) (N := nVars) (sc := defScope (topS 10)) (by decide +kernel)) ?_ (fun _ _ _ _ _ => pg_name (i := 1) scVars.nd rfl (Or.inl rfl)) (fun d hd s0 H0 C cl fp => ?_))))))) rfl) gb_nil)
    (gb_one (gs_ret (g_call D2 hr ⟨rfl, .inl ⟨s, rfl, hs.up, by have := hs.len; omega⟩⟩ (a_cons (gv 0) a_nil))))
  · rw [List.length_map]; have := hs.len; omega
  · obtain ⟨n, hn, rfl⟩ := List.mem_map.mp hd
    refine g_call D1 hr ⟨n, 0, 5, rfl, ?_⟩ (a_cons (gv 1) (a_cons g_int (a_cons (g_globI cV) a_nil)))
    rw [decide_eq_true (hs.vars n hn).1, decide_eq_true (hs.vars n hn).2]
    rfl
abbrev nScope : List Str := ["value"]
theorem scScope : FnScope nScope ["value"] (defScope (topS 11)) := ⟨rfl, rfl, rfl, by decide +kernel, rfl, by decide +kernel, by decide +kernel⟩
theorem df_is_scope (T : Fd K mg "is_scope" ["value"] (topS 11)) (M : Nm mg) (D1 : Df P w K mg base "are_variables" ["value"] 2 RScope) : Df P w K mg base "is_scope" ["value"] 3 RScope := by
  refine Df.of T scScope (by rintro _ _ ⟨_, _, rfl, _⟩; rfl) ?_
  rintro f cdv A outer s' H E hr ds d ⟨s, hs, rfl, rfl⟩
  obtain ⟨tV, cV⟩ := M.cW
  refine gb_one (gs_ret (GE.to (g_and (k := true) (g_call D1 hr ⟨s, hs, rfl, rfl⟩ (a_cons (gv 0) a_nil)) fun _ => g_one (g_cmp op_le rd_le (g_len M.len (gv 0)) (g_globI cV) (nomark _))) ?_))
  rw [List.length_map, decide_eq_true (by have := hs.len; omega)]
  rfl
abbrev nRow : List Str := ["values", "some", "value", "one"]
theorem scRow : FnScope nRow ["values", "some", "value"] (defScope (topS 12)) := ⟨rfl, rfl, rfl, by decide +kernel, rfl, by decide +kernel, by decide +kernel⟩
def RRow : List PyData → PyData → Prop := fun ds d => ∃ v s r, RowOk v s.length r ∧ s.length ≤ 1000 ∧ ds = [.int v, eR s, eR r] ∧ d = .bool true
theorem df_is_row (T : Fd K mg "is_row" ["values", "some", "value"] (topS 12)) (M : Nm mg) (D1 : Df P w K mg base "is_whole" nWhole 1 RWhole) : Df P w K mg base "is_row" ["values", "some", "value"] 2 RRow := by
  refine Df.of T scRow (by rintro _ _ ⟨_, _, _, _, _, rfl, _⟩; rfl) ?_
  rintro f cdv A outer s' H E hr ds d ⟨v, s, r, hr1, hl, rfl, rfl⟩
  refine gb_cons (gs_ifF (GT.to (t_w (w_or (t_not (t_val (g_isi M.isi M.tuple boot_tuple (gv 2) kTT))) fun _ => w_or1 (t_cmp op_ne rd_neI (g_len M.len (gv 2)) (g_len M.len (gv 1)) (nomark _)))) ?_) gb_nil)
    (gb_one (gs_ret (g_allT rfl M.all (gel_m1 (i := 3) _ rfl scRow.nd (gi_tup (gv 2))
    (blkOk_by (own := [("one", 3)]) (N := nRow) (sc := defScope (topS 12)) (by decide +kernel)) ?_ (fun _ _ _ _ _ => pg_name (i := 3) scRow.nd rfl (Or.inl rfl)) (fun d hd s0 H0 C cl fp => ?_)))))
  · rw [List.length_map, List.length_map, hr1.len, decide_eq_true rfl]
    rfl
  · rw [List.length_map, hr1.len]; omega
  · obtain ⟨n, hn, rfl⟩ := List.mem_map.mp hd
    refine g_call D1 hr ⟨n, 0, v - 1, rfl, ?_⟩ (a_cons (gv 3) (a_cons g_int (a_cons (g_op op_sub rd_sub (gv 0) g_int) a_nil)))
    rw [decide_eq_true (hr1.vals n hn).1, decide_eq_true (hr1.vals n hn).2]
    rfl
abbrev nTable : List Str := ["values", "scope", "value", "pair"]
theorem scTable : FnScope nTable ["values", "scope", "value"] (defScope (topS 13)) := ⟨rfl, rfl, rfl, by decide +kernel, rfl, by decide +kernel, by decide +kernel⟩
def RTable : List PyData → PyData → Prop := fun ds d => ∃ v s t, TblOk v s t ∧ s.length ≤ 1000 ∧ ds = [.int v, eR s, eT t] ∧ d = .bool true
theorem atI0 {a : PyData} {r : List PyData} : atI (a :: r) 0 = some a := atI_nat (j := 0) rfl
theorem atI1 {a b : PyData} {r : List PyData} : atI (a :: b :: r) 1 = some b := atI_nat (j := 1) rfl
theorem atI2 {a b c : PyData} {r : List PyData} : atI (a :: b :: c :: r) 2 = some c := atI_nat (j := 2) rfl
theorem df_is_table (T : Fd K mg "is_table" ["values", "scope", "value"] (topS 13)) (M : Nm mg) (D1 : Df P w K mg base "is_whole" nWhole 1 RWhole) (D2 : Df P w K mg base "is_climbing" ["value"] 1 RClimb) (D3 : Df P w K mg base "is_row" ["values", "some", "value"] 2 RRow) :
    Df P w K mg base "is_table" ["values", "scope", "value"] 3 RTable := by
  refine Df.of T scTable (by rintro _ _ ⟨_, _, _, _, _, rfl, _⟩; rfl) ?_
  rintro f cdv A outer s' H E hr ds d ⟨v, s, t, ht, hl, rfl, rfl⟩
  obtain ⟨tV, cV⟩ := M.cC
  refine gb_cons (gs_ifF (GT.to (t_not (t_val (g_isi M.isi M.tuple boot_tuple (gv 2) kTT))) rfl) gb_nil)
    (gb_cons (gs_for1 (i := 3) (items := t.map eP) (fun _ => [.im (.int v), .im (eR s), .im (eT t), .no]) PassesOwn.never rfl (gi_tup (gv 2)) (Wk.refl _) (pg_name (i := 3) scTable.nd rfl (Or.inl rfl)) (fun _ => ltb rfl) (fun j d hd => ?_))
    (gb_one (gs_ret (g_call D2 (hr.mono (by decide)) ⟨rfl, .inr ⟨t.map (·.1), rfl, ht.up, by rw [List.length_map]; exact ht.len⟩⟩ (a_cons (GEL.ge (GEL.to (gel_m1 (i := 3) (fun d => match d with | .tuple [a, _] => a | _ => d) rfl scTable.nd (gi_tup (ds := t.map eP) (gv 2))
      (blkOk_by (own := [("pair", 3)]) (N := nTable) (sc := defScope (topS 13)) (by decide +kernel)) ?_ (fun _ _ _ _ _ => pg_name (i := 3) scTable.nd rfl (Or.inl rfl)) (fun d hd s0 H0 C cl fp => ?_)) ?_)) a_nil)))))
  · obtain ⟨p, hp, rfl⟩ : ∃ p ∈ t, d = eP p := by
      obtain ⟨p, hp, e⟩ := List.mem_map.mp (List.mem_of_getElem? hd)
      exact ⟨p, hp, e.symm⟩
    refine ⟨_, gb_cons (gs_ifF (GT.to (t_w (w_or (t_not (t_val (g_isi M.isi M.tuple boot_tuple (gv 3 (d := eP p)) kTT))) fun _ => w_or (t_cmp op_ne rd_neI (g_len M.len (gv 3 (d := .tuple [eR p.1, .int p.2]))) g_int (nomark _)) fun _ => w_or1 (t_not (t_val (k := true) (g_call D3 hr ⟨v, s, p.1, ht.rows p hp, hl, rfl, rfl⟩ (a_cons (gv 0) (a_cons (gv 1) (a_cons (g_ixT atI0 (gv 3 (d := .tuple [eR p.1, .int p.2])) g_int) a_nil)))))))) ?_) gb_nil)
      (gb_cons (gs_ifF (GT.to (t_not (t_val (k := true) (g_call D1 (hr.mono (by decide)) ⟨p.2, 0, 100, rfl, ?_⟩ (a_cons (g_ixT atI1 (gv 3 (d := .tuple [eR p.1, .int p.2])) g_int) (a_cons g_int (a_cons (g_globI cV) a_nil)))))) rfl) gb_nil) gb_nil), wk_eq (wk_eq (wk_eq (wk_no wk_nil)))⟩
    · rfl
    · rw [decide_eq_true (ht.cost p hp).1, decide_eq_true (ht.cost p hp).2]
      rfl
  · rw [List.length_map]; have := ht.len; omega
  · obtain ⟨p, hp, rfl⟩ := List.mem_map.mp hd
    exact g_ixT atI0 (gv 3 (d := .tuple [eR p.1, .int p.2])) g_int
  · rw [List.map_map, List.map_map]
    rfl
end
end TT
namespace TT
open PySem PySem.Spec PyProof.Rows L2
/-! ### mirrors -/
def rowsOf (v : Nat) : Nat → List (List Int)
  | 0 => [[]]
  | n + 1 => (rowsOf v n).flatMap fun r => (List.range v).map fun k => r ++ [((k : Nat) : Int)]
theorem rowsOf_length (v : Nat) : ∀ n, (rowsOf v n).length = v ^ n
  | 0 => rfl
  | n + 1 => by
    have ih := rowsOf_length v n
    have : ∀ l : List (List Int), (l.flatMap fun r => (List.range v).map fun k => r ++ [((k : Nat) : Int)]).length = l.length * v := by
      intro l
      induction l with
      | nil => simp
      | cons x l ih => rw [List.flatMap_cons, List.length_append, ih, List.length_map, List.length_range, List.length_cons, Nat.add_mul, Nat.one_mul, Nat.add_comm]
    rw [rowsOf, this, ih, Nat.pow_succ]
theorem rowsOf_le {v n : Nat} (hv : v ≤ 3) (hn : n ≤ 6) : (rowsOf v n).length ≤ 729 := by
  rw [rowsOf_length]
  exact Nat.le_trans (Nat.pow_le_pow_left hv n) (Nat.le_trans (Nat.pow_le_pow_right (by decide) hn) (by decide))
def partOf (some row kept : List Int) : List Int := ((some.zip row).filter fun p => decide (p.1 ∈ kept)).map (·.2)
def catE : PyData → PyData → PyData
  | .tuple xs, e => .tuple (xs ++ [e])
  | d, _ => d
theorem rows_step (v : Nat) (l : List (List Int)) : ((l.map eR).flatMap fun d => (rngD 0 v).map (catE d)) = (l.flatMap fun r => (List.range v).map fun k => r ++ [((k : Nat) : Int)]).map eR := by
  induction l with
  | nil => rfl
  | cons r l ih =>
    rw [List.map_cons, List.flatMap_cons, ih, List.flatMap_cons, List.map_append]
    congr 1
    unfold rngD
    rw [List.map_map, List.map_map]
    refine List.map_congr_left fun k _ => ?_
    show PyData.tuple (r.map PyData.int ++ [PyData.int (0 + (k : Int))]) = PyData.tuple ((r ++ [(k : Int)]).map PyData.int)
    rw [List.map_append, Int.zero_add]
    rfl
theorem pairD_map {α β : Type} (f : α → PyData) (g : β → PyData) (as : List α) (bs : List β) : pairD (as.map f) (bs.map g) = (((as.zip bs).map fun p => (f p.1, g p.2)).map fun p => PyData.tuple [p.1, p.2]) := by
  unfold pairD
  rw [List.zip_map]
  rfl
section
variable {P : Program} {w : World} {K : PySem.W.Frag} {mg : Str → Option Value} {base : Heap}
abbrev nRowsOf : List Str := ["values", "many", "rows", "turn", "row", "one"]
theorem scRowsOf : FnScope nRowsOf ["values", "many"] (defScope (topS 14)) := ⟨rfl, rfl, rfl, by decide +kernel, rfl, by decide +kernel, by decide +kernel⟩
def RRowsOf : List PyData → PyData → Prop := fun ds d => ∃ v n : Nat, v ≤ 3 ∧ n ≤ 6 ∧ ds = [.int (v : Int), .int (n : Int)] ∧ d = .list ((rowsOf v n).map eR)
theorem df_rows_of (T : Fd K mg "rows_of" ["values", "many"] (topS 14)) (M : Nm mg) : Df P w K mg base "rows_of" ["values", "many"] 1 RRowsOf := by
  refine Df.of T scRowsOf (by rintro _ _ ⟨_, _, _, _, rfl, _⟩; rfl) ?_
  rintro f cdv A outer s' H E hr ds d ⟨v, n, hv, hn, rfl, rfl⟩
  refine gb_cons (gs_setL (i := 2) (GEL.v (gl_lst (a_cons (g_tup a_nil) a_nil))) scRowsOf.nd rfl (Or.inl rfl)) (gb_frz 2 rfl
    (gb_cons (gs_for1 (i := 3) (items := rngD 0 (n : Int).toNat) (fun j => [.im (.int (v : Int)), .im (.int (n : Int)), .im (.list ((rowsOf v j).map eR)), .no, .no, .no]) PassesOwn.never rfl (gi_range1 M.range (gv 1) (by omega) (by omega)) (Wk.refl _) (pg_name (i := 3) scRowsOf.nd rfl (Or.inl rfl)) (fun _ => ltb rfl) (fun j d hd => ?_))
    (gb_one (gs_ret (GE.to (gv 2) ?_)))))
  · have hj : j < n := by
      have := (List.getElem?_eq_some_iff.mp hd).1
      rw [rngD_length] at this
      omega
    refine ⟨_, gb_one (gs_setCi (i := 2) (ps_lL (i := 4) (j := 5) (own := [("row", 4), ("one", 5)]) rfl scRowsOf.nd rfl rfl (sw_true rfl rfl rfl (by decide +kernel)) (blkOk_by (N := nRowsOf) (sc := defScope (topS 14)) (by decide +kernel)) (by decide)
      (fun _ _ _ _ _ => pg_name (i := 4) scRowsOf.nd rfl (Or.inl rfl)) (fun _ _ _ _ _ => pg_name (i := 5) scRowsOf.nd rfl (Or.inl rfl)))
      (glcL (items := (rowsOf v j).map eR) (items1 := rngD 0 (v : Int).toNat) catE (gi_list (gv 2)) (by decide) (ltb rfl) (ltb rfl) ?_ (fun d hd s0 H0 C cl fp => gi_range1 M.range (gv 0) (by omega) (by omega)) (fun d hd e he s0 H0 C cl fp => ?_))), ?_⟩
    · rw [List.length_map, rngD_length, rowsOf_length, Int.toNat_natCast, ← Nat.pow_succ]
      refine Nat.le_trans (Nat.pow_le_pow_left hv _) (Nat.le_trans (Nat.pow_le_pow_right (by decide) (show j + 1 ≤ 6 by omega)) (by decide))
    · obtain ⟨r, hr', rfl⟩ := List.mem_map.mp hd
      obtain ⟨k, hk, rfl⟩ := mem_rng he
      refine g_op op_catA (rd_cat ?_) (gv 4) (g_tup (a_cons (gv 5) a_nil))
      rw [List.length_map]
      have hlen : ∀ m, ∀ r ∈ rowsOf v m, r.length = m := by
        intro m
        induction m with
        | zero =>
          intro r hr
          have : r = [] := List.mem_singleton.mp hr
          rw [this]; rfl
        | succ m ih =>
          intro r hr
          obtain ⟨r0, h0, h1⟩ := List.mem_flatMap.mp hr
          obtain ⟨k, _, rfl⟩ := List.mem_map.mp h1
          rw [List.length_append, ih r0 h0]
          rfl
      rw [hlen j r hr']
      show j + 1 ≤ 100000
      omega
    · have e := rows_step v (rowsOf v j)
      rw [Int.toNat_natCast, e]
      exact wk_eq (wk_eq (wk_eq (wk_no (wk_no (wk_no wk_nil)))))
  · rw [rngD_length]
    rfl
abbrev nCut : List Str := ["row", "some", "kept", "variable", "one"]
theorem scCut : FnScope nCut ["row", "some", "kept"] (defScope (topS 15)) := ⟨rfl, rfl, rfl, by decide +kernel, rfl, by decide +kernel, by decide +kernel⟩
def RCut : List PyData → PyData → Prop := fun ds d => ∃ row some kept : List Int, some.length ≤ 1000 ∧ ds = [eR row, eR some, eR kept] ∧ d = eR (partOf some row kept)
def inKept (kept : List Int) : PyData → PyData → Bool
  | .int k, _ => decide (k ∈ kept)
  | _, _ => false
theorem df_cut_to (T : Fd K mg "cut_to" ["row", "some", "kept"] (topS 15)) (M : Nm mg) : Df P w K mg base "cut_to" ["row", "some", "kept"] 1 RCut := by
  refine Df.of T scCut (by rintro _ _ ⟨_, _, _, _, rfl, _⟩; rfl) ?_
  rintro f cdv A outer s' H E hr ds d ⟨row, some, kept, hl, rfl, rfl⟩
  refine gb_one (gs_ret (GE.to (g_tupOf M.tuple (GEL.ge (gel_lc2 (i := 3) (j := 4) (own := [("variable", 3), ("one", 4)]) (items := (some.zip row).map fun p => (PyData.int p.1, PyData.int p.2)) (inKept kept) (fun _ b => b) rfl scCut.nd (GI.to (gi_zip M.zip (gv 1) (gv 0)) (pairD_map _ _ _ _))
    (blkOk_by (N := nCut) (sc := defScope (topS 15)) (by decide +kernel)) (by decide) (by decide) (ltb rfl) (ltb rfl) ?_
    (fun _ _ _ _ _ => pg_tup rfl (pgs_cons (pg_name (i := 3) scCut.nd rfl (Or.inl rfl)) (pgs_cons (pg_name (i := 4) scCut.nd rfl (Or.inl rfl)) pgs_nil))) (fun d hd s0 H0 C cl fp => ?_)))) ?_))
  · rw [List.length_map, List.length_zip]; omega
  · obtain ⟨p, hp, rfl⟩ := List.mem_map.mp hd
    exact ⟨gts_one (t_cmp op_in_seq rd_inT (gv 3) (gv 2) (by with_unfolding_all rfl)), fun _ => gv 4⟩
  · unfold partOf
    rw [List.filter_map, List.map_map]
    show PyData.tuple _ = PyData.tuple (((some.zip row).filter fun p => decide (p.1 ∈ kept)).map (·.2) |>.map PyData.int)
    rw [List.map_map]
    rfl
end
end TT
namespace TT
open PySem PySem.Spec PyProof.Rows L2
/-! ### variables -/
def varsL (scs : List (List Int)) : List Int := scs.foldl (fun ks s => s.foldl addK ks) []
def vars (scs : List (List Int)) : List Int := PySem.W.sortI (varsL scs)
theorem addK_len (ks : List Int) (n : Int) : (addK ks n).length ≤ ks.length + 1 := by
  unfold addK
  split
  · omega
  · rw [List.length_append]; exact Nat.le_refl _
theorem addAll_len : ∀ (s ks : List Int), (s.foldl addK ks).length ≤ ks.length + s.length
  | [], ks => Nat.le_refl _
  | n :: s, ks => by
    have h1 := addAll_len s (addK ks n)
    have h2 := addK_len ks n
    rw [List.foldl_cons, List.length_cons]
    omega
theorem addSc_len : ∀ (scs : List (List Int)) (ks : List Int), (∀ s ∈ scs, s.length ≤ 3) → (scs.foldl (fun ks s => s.foldl addK ks) ks).length ≤ ks.length + 3 * scs.length
  | [], ks, _ => Nat.le_refl _
  | s :: scs, ks, h => by
    have h1 := addSc_len scs (s.foldl addK ks) fun x hx => h x (List.mem_cons_of_mem _ hx)
    have h2 := addAll_len s ks
    have h3 := h s (List.mem_cons_self ..)
    rw [List.foldl_cons, List.length_cons]
    omega
theorem varsL_len {scs : List (List Int)} (h : ∀ s ∈ scs, s.length ≤ 3) (j : Nat) : (varsL (scs.take j)).length ≤ 3 * j := by
  have h1 := addSc_len (scs.take j) [] fun s hs => h s (List.mem_of_mem_take hs)
  have h2 : (scs.take j).length ≤ j := List.length_take_le ..
  unfold varsL
  simp only [List.length_nil, Nat.zero_add] at h1
  omega
theorem take_snoc {α : Type} {l : List α} {j : Nat} {d : α} (h : l[j]? = some d) : l.take (j + 1) = l.take j ++ [d] := by
  rw [List.take_add_one, h]
  rfl
section
variable {P : Program} {w : World} {K : PySem.W.Frag} {mg : Str → Option Value} {base : Heap}
abbrev nNumber : List Str := ["value", "low", "high"]
theorem scNumber : FnScope nNumber nNumber (defScope (topS 18)) := ⟨rfl, rfl, rfl, by decide +kernel, rfl, by decide +kernel, by decide +kernel⟩
theorem df_is_number (T : Fd K mg "is_number" nNumber (topS 18)) (M : Nm mg) : Df P w K mg base "is_number" nNumber 1 RWhole := by
  refine Df.of T scNumber (by rintro _ _ ⟨_, _, _, rfl, _⟩; rfl) ?_
  rintro f cdv A outer s' H E hr ds d ⟨v, lo, hi, rfl, rfl⟩
  exact gb_one (gs_ret (GE.to (g_and (g_isi M.isi M.int boot_int (gv 0) kII) fun _ => g_and (g_not (g_isi M.isi M.bool boot_bool (gv 0) kIB)) fun _ => g_one (g_chain (gv 1) (gv 0) (gv 2))) rfl))
abbrev nEdge : List Str := ["value", "many", "one"]
theorem scEdge : FnScope nEdge ["value", "many"] (defScope (topS 19)) := ⟨rfl, rfl, rfl, by decide +kernel, rfl, by decide +kernel, by decide +kernel⟩
def REdge : List PyData → PyData → Prop := fun ds d => ∃ (n : Nat) (e : List Int), EdgeOk n e ∧ ds = [eR e, .int (n : Int)] ∧ d = .bool true
theorem df_is_edge (T : Fd K mg "is_edge" ["value", "many"] (topS 19)) (M : Nm mg) (D1 : Df P w K mg base "is_number" nNumber 1 RWhole) : Df P w K mg base "is_edge" ["value", "many"] 2 REdge := by
  refine Df.of T scEdge (by rintro _ _ ⟨_, _, _, rfl, _⟩; rfl) ?_
  rintro f cdv A outer s' H E hr ds d ⟨n, e, ⟨a, b, rfl, h0, h1, h2⟩, rfl, rfl⟩
  refine gb_cons (gs_ifF (GT.to (t_w (w_or (t_not (t_val (g_isi M.isi M.tuple boot_tuple (gv 0) kTT))) fun _ => w_or (t_cmp op_ne rd_neI (g_len M.len (gv 0 (d := .tuple [.int a, .int b]))) g_int (nomark _)) fun _ => w_or1 (t_not (t_val (g_allT (items := [PyData.int a, PyData.int b]) rfl M.all (gel_m1 (i := 2) _ rfl scEdge.nd (gi_tup (gv 0))
    (blkOk_by (own := [("one", 2)]) (N := nEdge) (sc := defScope (topS 19)) (by decide +kernel)) (by exact leb rfl) (fun _ _ _ _ _ => pg_name (i := 2) scEdge.nd rfl (Or.inl rfl)) (fun d hd s0 H0 C cl fp => ?_))))))) rfl) gb_nil)
    (gb_one (gs_ret (GE.to (g_cmp op_lt rd_lt (g_ixT atI0 (gv 0 (d := .tuple [.int a, .int b])) g_int) (g_ixT atI1 (gv 0 (d := .tuple [.int a, .int b])) g_int) (nomark _)) ?_)))
  · obtain ⟨z, rfl, hz⟩ : ∃ z : Int, d = .int z ∧ 0 ≤ z ∧ z ≤ (n : Int) - 1 := by
      rcases List.mem_cons.mp hd with rfl | hd
      · exact ⟨a, rfl, h0, by omega⟩
      · rw [List.mem_singleton.mp hd]
        exact ⟨b, rfl, by omega, h2⟩
    refine g_call D1 hr ⟨z, 0, (n : Int) - 1, rfl, ?_⟩ (a_cons (gv 2) (a_cons g_int (a_cons (g_op op_sub rd_sub (gv 1) g_int) a_nil)))
    rw [decide_eq_true hz.1, decide_eq_true hz.2]
    rfl
  · rw [decide_eq_true h1]
abbrev nGraph : List Str := ["value", "values", "scopes", "edges", "one", "edge", "at"]
theorem scGraph : FnScope nGraph ["value"] (defScope (topS 20)) := ⟨rfl, rfl, rfl, by decide +kernel, rfl, by decide +kernel, by decide +kernel⟩
def RGraph : List PyData → PyData → Prop := fun ds d => ∃ g, GrOk g ∧ ds = [eG g] ∧ d = .bool true
theorem df_is_graph (T : Fd K mg "is_graph" ["value"] (topS 20)) (M : Nm mg) (D1 : Df P w K mg base "is_number" nNumber 1 RWhole) (D2 : Df P w K mg base "is_scope" ["value"] 3 RScope) (D3 : Df P w K mg base "is_edge" ["value", "many"] 2 REdge) : Df P w K mg base "is_graph" ["value"] 4 RGraph := by
  refine Df.of T scGraph (by rintro _ _ ⟨_, _, rfl, _⟩; rfl) ?_
  rintro f cdv A outer s' H E hr ds d ⟨g, hg, rfl, rfl⟩
  obtain ⟨tV, cV⟩ := M.cN
  refine gb_cons (gs_ifF (GT.to (t_w (w_or (t_not (t_val (g_isi M.isi M.tuple boot_tuple (gv 0) kTT))) fun _ => w_or (t_cmp op_ne rd_neI (g_len M.len (gv 0 (d := .tuple [.int g.v, .tuple (g.sc.map eR), .tuple (g.ed.map eR)]))) g_int (nomark _)) fun _ => w_or1 (t_not (t_val (k := true) (g_call D1 (hr.mono (by decide)) ⟨g.v, 2, 3, rfl, ?_⟩ (a_cons (g_ixT atI0 (gv 0 (d := .tuple [.int g.v, .tuple (g.sc.map eR), .tuple (g.ed.map eR)])) g_int) (a_cons g_int (a_cons g_int a_nil)))))))) rfl) gb_nil)
    (gb_cons (gs_unp3 (i := 1) (j := 2) (k := 3) (ltb rfl) (ltb rfl) (ltb rfl) (GE.v (gv 0)) (pg_tup rfl (pgs_cons (pg_name (i := 1) scGraph.nd rfl (Or.inl rfl)) (pgs_cons (pg_name (i := 2) scGraph.nd rfl (Or.inr rfl)) (pgs_cons (pg_name (i := 3) scGraph.nd rfl (Or.inr rfl)) pgs_nil)))))
    (gb_cons (gs_ifF (GT.to (t_w (w_or (t_not (t_val (g_isi M.isi M.tuple boot_tuple (gv 2) kTT))) fun _ => w_or1 (t_not (t_chain g_int (g_len M.len (gv 2)) (g_globI cV))))) ?_) gb_nil)
    (gb_cons (gs_ifF (GT.to (t_not (t_val (g_allT (items := g.sc.map eR) rfl M.all (gel_m1 (i := 4) _ rfl scGraph.nd (gi_tup (gv 2))
      (blkOk_by (own := [("one", 4)]) (N := nGraph) (sc := defScope (topS 20)) (by decide +kernel)) ?_ (fun _ _ _ _ _ => pg_name (i := 4) scGraph.nd rfl (Or.inl rfl)) (fun d hd s0 H0 C cl fp => ?_))))) rfl) gb_nil)
    (gb_cons (gs_ifF (GT.to (t_w (w_or (t_not (t_val (g_isi M.isi M.tuple boot_tuple (gv 3) kTT))) fun _ => w_or1 (t_not (t_val (g_allT (items := g.ed.map eR) rfl M.all (gel_m1 (i := 5) _ rfl scGraph.nd (gi_tup (gv 3))
      (blkOk_by (own := [("edge", 5)]) (N := nGraph) (sc := defScope (topS 20)) (by decide +kernel)) ?_ (fun _ _ _ _ _ => pg_name (i := 5) scGraph.nd rfl (Or.inl rfl)) (fun d hd s0 H0 C cl fp => ?_))))))) rfl) gb_nil)
    (gb_one (gs_ret (g_allT rfl M.all (gel_m1 (i := 6) _ rfl scGraph.nd (gi_range1 M.range (g_op op_sub rd_sub (g_len M.len (gv 3)) g_int) ?_ ?_)
      (blkOk_by (own := [("at", 6)]) (N := nGraph) (sc := defScope (topS 20)) (by decide +kernel)) ?_ (fun _ _ _ _ _ => pg_name (i := 6) scGraph.nd rfl (Or.inl rfl)) (fun d hd s0 H0 C cl fp => ?_)))))))))
  · rw [decide_eq_true hg.v2, decide_eq_true hg.v3]
    rfl
  · rw [List.length_map, decide_eq_true (show (1 : Int) ≤ (g.sc.length : Int) by have := hg.n1; omega), decide_eq_true (show (g.sc.length : Int) ≤ 5 by have := hg.n5; omega)]
    rfl
  · rw [List.length_map]; have := hg.n5; omega
  · obtain ⟨s, hs, rfl⟩ := List.mem_map.mp hd
    exact g_call D2 hr ⟨s, hg.sc s hs, rfl, rfl⟩ (a_cons (gv 4) a_nil)
  · rw [List.length_map]; have := hg.el; omega
  · obtain ⟨e, he, rfl⟩ := List.mem_map.mp hd
    refine g_call D3 (hr.mono (by decide)) ⟨g.sc.length, e, hg.ed e he, ?_, rfl⟩ (a_cons (gv 5) (a_cons (g_len M.len (gv 2)) a_nil))
    rw [List.length_map]
  · rw [List.length_map]; omega
  · rw [List.length_map]; have := hg.el; omega
  · rw [rngD_length, List.length_map]; have := hg.el; omega
  · rw [List.length_map] at hd
    obtain ⟨k, hk, rfl⟩ := mem_rng hd
    have h1 : k < g.ed.length := by omega
    have h2 : k + 1 < g.ed.length := by omega
    refine (g_cmp (op_ltT hr.units0) rd_ltT (g_ixT (atI_rows (Int.zero_add _) h1) (gv 3) (gv 6)) (g_ixT (atI_rows (z := 0 + (k : Int) + 1) (k := k + 1) (by omega) h2) (gv 3) (g_op op_add rd_add (gv 6) g_int)) (nomark _)).to ?_
    rw [show HT.lexLt g.ed[k] g.ed[k + 1] = true from (List.pairwise_iff_getElem.mp hg.up) k (k + 1) h1 h2 (by omega)]
abbrev nTables : List Str := ["graph", "value", "scope", "table"]
theorem scTables : FnScope nTables ["graph", "value"] (defScope (topS 21)) := ⟨rfl, rfl, rfl, by decide +kernel, rfl, by decide +kernel, by decide +kernel⟩
def RTables : List PyData → PyData → Prop := fun ds d => ∃ g ts, GrOk g ∧ TsOk g ts ∧ ds = [eG g, eTs ts] ∧ d = .bool true
theorem df_are_tables (T : Fd K mg "are_tables" ["graph", "value"] (topS 21)) (M : Nm mg) (D1 : Df P w K mg base "is_table" ["values", "scope", "value"] 3 RTable) : Df P w K mg base "are_tables" ["graph", "value"] 4 RTables := by
  refine Df.of T scTables (by rintro _ _ ⟨_, _, _, _, rfl, _⟩; rfl) ?_
  rintro f cdv A outer s' H E hr ds d ⟨g, ts, hg, ht, rfl, rfl⟩
  refine gb_cons (gs_ifF (GT.to (t_w (w_or (t_not (t_val (g_isi M.isi M.tuple boot_tuple (gv 1) kTT))) fun _ => w_or1 (t_cmp op_ne rd_neI (g_len M.len (gv 1)) (g_len M.len (g_ixT atI1 (gv 0 (d := .tuple [.int g.v, .tuple (g.sc.map eR), .tuple (g.ed.map eR)])) g_int)) (nomark _)))) ?_) gb_nil)
    (gb_one (gs_ret (GE.to (g_all rfl M.all (GEL.to (gel_m2 (i := 2) (j := 3) (items := (g.sc.zip ts).map fun p => (eR p.1, eT p.2)) (fun _ _ => .bool true) rfl scTables.nd (GI.to (gi_zip M.zip (g_ixT atI1 (gv 0 (d := .tuple [.int g.v, .tuple (g.sc.map eR), .tuple (g.ed.map eR)])) g_int) (gv 1)) (pairD_map _ _ _ _))
      (blkOk_by (own := [("scope", 2), ("table", 3)]) (N := nTables) (sc := defScope (topS 21)) (by decide +kernel)) ?_
      (fun _ _ _ _ _ => pg_tup rfl (pgs_cons (pg_name (i := 2) scTables.nd rfl (Or.inl rfl)) (pgs_cons (pg_name (i := 3) scTables.nd rfl (Or.inl rfl)) pgs_nil))) (fun d hd s0 H0 C cl fp => ?_)) (ds' := ((g.sc.zip ts).map fun _ => true).map PyData.bool) ?_)) ?_)))
  · rw [List.length_map, List.length_map, ht.len, decide_eq_true rfl]
    rfl
  · rw [List.length_map, List.length_zip]; have := hg.n5; omega
  · obtain ⟨p, hp, rfl⟩ := List.mem_map.mp hd
    exact g_call D1 hr ⟨g.v, p.1, p.2, ht.ok p hp, by have := (hg.sc p.1 (List.of_mem_zip hp).1).len; omega, rfl, rfl⟩ (a_cons (g_ixT atI0 (gv 0 (d := .tuple [.int g.v, .tuple (g.sc.map eR), .tuple (g.ed.map eR)])) g_int) (a_cons (gv 2) (a_cons (gv 3) a_nil)))
  · rw [List.map_map, List.map_map]
    rfl
  · rw [all_id, List.all_eq_true.mpr (fun _ _ => rfl)]
/-! ### variables_of, scope_of -/
def nodesD (n : Nat) : PyData := .list (rngD 0 n)
def RScopeOf : List PyData → List PyData → Prop := fun ds es => ∃ g, GrOk g ∧ ds = [eG g, nodesD g.sc.length] ∧ es = (vars g.sc).map PyData.int
abbrev nScopeOf : List Str := ["graph", "nodes", "found", "node", "variable"]
theorem scScopeOf : FnScope nScopeOf ["graph", "nodes"] (defScope (topS 23)) := ⟨rfl, rfl, rfl, by decide +kernel, rfl, by decide +kernel, by decide +kernel⟩
theorem df_scope_of (T : Fd K mg "scope_of" ["graph", "nodes"] (topS 23)) (M : Nm mg) : DfN P w K mg base "scope_of" ["graph", "nodes"] 1 RScopeOf := by
  refine DfN.of T scScopeOf (by rintro _ _ ⟨_, _, rfl, _⟩; rfl) ?_
  rintro f cdv A outer s' H E hr ds es ⟨g, hg, rfl, rfl⟩
  have hl3 : ∀ s ∈ g.sc, s.length ≤ 3 := fun s hs => (hg.sc s hs).len
  refine gb_cons (gs_setD (i := 2) scScopeOf.nd rfl (Or.inl rfl))
    (gb_cons (gs_for1 (i := 3) (items := rngD 0 g.sc.length) (fun j => [.im (eG g), .im (nodesD g.sc.length), .dk (varsL (g.sc.take j)), .no, .no]) PassesOwn.never rfl (gi_list (gv 1)) (Wk.refl _) (pg_name (i := 3) scScopeOf.nd rfl (Or.inl rfl)) (fun _ => ltb rfl) (fun j d hd => ?_))
    (gb_one (gs_retTS (i := 2) (ks := varsL (g.sc.take (rngD 0 g.sc.length).length)) rfl M.tuple M.sorted rfl ?_ (fun ys hp hs => ?_) rfl)))
  · obtain ⟨hj, rfl⟩ : j < g.sc.length ∧ d = .int (0 + (j : Int)) := by
      have h1 := (List.getElem?_eq_some_iff.mp hd).1
      rw [rngD_length] at h1
      rw [rngD_at h1] at hd
      exact ⟨h1, (Option.some.inj hd).symm⟩
    have hs := List.getElem?_eq_getElem hj
    refine ⟨_, gb_one (gs_for1 (i := 4) (items := (g.sc[j]).map PyData.int) (fun m => [.im (eG g), .im (nodesD g.sc.length), .dk (((g.sc[j]).take m).foldl addK (varsL (g.sc.take j))), .im (.int (0 + (j : Int))), .no]) PassesOwn.never rfl
      (gi_tup (g_ixT (atI_rows (Int.zero_add _) hj) (g_ixT atI1 (gv 0 (d := .tuple [.int g.v, .tuple (g.sc.map eR), .tuple (g.ed.map eR)])) g_int) (gv 3))) (Wk.refl _) (pg_name (i := 4) scScopeOf.nd rfl (Or.inl rfl)) (fun _ => ltb rfl) (fun m d hd => ?_)), ?_⟩
    · obtain ⟨n, hn, rfl⟩ : ∃ n, (g.sc[j])[m]? = some n ∧ d = .int n := by
        rw [List.getElem?_map] at hd
        obtain ⟨n, hn, e⟩ := Option.map_eq_some_iff.mp hd
        exact ⟨n, hn, e.symm⟩
      refine ⟨_, gb_one (gs_dput (i := 2) (hu_of hr) rfl (gv 4) ?_ rfl), ?_⟩
      · have h1 := addAll_len ((g.sc[j]).take m) (varsL (g.sc.take j))
        have h2 := varsL_len hl3 j
        have h3 := hl3 _ (List.getElem_mem hj)
        have h4 : ((g.sc[j]).take m).length ≤ (g.sc[j]).length := List.length_take_le' ..
        have h5 := hg.n5
        omega
      · rw [take_snoc hn, List.foldl_append]
        exact wk_eq (wk_eq (wk_eq (wk_eq (wk_no wk_nil))))
    · rw [List.length_map, List.take_length]
      have e : varsL (g.sc.take (j + 1)) = (g.sc[j]).foldl addK (varsL (g.sc.take j)) := by
        unfold varsL
        rw [take_snoc hs, List.foldl_append]
        rfl
      rw [e]
      exact wk_eq (wk_eq (wk_eq (wk_no (wk_eq wk_nil))))
  · have h2 := varsL_len hl3 (rngD 0 g.sc.length).length
    rw [rngD_length] at h2 ⊢
    have h5 := hg.n5
    omega
  · have e : varsL (g.sc.take (rngD 0 g.sc.length).length) = varsL g.sc := by rw [rngD_length, List.take_length]
    rw [e] at hp
    exact PySem.W.eq_sortI hp hs
abbrev nVarsOf : List Str := ["graph"]
theorem scVarsOf : FnScope nVarsOf ["graph"] (defScope (topS 22)) := ⟨rfl, rfl, rfl, by decide +kernel, rfl, by decide +kernel, by decide +kernel⟩
def RVarsOf : List PyData → List PyData → Prop := fun ds es => ∃ g, GrOk g ∧ ds = [eG g] ∧ es = (vars g.sc).map PyData.int
theorem g_nodes {X : Cx} {e : Expr} {ρ : Rho} {g : Gr} {p p2 p3 p4 p5 p6 pos pos2 : Pos} {jj} (hc : X.calm = true) (M : Nm X.mg) (hg : GrOk g) (h : GE X e ρ (eG g)) (hgl : Gl X "list" := by rfl) (hgr : Gl X "range" := by rfl) (hgn : Gl X "len" := by rfl)
    (hs : PlainIx (.Constant (.int 1) jj p5) := by intro _ _; rfl)
    (he : starEach (Expr.Subscript e (.Constant (.int 1) jj p5) p4 :: []) X.env = (false, eval (Expr.Subscript e (.Constant (.int 1) jj p5) p4) X.env) :: starEach [] X.env := by rfl) (hpl : (backTo p3 (starEach [] X.env)).any (·.1) = false := by rfl)
    (na : starEach [Expr.Call (.Name "len" p2) [Expr.Subscript e (.Constant (.int 1) jj p5) p4] [] p3] X.env = (false, eval (Expr.Call (.Name "len" p2) [Expr.Subscript e (.Constant (.int 1) jj p5) p4] [] p3) X.env) :: starEach [] X.env := by rfl)
    (na2 : starEach [Expr.Call (.Name "range" p) [Expr.Call (.Name "len" p2) [Expr.Subscript e (.Constant (.int 1) jj p5) p4] [] p3] [] pos] X.env = (false, eval (.Call (.Name "range" p) [Expr.Call (.Name "len" p2) [Expr.Subscript e (.Constant (.int 1) jj p5) p4] [] p3] [] pos) X.env) :: starEach [] X.env := by rfl) :
    GE X (.Call (.Name "list" p6) [.Call (.Name "range" p) [.Call (.Name "len" p2) [.Subscript e (.Constant (.int 1) jj p5) p4] [] p3] [] pos] [] pos2) ρ (nodesD g.sc.length) := by
  have h2 : GE X (.Call (.Name "len" p2) [.Subscript e (.Constant (.int 1) jj p5) p4] [] p3) ρ (.int (g.sc.length : Int)) := (g_len M.len (g_ixT atI1 (h.to (d' := .tuple [.int g.v, .tuple (g.sc.map eR), .tuple (g.ed.map eR)]) rfl) g_int hs) hgn he hpl).to (by rw [List.length_map])
  refine (gl_listRange hc M.list M.range h2 (by omega) (by have := hg.n5; omega) hgl hgr na na2).ge.to ?_
  rw [Int.toNat_natCast]
  rfl
theorem df_variables_of (T : Fd K mg "variables_of" ["graph"] (topS 22)) (M : Nm mg) (D1 : DfN P w K mg base "scope_of" ["graph", "nodes"] 1 RScopeOf) : DfN P w K mg base "variables_of" ["graph"] 2 RVarsOf := by
  refine DfN.of T scVarsOf (by rintro _ _ ⟨_, _, rfl, _⟩; rfl) ?_
  rintro f cdv A outer s' H E hr ds es ⟨g, hg, rfl, rfl⟩
  exact gb_one (gs_retN (gn_call D1 hr ⟨g, hg, rfl, rfl⟩ (a_cons (gv 0) (a_cons (g_nodes rfl M hg (gv 0)) a_nil))))
end
end TT
namespace TT
open PySem PySem.Spec PyProof.Rows L2
/-! ### equality of rows -/
theorem canLay_ints : ∀ ns : List Int, PyData.canLayAll0 (ns.map PyData.int) = true
  | [] => rfl
  | n :: ns => by
    show (PyData.canLay0 (.int n) && PyData.canLayAll0 (ns.map PyData.int)) = true
    rw [canLay_ints ns]
    rfl
theorem depth_ints : ∀ ns : List Int, PyData.depthAll (ns.map PyData.int) = 0
  | [] => rfl
  | n :: ns => by
    show max (PyData.depth (.int n)) (PyData.depthAll (ns.map PyData.int)) = 0
    rw [depth_ints ns]
    rfl
theorem shaped_eR (r : List Int) : SeqAt.shaped (eR r) = true := by
  show (PyData.canLayAll0 (r.map PyData.int) && decide (PyData.depthAll (r.map PyData.int) + 1 ≤ 64)) = true
  rw [canLay_ints, depth_ints]
  rfl
theorem eqv_ints : ∀ a b : List Int, PyData.eqvAll (a.map PyData.int) (b.map PyData.int) = decide (a = b)
  | [], [] => rfl
  | [], _ :: _ => rfl
  | _ :: _, [] => rfl
  | x :: a, y :: b => by
    show (PyData.eqv (.int x) (.int y) && PyData.eqvAll (a.map PyData.int) (b.map PyData.int)) = _
    rw [eqv_ints a b]
    have e : PyData.eqv (.int x) (.int y) = (x == y) := by rw [PyData.eqv]
    rw [e, Bool.eq_iff_iff, Bool.and_eq_true, beq_iff_eq, decide_eq_true_iff, decide_eq_true_iff, List.cons.injEq]
theorem eqv_eR (a b : List Int) : PyData.eqv (eR a) (eR b) = decide (a = b) := by
  rw [← eqv_ints a b]
  show PyData.eqv (.tuple (a.map PyData.int)) (.tuple (b.map PyData.int)) = _
  rw [PyData.eqv]
/-! ### the variables' number -/
theorem addK_mem {ks : List Int} {n x : Int} : x ∈ addK ks n ↔ x ∈ ks ∨ x = n := by
  unfold addK
  split
  · rename_i h
    exact ⟨.inl, fun z => z.elim id fun e => e ▸ h⟩
  · rw [List.mem_append, List.mem_singleton]
theorem addK_nodup {ks : List Int} {n : Int} (h : ks.Nodup) : (addK ks n).Nodup := by
  unfold addK
  split
  · exact h
  · rename_i hn
    rw [List.nodup_append]
    exact ⟨h, by simp, fun a ha b hb e => hn (by rw [List.mem_singleton] at hb; rw [← hb, ← e]; exact ha)⟩
theorem addAll_mem : ∀ {s ks : List Int} {x : Int}, x ∈ s.foldl addK ks ↔ x ∈ ks ∨ x ∈ s
  | [], ks, x => by simp
  | n :: s, ks, x => by
    rw [List.foldl_cons, addAll_mem, addK_mem, List.mem_cons, or_assoc]
theorem addAll_nodup : ∀ {s ks : List Int}, ks.Nodup → (s.foldl addK ks).Nodup
  | [], _, h => h
  | n :: s, ks, h => by
    rw [List.foldl_cons]
    exact addAll_nodup (addK_nodup h)
theorem addSc_mem : ∀ {scs : List (List Int)} {ks : List Int} {x : Int}, x ∈ scs.foldl (fun ks s => s.foldl addK ks) ks ↔ x ∈ ks ∨ ∃ s ∈ scs, x ∈ s
  | [], ks, x => by simp
  | s :: scs, ks, x => by
    rw [List.foldl_cons, addSc_mem, addAll_mem, or_assoc]
    constructor
    · rintro (h | h | ⟨s', h1, h2⟩)
      · exact .inl h
      · exact .inr ⟨s, List.mem_cons_self .., h⟩
      · exact .inr ⟨s', List.mem_cons_of_mem _ h1, h2⟩
    · rintro (h | ⟨s', h1, h2⟩)
      · exact .inl h
      · rcases List.mem_cons.mp h1 with rfl | h1
        · exact .inr (.inl h2)
        · exact .inr (.inr ⟨s', h1, h2⟩)
theorem addSc_nodup : ∀ {scs : List (List Int)} {ks : List Int}, ks.Nodup → (scs.foldl (fun ks s => s.foldl addK ks) ks).Nodup
  | [], _, h => h
  | s :: scs, ks, h => by
    rw [List.foldl_cons]
    exact addSc_nodup (addAll_nodup h)
theorem vars_mem {scs : List (List Int)} {x : Int} : x ∈ vars scs ↔ ∃ s ∈ scs, x ∈ s := by
  unfold vars varsL
  rw [(PySem.W.sortI_perm _).mem_iff, addSc_mem]
  simp
theorem vars_up (scs : List (List Int)) : (vars scs).Pairwise (· < ·) := by
  have h1 := PySem.W.sortI_rises (varsL scs)
  have h2 : (vars scs).Nodup := (PySem.W.sortI_perm _).nodup_iff.mpr (addSc_nodup List.nodup_nil)
  exact (h1.and h2).imp fun ⟨a, b⟩ => by omega
theorem asc_len : ∀ (l : List Int) (lo : Int), l.Pairwise (· < ·) → (∀ x ∈ l, lo ≤ x ∧ x ≤ 5) → (l.length : Int) ≤ max 0 (6 - lo)
  | [], lo, _, _ => by simp; omega
  | x :: l, lo, hp, hb => by
    have h1 := asc_len l (x + 1) (List.pairwise_cons.mp hp).2 fun y hy => ⟨by have := (List.pairwise_cons.mp hp).1 y hy; omega, (hb y (List.mem_cons_of_mem _ hy)).2⟩
    have h2 := hb x (List.mem_cons_self ..)
    rw [List.length_cons]
    omega
theorem vars_rng {g : Gr} (hg : GrOk g) {x : Int} (h : x ∈ vars g.sc) : 0 ≤ x ∧ x ≤ 5 := by
  obtain ⟨s, hs, hx⟩ := vars_mem.mp h
  exact (hg.sc s hs).vars x hx
theorem vars_len {g : Gr} (hg : GrOk g) : (vars g.sc).length ≤ 6 := by
  have := asc_len (vars g.sc) 0 (vars_up _) fun x hx => vars_rng hg hx
  omega
/-! ### mirrors -/
def partAt (g : Gr) (row : List Int) (i : Nat) : List Int := partOf (vars g.sc) row (g.sc.getD i [])
def accAt (g : Gr) (ts : List Tbl) (row : List Int) (i : Nat) : Bool := (ts.getD i []).any fun p => decide (p.1 = partAt g row i)
def accAll (g : Gr) (ts : List Tbl) (row : List Int) : Bool := (List.range g.sc.length).all (accAt g ts row)
def priceAt (g : Gr) (ts : List Tbl) (row : List Int) (i : Nat) : Int := (((ts.getD i []).filter fun p => decide (p.1 = partAt g row i)).map (·.2)).headD 0
def priceTo (g : Gr) (ts : List Tbl) (row : List Int) (j : Nat) : Int := ((List.range j).map (priceAt g ts row)).sum
def sols (g : Gr) (ts : List Tbl) : List (List Int × Int) := ((rowsOf g.v.toNat (vars g.sc).length).filter (accAll g ts)).map fun r => (r, priceTo g ts r g.sc.length)
def eSols (l : List (List Int × Int)) : PyData := .list (l.map eP)
theorem first_bad (p : Nat → Bool) : ∀ n, (∀ i, i < n → p i = true) ∨ ∃ m, m < n ∧ p m = false ∧ ∀ j, j < m → p j = true
  | 0 => .inl fun i h => by omega
  | n + 1 => by
    rcases first_bad p n with h | ⟨m, h1, h2, h3⟩
    · cases q : p n with
      | true =>
        refine .inl fun i hi => ?_
        by_cases e : i = n
        · rw [e]; exact q
        · exact h i (by omega)
      | false => exact .inr ⟨n, by omega, q, h⟩
    · exact .inr ⟨m, by omega, h2, h3⟩
theorem rng_get {n j : Nat} {d : PyData} (hd : (rngD 0 n)[j]? = some d) : j < n ∧ d = .int (0 + (j : Int)) := by
  have h1 := (List.getElem?_eq_some_iff.mp hd).1
  rw [rngD_length] at h1
  rw [rngD_at h1] at hd
  exact ⟨h1, (Option.some.inj hd).symm⟩
abbrev gD (g : Gr) : PyData := .tuple [.int g.v, .tuple (g.sc.map eR), .tuple (g.ed.map eR)]
section
variable {P : Program} {w : World} {K : PySem.W.Frag} {mg : Str → Option Value} {base : Heap}
abbrev nCheckG : List Str := ["graph"]
theorem scCheckG : FnScope nCheckG ["graph"] (defScope (topS 24)) := ⟨rfl, rfl, rfl, by decide +kernel, rfl, by decide +kernel, by decide +kernel⟩
def RG : List PyData → Prop := fun ds => ∃ g, GrOk g ∧ ds = [eG g]
def RNone (R : List PyData → Prop) : List PyData → PyData → Prop := fun ds d => R ds ∧ d = .none
theorem df_check_graph (T : Fd K mg "check_graph" ["graph"] (topS 24)) (D1 : Df P w K mg base "is_graph" ["value"] 4 RGraph) : Df P w K mg base "check_graph" ["graph"] 5 (RNone RG) := by
  refine Df.ofN T scCheckG (by rintro _ ⟨_, _, rfl⟩; rfl) ?_
  rintro f cdv A outer s' H E hr ds ⟨g, hg, rfl⟩
  exact ⟨_, gb_one (gs_ifF (GT.to (t_not (t_val (k := true) (g_call D1 hr ⟨g, hg, rfl, rfl⟩ (a_cons (gv 0) a_nil)))) rfl) gb_nil)⟩
abbrev nCheckT : List Str := ["graph", "tables"]
theorem scCheckT : FnScope nCheckT nCheckT (defScope (topS 25)) := ⟨rfl, rfl, rfl, by decide +kernel, rfl, by decide +kernel, by decide +kernel⟩
def RGT : List PyData → Prop := fun ds => ∃ g ts, GrOk g ∧ TsOk g ts ∧ ds = [eG g, eTs ts]
theorem df_check_tables (T : Fd K mg "check_tables" nCheckT (topS 25)) (D1 : Df P w K mg base "check_graph" ["graph"] 5 (RNone RG)) (D2 : Df P w K mg base "are_tables" ["graph", "value"] 4 RTables) : Df P w K mg base "check_tables" nCheckT 6 (RNone RGT) := by
  refine Df.ofN T scCheckT (by rintro _ ⟨_, _, _, _, rfl⟩; rfl) ?_
  rintro f cdv A outer s' H E hr ds ⟨g, ts, hg, ht, rfl⟩
  exact ⟨_, gb_cons (gs_expr (g_call D1 hr ⟨⟨g, hg, rfl⟩, rfl⟩ (a_cons (gv 0) a_nil))) (gb_one (gs_ifF (GT.to (t_not (t_val (k := true) (g_call D2 (hr.mono (by decide)) ⟨g, ts, hg, ht, rfl, rfl⟩ (a_cons (gv 0) (a_cons (gv 1) a_nil))))) rfl) gb_nil))⟩
abbrev nFirst : List Str := ["graph", "tables", "nodes", "row", "some", "node", "part", "own", "price"]
theorem scFirst : FnScope nFirst ["graph", "tables", "nodes", "row"] (defScope (topS 26)) := ⟨rfl, rfl, rfl, by decide +kernel, rfl, by decide +kernel, by decide +kernel⟩
def RFirst : List PyData → PyData → Prop := fun ds d => ∃ g ts row, GrOk g ∧ TsOk g ts ∧ ds = [eG g, eTs ts, nodesD g.sc.length, eR row] ∧
  ((d = .none ∧ ∀ i, i < g.sc.length → accAt g ts row i = true) ∨ ∃ m : Nat, m < g.sc.length ∧ d = .int (0 + (m : Int)) ∧ accAt g ts row m = false ∧ ∀ j, j < m → accAt g ts row j = true)
theorem getD_at {α : Type} {l : List α} {i : Nat} {d : α} (h : i < l.length) : l.getD i d = l[i] := by
  rw [List.getD_eq_getElem?_getD, List.getElem?_eq_getElem h]
  rfl
theorem tbl_len {g : Gr} {ts : List Tbl} (ht : TsOk g ts) {j : Nat} (hj : j < g.sc.length) (hj2 : j < ts.length) : (ts[j]).length ≤ 1000 := by
  refine (ht.ok (g.sc[j], ts[j]) ?_).len
  exact List.mem_iff_getElem.mpr ⟨j, by rw [List.length_zip]; omega, by rw [List.getElem_zip]⟩
theorem df_first_rejecting (T : Fd K mg "first_rejecting" ["graph", "tables", "nodes", "row"] (topS 26)) (M : Nm mg) (D1 : DfN P w K mg base "scope_of" ["graph", "nodes"] 1 RScopeOf) (D2 : Df P w K mg base "cut_to" ["row", "some", "kept"] 1 RCut) :
    Df P w K mg base "first_rejecting" ["graph", "tables", "nodes", "row"] 2 RFirst := by
  refine Df.of T scFirst (by rintro _ _ ⟨_, _, _, _, _, rfl, _⟩; rfl) ?_
  rintro f cdv A outer s' H E hr ds d ⟨g, ts, row, hg, ht, rfl, hd⟩
  have hvl := vars_len hg
  -- the part and the test of a turn
  have turn : ∀ (j : Nat) (hj : j < g.sc.length) (b : Bool), accAt g ts row j = b → GB (cxOf CX0 P w K mg base nFirst "first_rejecting" (defScope (topS 26)) f cdv A outer s' H E).nox (forBody (nth (defBody (topS 26)) 1))
      [.im (eG g), .im (eTs ts), .im (nodesD g.sc.length), .im (eR row), .im (eR (vars g.sc)), .im (.int (0 + (j : Int))), .no, .no, .no]
      (if b then .nx [.im (eG g), .im (eTs ts), .im (nodesD g.sc.length), .im (eR row), .im (eR (vars g.sc)), .im (.int (0 + (j : Int))), .im (eR (partAt g row j)), .no, .no] else .rt (.int (0 + (j : Int)))) := fun j hj b hb => by
    have hj2 : j < ts.length := by rw [ht.len]; exact hj
    refine gb_cons (gs_set (i := 6) (GE.v (g_call D2 hr ⟨row, vars g.sc, g.sc[j], by omega, rfl, rfl⟩ (a_cons (gv 3) (a_cons (gv 4) (a_cons (g_ixT (atI_rows (Int.zero_add _) hj) (g_ixT atI1 (gv 0 (d := gD g)) g_int) (gv 5)) a_nil))))) scFirst.nd rfl (Or.inr rfl)) ?_
    have hany : GE (cxOf CX0 P w K mg base nFirst "first_rejecting" (defScope (topS 26)) f cdv A outer s' H E).nox (notArg (ifTest (nth (forBody (nth (defBody (topS 26)) 1)) 1))) (dat [.im (eG g), .im (eTs ts), .im (nodesD g.sc.length), .im (eR row), .im (eR (vars g.sc)), .im (.int (0 + (j : Int))), .im (eR (partOf (vars g.sc) row g.sc[j])), .no, .no]) (.bool b) :=
      GE.to (g_anyB (items := (ts[j])) (b := fun p => decide (p.1 = partAt g row j)) rfl M.any (GEL.to (gel_m2 (i := 7) (j := 8) (items := (ts[j]).map fun p => (eR p.1, PyData.int p.2)) (fun a _ => .bool (PyData.eqv a (eR (partAt g row j)))) rfl scFirst.nd
        (GI.to (gi_tup (g_ixT (atI_rows (f := eT) (Int.zero_add _) hj2) (gv 1 (d := .tuple (ts.map eT))) (gv 5))) (by rw [List.map_map]; rfl))
        (blkOk_by (own := [("own", 7), ("price", 8)]) (N := nFirst) (sc := defScope (topS 26)) (by decide +kernel)) (by rw [List.length_map]; have := tbl_len ht hj hj2; omega)
        (fun _ _ _ _ _ => pg_tup rfl (pgs_cons (pg_name (i := 7) scFirst.nd rfl (Or.inl rfl)) (pgs_cons (pg_name (i := 8) scFirst.nd rfl (Or.inl rfl)) pgs_nil)))
        (fun d hd s0 H0 C cl fp => by
          obtain ⟨p, hp, rfl⟩ := List.mem_map.mp hd
          exact GE.to (g_cmp (op_eqD hr.units) (rd_eqD (shaped_eR _) (shaped_eR _)) (gv 7) (gv 6) (nomark _)) (by unfold partAt; rw [getD_at hj]))) (by
            rw [List.map_map]
            refine List.map_congr_left fun p _ => ?_
            show PyData.bool (PyData.eqv (eR p.1) (eR (partAt g row j))) = _
            rw [eqv_eR]))) (by
              rw [← hb]
              unfold accAt
              rw [getD_at hj2])
    have e1 : partAt g row j = partOf (vars g.sc) row g.sc[j] := by
      unfold partAt
      rw [getD_at hj]
    cases b with
    | true =>
      rw [e1]
      exact gb_cons (gs_ifF (GT.to (t_not (t_val hany)) rfl) gb_nil) gb_nil
    | false => exact gb_one (gs_ifT (GT.to (t_not (t_val hany)) rfl) (gb_one (gs_ret (gv 5))))
  refine gb_cons (gs_set (i := 4) (GE.v (GN.ge (gn_call D1 hr ⟨g, hg, rfl, rfl⟩ (a_cons (gv 0) (a_cons (gv 2) a_nil))))) scFirst.nd rfl (Or.inl rfl)) ?_
  rcases hd with ⟨rfl, hall⟩ | ⟨m, hm, rfl, hm2, hj⟩
  · refine gb_cons (gs_for1 (i := 5) (items := rngD 0 g.sc.length) (fun j => [.im (eG g), .im (eTs ts), .im (nodesD g.sc.length), .im (eR row), .im (eR (vars g.sc)), .no, .no, .no, .no]) PassesOwn.never rfl (gi_list (gv 2)) (Wk.refl _) (pg_name (i := 5) scFirst.nd rfl (Or.inl rfl)) (fun _ => ltb rfl) (fun j d hd => ?_)) (gb_one (gs_ret g_non))
    obtain ⟨hj, rfl⟩ := rng_get hd
    exact ⟨_, turn j hj true (hall j hj), wk_eq (wk_eq (wk_eq (wk_eq (wk_eq (wk_no (wk_no (wk_eq (wk_eq wk_nil))))))))⟩
  · refine gb_stop (gs_for1R (i := 5) (items := rngD 0 g.sc.length) (fun j => [.im (eG g), .im (eTs ts), .im (nodesD g.sc.length), .im (eR row), .im (eR (vars g.sc)), .no, .no, .no, .no]) m PassesOwn.never rfl (gi_list (gv 2)) (Wk.refl _) (pg_name (i := 5) scFirst.nd rfl (Or.inl rfl)) (fun _ => ltb rfl) (fun j d hjm hd => ?_) (rngD_at hm) ?_)
    · obtain ⟨hj', rfl⟩ := rng_get hd
      exact ⟨_, turn j hj' true (hj j hjm), wk_eq (wk_eq (wk_eq (wk_eq (wk_eq (wk_no (wk_no (wk_eq (wk_eq wk_nil))))))))⟩
    · exact turn m hm false hm2
end
end TT
namespace TT
open PySem PySem.Spec PyProof.Rows L2
theorem rowsOf_row {v : Nat} : ∀ {n : Nat} {r : List Int}, r ∈ rowsOf v n → r.length = n ∧ ∀ x ∈ r, 0 ≤ x ∧ x ≤ (v : Int) - 1
  | 0, r, h => by
    have : r = [] := List.mem_singleton.mp h
    rw [this]
    exact ⟨rfl, fun x hx => absurd hx (by simp)⟩
  | n + 1, r, h => by
    obtain ⟨r0, h0, h1⟩ := List.mem_flatMap.mp h
    obtain ⟨k, hk, rfl⟩ := List.mem_map.mp h1
    obtain ⟨g1, g2⟩ := rowsOf_row h0
    have hk' := List.mem_range.mp hk
    refine ⟨by rw [List.length_append, g1]; rfl, fun x hx => ?_⟩
    rcases List.mem_append.mp hx with hx | hx
    · exact g2 x hx
    · rw [List.mem_singleton.mp hx]
      omega
theorem sols_row {g : Gr} {ts : List Tbl} {p : List Int × Int} (h : p ∈ sols g ts) : p.1.length = (vars g.sc).length := by
  unfold sols at h
  obtain ⟨r, hr, rfl⟩ := List.mem_map.mp h
  exact (rowsOf_row (List.mem_filter.mp hr).1).1
theorem sols_len {g : Gr} {ts : List Tbl} (hg : GrOk g) : (sols g ts).length ≤ 729 := by
  unfold sols
  rw [List.length_map]
  refine Nat.le_trans (List.length_filter_le _ _) (rowsOf_le ?_ (vars_len hg))
  have := hg.v3
  omega
theorem priceTo_succ (g : Gr) (ts : List Tbl) (row : List Int) (j : Nat) : priceTo g ts row (j + 1) = priceTo g ts row j + priceAt g ts row j := by
  unfold priceTo
  rw [List.range_succ, List.map_append, List.sum_append]
  simp
def eqPart (part : List Int) : PyData → PyData → Bool := fun a _ => PyData.eqv a (eR part)
theorem price_list (t : Tbl) (part : List Int) : ((t.map fun p => (eR p.1, PyData.int p.2)).filter fun p => eqPart part p.1 p.2).map (fun p => p.2) = ((t.filter fun p => decide (p.1 = part)).map (·.2)).map PyData.int := by
  rw [List.filter_map, List.map_map, List.map_map]
  have e : ((fun p : PyData × PyData => eqPart part p.1 p.2) ∘ fun p : List Int × Int => (eR p.1, PyData.int p.2)) = fun p => decide (p.1 = part) := by
    funext p
    exact eqv_eR p.1 part
  rw [e]
  rfl
section
variable {P : Program} {w : World} {K : PySem.W.Frag} {mg : Str → Option Value} {base : Heap}
abbrev nPrice : List Str := ["graph", "tables", "nodes", "row", "some", "total", "node", "part", "own", "price"]
theorem scPrice : FnScope nPrice ["graph", "tables", "nodes", "row"] (defScope (topS 27)) := ⟨rfl, rfl, rfl, by decide +kernel, rfl, by decide +kernel, by decide +kernel⟩
def RPrice : List PyData → PyData → Prop := fun ds d => ∃ g ts row, GrOk g ∧ TsOk g ts ∧ accAll g ts row = true ∧ ds = [eG g, eTs ts, nodesD g.sc.length, eR row] ∧ d = .int (priceTo g ts row g.sc.length)
theorem df_price_of (T : Fd K mg "price_of" ["graph", "tables", "nodes", "row"] (topS 27)) (M : Nm mg) (D1 : DfN P w K mg base "scope_of" ["graph", "nodes"] 1 RScopeOf) (D2 : Df P w K mg base "cut_to" ["row", "some", "kept"] 1 RCut) :
    Df P w K mg base "price_of" ["graph", "tables", "nodes", "row"] 2 RPrice := by
  refine Df.of T scPrice (by rintro _ _ ⟨_, _, _, _, _, _, rfl, _⟩; rfl) ?_
  rintro f cdv A outer s' H E hr ds d ⟨g, ts, row, hg, ht, ha, rfl, rfl⟩
  have hvl := vars_len hg
  refine gb_cons (gs_set (i := 4) (GE.v (GN.ge (gn_call D1 hr ⟨g, hg, rfl, rfl⟩ (a_cons (gv 0) (a_cons (gv 2) a_nil))))) scPrice.nd rfl (Or.inl rfl))
    (gb_cons (gs_set (i := 5) (GE.v g_int) scPrice.nd rfl (Or.inl rfl))
    (gb_cons (gs_for1 (i := 6) (items := rngD 0 g.sc.length) (fun j => [.im (eG g), .im (eTs ts), .im (nodesD g.sc.length), .im (eR row), .im (eR (vars g.sc)), .im (.int (priceTo g ts row j)), .no, .no, .no, .no]) PassesOwn.never rfl (gi_list (gv 2)) (Wk.refl _) (pg_name (i := 6) scPrice.nd rfl (Or.inl rfl)) (fun _ => ltb rfl) (fun j d hd => ?_))
    (gb_one (gs_ret (GE.to (gv 5) ?_)))))
  · obtain ⟨hj, rfl⟩ := rng_get hd
    have hj2 : j < ts.length := by rw [ht.len]; exact hj
    have e1 : partAt g row j = partOf (vars g.sc) row g.sc[j] := by
      unfold partAt
      rw [getD_at hj]
    have hacc : accAt g ts row j = true := List.all_eq_true.mp ha j (List.mem_range.mpr hj)
    have hne : ∃ c r, ((ts[j]).filter fun p => decide (p.1 = partAt g row j)).map (·.2) = c :: r := by
      unfold accAt at hacc
      rw [getD_at hj2] at hacc
      obtain ⟨p, hp, hpe⟩ := List.any_eq_true.mp hacc
      have hm : p ∈ (ts[j]).filter fun p => decide (p.1 = partAt g row j) := List.mem_filter.mpr ⟨hp, hpe⟩
      cases q : (ts[j]).filter fun p => decide (p.1 = partAt g row j) with
      | nil => rw [q] at hm; cases hm
      | cons x r => exact ⟨x.2, r.map (·.2), rfl⟩
    obtain ⟨c, r, hcr⟩ := hne
    have hpr : priceAt g ts row j = c := by
      unfold priceAt
      rw [getD_at hj2, hcr]
      rfl
    refine ⟨_, gb_cons (gs_set (i := 7) (GE.v (g_call D2 hr ⟨row, vars g.sc, g.sc[j], by omega, rfl, rfl⟩ (a_cons (gv 3) (a_cons (gv 4) (a_cons (g_ixT (atI_rows (Int.zero_add _) hj) (g_ixT atI1 (gv 0 (d := gD g)) g_int) (gv 6)) a_nil))))) scPrice.nd rfl (Or.inr rfl))
      (gb_one (gs_set (i := 5) (GE.v (g_op op_add rd_add (gv 5) (g_ixL (d := .int c) atI0 (GEL.ge (GEL.to (gel_lc2 (i := 8) (j := 9) (items := (ts[j]).map fun p => (eR p.1, PyData.int p.2)) (eqPart (partOf (vars g.sc) row g.sc[j])) (fun _ b => b) rfl scPrice.nd
        (GI.to (gi_tup (g_ixT (atI_rows (f := eT) (Int.zero_add _) hj2) (gv 1 (d := .tuple (ts.map eT))) (gv 6))) (by rw [List.map_map]; rfl))
        (blkOk_by (own := [("own", 8), ("price", 9)]) (N := nPrice) (sc := defScope (topS 27)) (by decide +kernel)) (by decide) (by decide) (ltb rfl) (ltb rfl) (by rw [List.length_map]; have := tbl_len ht hj hj2; omega)
        (fun _ _ _ _ _ => pg_tup rfl (pgs_cons (pg_name (i := 8) scPrice.nd rfl (Or.inl rfl)) (pgs_cons (pg_name (i := 9) scPrice.nd rfl (Or.inl rfl)) pgs_nil)))
        (fun d hd s0 H0 C cl fp => by
          obtain ⟨p, hp, rfl⟩ := List.mem_map.mp hd
          exact ⟨gts_one (t_cmp (op_eqD hr.units) (rd_eqD (shaped_eR _) (shaped_eR _)) (gv 8) (gv 7) (nomark _)), fun _ => gv 9⟩)) (ds' := PyData.int c :: r.map PyData.int) (by rw [price_list, ← e1, hcr]; rfl))) g_int))) scPrice.nd rfl (Or.inl rfl))), ?_⟩
    rw [priceTo_succ, hpr]
    exact wk_eq (wk_eq (wk_eq (wk_eq (wk_eq (wk_eq (wk_no (wk_no (wk_eq (wk_eq wk_nil)))))))))
  · rw [rngD_length]
abbrev nBy : List Str := ["graph", "tables", "nodes", "found", "row"]
theorem scBy : FnScope nBy ["graph", "tables", "nodes"] (defScope (topS 28)) := ⟨rfl, rfl, rfl, by decide +kernel, rfl, by decide +kernel, by decide +kernel⟩
def RBy : List PyData → PyData → Prop := fun ds d => ∃ g ts, GrOk g ∧ TsOk g ts ∧ ds = [eG g, eTs ts, nodesD g.sc.length] ∧ d = eSols (sols g ts)
def solsTo (g : Gr) (ts : List Tbl) (j : Nat) : List (List Int × Int) := (((rowsOf g.v.toNat (vars g.sc).length).take j).filter (accAll g ts)).map fun r => (r, priceTo g ts r g.sc.length)
theorem df_solutions_by (T : Fd K mg "solutions_by" ["graph", "tables", "nodes"] (topS 28)) (M : Nm mg) (D1 : DfN P w K mg base "scope_of" ["graph", "nodes"] 1 RScopeOf) (D2 : Df P w K mg base "rows_of" ["values", "many"] 1 RRowsOf)
    (D3 : Df P w K mg base "first_rejecting" ["graph", "tables", "nodes", "row"] 2 RFirst) (D4 : Df P w K mg base "price_of" ["graph", "tables", "nodes", "row"] 2 RPrice) : Df P w K mg base "solutions_by" ["graph", "tables", "nodes"] 3 RBy := by
  refine Df.of T scBy (by rintro _ _ ⟨_, _, _, _, rfl, _⟩; rfl) ?_
  rintro f cdv A outer s' H E hr ds d ⟨g, ts, hg, ht, rfl, rfl⟩
  have hvl := vars_len hg
  have hv : g.v.toNat ≤ 3 := by have := hg.v3; omega
  have hvI : ((g.v.toNat : Nat) : Int) = g.v := Int.toNat_of_nonneg (by have := hg.v2; omega)
  have hlen : (rowsOf g.v.toNat (vars g.sc).length).length ≤ 729 := rowsOf_le hv hvl
  refine gb_cons (gs_setL (i := 3) (GEL.v (gl_lst a_nil)) scBy.nd rfl (Or.inl rfl))
    (gb_cons (gs_for1 (i := 4) (items := (rowsOf g.v.toNat (vars g.sc).length).map eR) (fun j => [.im (eG g), .im (eTs ts), .im (nodesD g.sc.length), .ow ((solsTo g ts j).map eP), .no]) PassesOwn.never rfl
      (gi_list (g_call D2 (hr.mono (by decide)) ⟨g.v.toNat, (vars g.sc).length, hv, hvl, by rw [hvI, List.length_map], rfl⟩ (a_cons (g_ixT atI0 (gv 0 (d := gD g)) g_int) (a_cons (g_len M.len (GN.ge (gn_call D1 (hr.mono (by decide)) ⟨g, hg, rfl, rfl⟩ (a_cons (gv 0) (a_cons (gv 2) a_nil))))) a_nil)))) (Wk.refl _) (pg_name (i := 4) scBy.nd rfl (Or.inl rfl)) (fun _ => ltb rfl) (fun j d hd => ?_))
    (gb_one (gs_ret (GE.to (gv 3) ?_))))
  · obtain ⟨row, hrow, rfl⟩ : ∃ row, (rowsOf g.v.toNat (vars g.sc).length)[j]? = some row ∧ d = eR row := by
      rw [List.getElem?_map] at hd
      obtain ⟨row, h1, h2⟩ := Option.map_eq_some_iff.mp hd
      exact ⟨row, h1, h2.symm⟩
    have hj := (List.getElem?_eq_some_iff.mp hrow).1
    have hsl : (solsTo g ts j).length ≤ 729 := by
      unfold solsTo
      rw [List.length_map]
      refine Nat.le_trans (List.length_filter_le _ _) ?_
      rw [List.length_take]
      omega
    cases hacc : accAll g ts row with
    | true =>
      refine ⟨_, gb_one (gs_ifT (GT.to (t_cmp op_isN rd_isN (g_call D3 hr ⟨g, ts, row, hg, ht, rfl, .inl ⟨rfl, fun i hi => List.all_eq_true.mp hacc i (List.mem_range.mpr hi)⟩⟩ (a_cons (gv 0) (a_cons (gv 1) (a_cons (gv 2) (a_cons (gv 4) a_nil))))) g_non (nomark _)) rfl)
        (gb_one (gs_app (i := 3) rfl (GE.v (g_tup (a_cons (gv 4) (a_cons (g_call D4 hr ⟨g, ts, row, hg, ht, hacc, rfl, rfl⟩ (a_cons (gv 0) (a_cons (gv 1) (a_cons (gv 2) (a_cons (gv 4) a_nil))))) a_nil)))) (by rw [List.length_map]; omega) rfl))), ?_⟩
      have e : (solsTo g ts (j + 1)).map eP = (solsTo g ts j).map eP ++ [.tuple [eR row, .int (priceTo g ts row g.sc.length)]] := by
        unfold solsTo
        rw [take_snoc hrow, List.filter_append, List.map_append, List.map_append, List.filter_cons, if_pos hacc]
        rfl
      rw [e]
      exact wk_eq (wk_eq (wk_eq (wk_eq (wk_no wk_nil))))
    | false =>
      obtain ⟨m, hm, hm2, hm3⟩ : ∃ m, m < g.sc.length ∧ accAt g ts row m = false ∧ ∀ j, j < m → accAt g ts row j = true := by
        rcases first_bad (accAt g ts row) g.sc.length with h | h
        · have : accAll g ts row = true := List.all_eq_true.mpr fun i hi => h i (List.mem_range.mp hi)
          rw [hacc] at this
          cases this
        · exact h
      refine ⟨_, gb_one (gs_ifF (GT.to (t_cmp op_isN rd_isN (g_call D3 hr ⟨g, ts, row, hg, ht, rfl, .inr ⟨m, hm, rfl, hm2, hm3⟩⟩ (a_cons (gv 0) (a_cons (gv 1) (a_cons (gv 2) (a_cons (gv 4) a_nil))))) g_non (nomark _)) rfl) gb_nil), ?_⟩
      have e : solsTo g ts (j + 1) = solsTo g ts j := by
        unfold solsTo
        rw [take_snoc hrow, List.filter_append, List.filter_cons, if_neg (by rw [hacc]; decide)]
        show List.map _ (_ ++ []) = _
        rw [List.append_nil]
      rw [e]
      exact wk_eq (wk_eq (wk_eq (wk_eq (wk_no wk_nil))))
  · unfold eSols solsTo sols
    rw [List.length_map, List.take_length]
abbrev nOf : List Str := ["graph", "tables"]
theorem scOf : FnScope nOf nOf (defScope (topS 29)) := ⟨rfl, rfl, rfl, by decide +kernel, rfl, by decide +kernel, by decide +kernel⟩
def ROf : List PyData → PyData → Prop := fun ds d => ∃ g ts, GrOk g ∧ TsOk g ts ∧ ds = [eG g, eTs ts] ∧ d = eSols (sols g ts)
theorem df_solutions_of (T : Fd K mg "solutions_of" nOf (topS 29)) (M : Nm mg) (D1 : Df P w K mg base "solutions_by" ["graph", "tables", "nodes"] 3 RBy) : Df P w K mg base "solutions_of" nOf 4 ROf := by
  refine Df.of T scOf (by rintro _ _ ⟨_, _, _, _, rfl, _⟩; rfl) ?_
  rintro f cdv A outer s' H E hr ds d ⟨g, ts, hg, ht, rfl, rfl⟩
  exact gb_one (gs_ret (g_call D1 hr ⟨g, ts, hg, ht, rfl, rfl⟩ (a_cons (gv 0) (a_cons (gv 1) (a_cons (g_nodes rfl M hg (gv 0)) a_nil)))))
end
end TT
namespace TT
open PySem PySem.Spec PyProof.Rows L2
/-! ### mirrors -/
def hav (g : Gr) (ts : List Tbl) (x v : Int) : List (List Int × Int) := (sols g ts).filter fun p => decide (p.1.getD ((vars g.sc).idxOf x) 0 = v)
def minL : List Int → Int
  | [] => 0
  | [x] => x
  | x :: y :: r => if x ≤ minL (y :: r) then x else minL (y :: r)
theorem minL_mem : ∀ {l : List Int}, l ≠ [] → minL l ∈ l
  | [], h => absurd rfl h
  | [x], _ => by simp [minL]
  | x :: y :: r, _ => by
    have ih := minL_mem (l := y :: r) (by simp)
    show (if x ≤ minL (y :: r) then x else minL (y :: r)) ∈ _
    split
    · exact List.mem_cons_self ..
    · exact List.mem_cons_of_mem _ ih
theorem minL_le : ∀ {l : List Int} {z : Int}, z ∈ l → minL l ≤ z
  | [], _, h => absurd h (by simp)
  | [x], z, h => by
    rw [List.mem_singleton.mp h]
    exact Int.le_refl _
  | x :: y :: r, z, h => by
    have ih : ∀ z ∈ y :: r, minL (y :: r) ≤ z := fun z hz => minL_le hz
    show (if x ≤ minL (y :: r) then x else minL (y :: r)) ≤ z
    rcases List.mem_cons.mp h with e | h
    · split <;> omega
    · have := ih z h
      split <;> omega
def eWhat (l : List (List Int × Int)) : PyData := if l = [] then .none else .tuple [.int (l.length : Int), .int (minL (l.map (·.2)))]
def eq1 (p : Int × Int) : PyData := .tuple [.int p.1, .int p.2]
def shared (rows : List (List Int)) (some : List Int) : List (Int × Int) := ((List.range some.length).filter fun k => rows.all fun r => decide (r.getD k 0 = (rows.getD 0 []).getD k 0)).map fun k => (some.getD k 0, (rows.getD 0 []).getD k 0)
def eSh (l : List (Int × Int)) : PyData := .tuple (l.map eq1)
theorem rows_ix {rows : List (List Int)} {n : Nat} (h : ∀ r ∈ rows, r.length = n) {k : Nat} (hk : k < n) {r : List Int} (hr : r ∈ rows) {z : Int} (e : z = (k : Int)) : atI (r.map PyData.int) z = some (.int (r.getD k 0)) := by
  have h1 : k < r.length := by rw [h r hr]; exact hk
  rw [getD_at h1]
  exact atI_ints e h1
section
variable {P : Program} {w : World} {K : PySem.W.Frag} {mg : Str → Option Value} {base : Heap}
abbrev nCV : List Str := ["graph", "tables", "variable"]
theorem scCV : FnScope nCV nCV (defScope (topS 31)) := ⟨rfl, rfl, rfl, by decide +kernel, rfl, by decide +kernel, by decide +kernel⟩
def RCV : List PyData → Prop := fun ds => ∃ g ts x, GrOk g ∧ TsOk g ts ∧ x ∈ vars g.sc ∧ ds = [eG g, eTs ts, .int x]
theorem df_check_variable (T : Fd K mg "check_variable" nCV (topS 31)) (M : Nm mg) (D1 : Df P w K mg base "check_tables" nCheckT 6 (RNone RGT)) (D2 : Df P w K mg base "is_whole" nWhole 1 RWhole) (D3 : DfN P w K mg base "variables_of" ["graph"] 2 RVarsOf) : Df P w K mg base "check_variable" nCV 7 (RNone RCV) := by
  refine Df.ofN T scCV (by rintro _ ⟨_, _, _, _, _, _, rfl⟩; rfl) ?_
  rintro f cdv A outer s' H E hr ds ⟨g, ts, x, hg, ht, hx, rfl⟩
  refine ⟨_, gb_cons (gs_expr (g_call D1 hr ⟨⟨g, ts, hg, ht, rfl⟩, rfl⟩ (a_cons (gv 0) (a_cons (gv 1) a_nil))))
    (gb_one (gs_ifF (GT.to (t_w (w_or (t_not (t_val (k := true) (g_call D2 (hr.mono (by decide)) ⟨x, 0, 5, rfl, ?_⟩ (a_cons (gv 2) (a_cons g_int (a_cons g_int a_nil)))))) fun _ => w_or1 (t_cmp op_notIn_seq rd_niT (gv 2) (GN.ge (gn_call D3 (hr.mono (by decide)) ⟨g, hg, rfl, rfl⟩ (a_cons (gv 0) a_nil))) (by with_unfolding_all rfl)))) ?_) gb_nil))⟩
  · rw [decide_eq_true (vars_rng hg hx).1, decide_eq_true (vars_rng hg hx).2]
    rfl
  · rw [decide_eq_true hx]
    rfl
abbrev nCQ : List Str := ["graph", "tables", "variable", "value"]
theorem scCQ : FnScope nCQ nCQ (defScope (topS 32)) := ⟨rfl, rfl, rfl, by decide +kernel, rfl, by decide +kernel, by decide +kernel⟩
structure QOk (g : Gr) (ts : List Tbl) (x v : Int) : Prop where
  gg : GrOk g
  tt : TsOk g ts
  xx : x ∈ vars g.sc
  v0 : 0 ≤ v
  v1 : v ≤ g.v - 1
def RCQ : List PyData → Prop := fun ds => ∃ g ts x v, QOk g ts x v ∧ ds = [eG g, eTs ts, .int x, .int v]
theorem df_check_question (T : Fd K mg "check_question" nCQ (topS 32)) (M : Nm mg) (D1 : Df P w K mg base "check_variable" nCV 7 (RNone RCV)) (D2 : Df P w K mg base "is_whole" nWhole 1 RWhole) : Df P w K mg base "check_question" nCQ 8 (RNone RCQ) := by
  refine Df.ofN T scCQ (by rintro _ ⟨_, _, _, _, _, rfl⟩; rfl) ?_
  rintro f cdv A outer s' H E hr ds ⟨g, ts, x, v, hq, rfl⟩
  refine ⟨_, gb_cons (gs_expr (g_call D1 hr ⟨⟨g, ts, x, hq.gg, hq.tt, hq.xx, rfl⟩, rfl⟩ (a_cons (gv 0) (a_cons (gv 1) (a_cons (gv 2) a_nil)))))
    (gb_one (gs_ifF (GT.to (t_not (t_val (k := true) (g_call D2 (hr.mono (by decide)) ⟨v, 0, g.v - 1, rfl, ?_⟩ (a_cons (gv 3) (a_cons g_int (a_cons (g_op op_sub rd_sub (g_ixT atI0 (gv 0 (d := gD g)) g_int) g_int) a_nil)))))) rfl) gb_nil))⟩
  rw [decide_eq_true hq.v0, decide_eq_true hq.v1]
  rfl
abbrev nHav : List Str := ["graph", "tables", "variable", "value", "at", "row", "cost"]
theorem scHav : FnScope nHav ["graph", "tables", "variable", "value"] (defScope (topS 33)) := ⟨rfl, rfl, rfl, by decide +kernel, rfl, by decide +kernel, by decide +kernel⟩
def RHav : List PyData → PyData → Prop := fun ds d => ∃ g ts x v, QOk g ts x v ∧ ds = [eG g, eTs ts, .int x, .int v] ∧ d = eSols (hav g ts x v)
theorem df_having (T : Fd K mg "having" ["graph", "tables", "variable", "value"] (topS 33)) (M : Nm mg) (D1 : DfN P w K mg base "variables_of" ["graph"] 2 RVarsOf) (D2 : Df P w K mg base "solutions_of" nOf 4 ROf) : Df P w K mg base "having" ["graph", "tables", "variable", "value"] 5 RHav := by
  refine Df.of T scHav (by rintro _ _ ⟨_, _, _, _, _, rfl, _⟩; rfl) ?_
  rintro f cdv A outer s' H E hr ds d ⟨g, ts, x, v, hq, rfl, rfl⟩
  have hn : (vars g.sc).idxOf x < (vars g.sc).length := List.idxOf_lt_length_iff.mpr hq.xx
  refine gb_cons (gs_set (i := 4) (GE.v (g_index hq.xx (gn_call D1 (hr.mono (by decide)) ⟨g, hq.gg, rfl, rfl⟩ (a_cons (gv 0) a_nil)) (gv 2))) scHav.nd rfl (Or.inr rfl))
    (gb_one (gs_ret (GE.to (GEL.ge (gel_lc2 (i := 5) (j := 6) (items := (sols g ts).map fun p => (eR p.1, PyData.int p.2)) (fun a _ => match a with | .tuple r => (match r.getD ((vars g.sc).idxOf x) .none with | .int z => decide (z = v) | _ => false) | _ => false) (fun a b => .tuple [a, b]) rfl scHav.nd
      (GI.to (gi_list (g_call D2 hr ⟨g, ts, hq.gg, hq.tt, rfl, rfl⟩ (a_cons (gv 0) (a_cons (gv 1) a_nil)))) (by rw [List.map_map]; rfl))
      (blkOk_by (own := [("row", 5), ("cost", 6)]) (N := nHav) (sc := defScope (topS 33)) (by decide +kernel)) (by decide) (by decide) (ltb rfl) (ltb rfl) (by rw [List.length_map]; have := sols_len (ts := ts) hq.gg; omega)
      (fun _ _ _ _ _ => pg_tup rfl (pgs_cons (pg_name (i := 5) scHav.nd rfl (Or.inl rfl)) (pgs_cons (pg_name (i := 6) scHav.nd rfl (Or.inl rfl)) pgs_nil))) (fun d hd s0 H0 C cl fp => ?_))) ?_)))
  · obtain ⟨p, hp, rfl⟩ := List.mem_map.mp hd
    have hl : (vars g.sc).idxOf x < p.1.length := by rw [sols_row hp]; exact hn
    refine ⟨gts_one (GT.to (t_cmp op_eq rd_eqI (g_ixT (atI_ints rfl hl) (gv 5) (gv 4)) (gv 3) (nomark _)) ?_), fun _ => g_tup (a_cons (gv 5) (a_cons (gv 6) a_nil))⟩
    have e : (p.1.map PyData.int).getD ((vars g.sc).idxOf x) .none = .int p.1[(vars g.sc).idxOf x] := by
      rw [List.getD_eq_getElem?_getD, List.getElem?_map, List.getElem?_eq_getElem hl]
      rfl
    show _ = (match (p.1.map PyData.int).getD ((vars g.sc).idxOf x) .none with | .int z => decide (z = v) | _ => false)
    rw [e]
  · unfold eSols hav
    rw [List.filter_map, List.map_map]
    congr 1
    have e : ∀ p ∈ sols g ts, ((fun d : PyData × PyData => match d.1 with | .tuple r => (match r.getD ((vars g.sc).idxOf x) .none with | .int z => decide (z = v) | _ => false) | _ => false) ∘ fun p : List Int × Int => (eR p.1, PyData.int p.2)) p = decide (p.1.getD ((vars g.sc).idxOf x) 0 = v) := by
      intro p hp
      have hl : (vars g.sc).idxOf x < p.1.length := by rw [sols_row hp]; exact hn
      show (match (p.1.map PyData.int).getD ((vars g.sc).idxOf x) .none with | .int z => decide (z = v) | _ => false) = _
      have e : (p.1.map PyData.int).getD ((vars g.sc).idxOf x) .none = .int p.1[(vars g.sc).idxOf x] := by
        rw [List.getD_eq_getElem?_getD, List.getElem?_map, List.getElem?_eq_getElem hl]
        rfl
      rw [e, getD_at hl]
    rw [List.filter_congr e]
    rfl
abbrev nWhat : List Str := ["graph", "tables", "variable", "value", "found", "row", "cost"]
theorem scWhat : FnScope nWhat ["graph", "tables", "variable", "value"] (defScope (topS 34)) := ⟨rfl, rfl, rfl, by decide +kernel, rfl, by decide +kernel, by decide +kernel⟩
def RWhat : List PyData → PyData → Prop := fun ds d => ∃ g ts x v, QOk g ts x v ∧ ds = [eG g, eTs ts, .int x, .int v] ∧ d = eWhat (hav g ts x v)
theorem hav_len {g : Gr} {ts : List Tbl} {x v : Int} (hg : GrOk g) : (hav g ts x v).length ≤ 729 := Nat.le_trans (List.length_filter_le _ _) (sols_len hg)
theorem g_min {X : Cx} {ρ : Rho} {e : Expr} {ns : List Int} {pos p : Pos} (hc : X.calm = true) (hm : X.mg "min" = none) (hne : ns ≠ []) (h : GE X e ρ (.list (ns.map PyData.int))) (hg : Gl X "min" := by rfl)
    (he : starEach (e :: []) X.env = (false, eval e X.env) :: starEach [] X.env := by rfl) (hpl : (backTo pos (starEach [] X.env)).any (·.1) = false := by rfl) : GE X (.Call (.Name "min" p) [e] [] pos) ρ (.int (minL ns)) :=
  g_callB (cr_min hc) (rd_min (minL_mem hne) fun y hy => minL_le hy) hm boot_min (a_cons h a_nil he) hg (by decide) (by decide) he hpl
theorem df_what_if (T : Fd K mg "what_if" ["graph", "tables", "variable", "value"] (topS 34)) (M : Nm mg) (D1 : Df P w K mg base "check_question" nCQ 8 (RNone RCQ)) (D2 : Df P w K mg base "having" ["graph", "tables", "variable", "value"] 5 RHav) : Df P w K mg base "what_if" ["graph", "tables", "variable", "value"] 9 RWhat := by
  refine Df.of T scWhat (by rintro _ _ ⟨_, _, _, _, _, rfl, _⟩; rfl) ?_
  rintro f cdv A outer s' H E hr ds d ⟨g, ts, x, v, hq, rfl, rfl⟩
  refine gb_cons (gs_expr (g_call D1 hr ⟨⟨g, ts, x, v, hq, rfl⟩, rfl⟩ (a_cons (gv 0) (a_cons (gv 1) (a_cons (gv 2) (a_cons (gv 3) a_nil))))))
    (gb_cons (gs_set (i := 4) (GE.v (g_call D2 (hr.mono (by decide)) ⟨g, ts, x, v, hq, rfl, rfl⟩ (a_cons (gv 0) (a_cons (gv 1) (a_cons (gv 2) (a_cons (gv 3) a_nil)))))) scWhat.nd rfl (Or.inl rfl)) ?_)
  by_cases hne : hav g ts x v = []
  · refine gb_one (gs_ret (GE.to (g_ifF (GT.to (t_cmp op_gt rd_gt (g_lenL M.len (gv 4 (d := .list ((hav g ts x v).map eP)))) g_int (nomark _)) ?_) g_non) ?_))
    · rw [hne]
      rfl
    · unfold eWhat
      rw [if_pos hne]
  · refine gb_one (gs_ret (GE.to (g_ifT (GT.to (t_cmp op_gt rd_gt (g_lenL M.len (gv 4 (d := .list ((hav g ts x v).map eP)))) g_int (nomark _)) ?_)
      (g_tup (a_cons (g_lenL M.len (gv 4 (d := .list ((hav g ts x v).map eP)))) (a_cons (g_min (ns := (hav g ts x v).map (·.2)) rfl M.min ?_ (GEL.ge (GEL.to (gel_m2 (i := 5) (j := 6) (items := (hav g ts x v).map fun p => (eR p.1, PyData.int p.2)) (fun _ b => b) rfl scWhat.nd
        (GI.to (gi_list (gv 4 (d := .list ((hav g ts x v).map eP)))) (by rw [List.map_map]; rfl))
        (blkOk_by (own := [("row", 5), ("cost", 6)]) (N := nWhat) (sc := defScope (topS 34)) (by decide +kernel)) (by rw [List.length_map]; have := hav_len (ts := ts) (x := x) (v := v) hq.gg; omega)
        (fun _ _ _ _ _ => pg_tup rfl (pgs_cons (pg_name (i := 5) scWhat.nd rfl (Or.inl rfl)) (pgs_cons (pg_name (i := 6) scWhat.nd rfl (Or.inl rfl)) pgs_nil))) (fun d hd s0 H0 C cl fp => gv 6)) ?_))) a_nil)))) ?_))
    · rw [List.length_map]
      have : 0 < (hav g ts x v).length := List.length_pos_iff.mpr hne
      exact decide_eq_true (by omega)
    · intro e
      exact hne (List.map_eq_nil_iff.mp e)
    · rw [List.map_map, List.map_map]
      rfl
    · unfold eWhat
      rw [if_neg hne, List.length_map]
abbrev nShared : List Str := ["rows", "some", "found", "at", "variable", "row"]
theorem scShared : FnScope nShared ["rows", "some"] (defScope (topS 35)) := ⟨rfl, rfl, rfl, by decide +kernel, rfl, by decide +kernel, by decide +kernel⟩
def RShared : List PyData → PyData → Prop := fun ds d => ∃ (rows : List (List Int)) (some : List Int), rows ≠ [] ∧ (∀ r ∈ rows, r.length = some.length) ∧ some.length ≤ 1000 ∧ rows.length ≤ 1000 ∧ ds = [.list (rows.map eR), eR some] ∧ d = eSh (shared rows some)
def sharedTo (rows : List (List Int)) (some : List Int) (j : Nat) : List (Int × Int) := ((List.range j).filter fun k => rows.all fun r => decide (r.getD k 0 = (rows.getD 0 []).getD k 0)).map fun k => (some.getD k 0, (rows.getD 0 []).getD k 0)
theorem enumD_ints (some : List Int) : enumD (some.map PyData.int) = ((List.range some.length).map fun (i : Nat) => (PyData.int (i : Int), PyData.int (some.getD i 0))).map fun p => PyData.tuple [p.1, p.2] := by
  unfold enumD
  rw [List.length_map, List.map_map]
  refine List.map_congr_left fun i hi => ?_
  have h := List.mem_range.mp hi
  show PyData.tuple [.int (i : Int), (some.map PyData.int).getD i .none] = PyData.tuple [.int (i : Int), .int (some.getD i 0)]
  rw [getD_at h, List.getD_eq_getElem?_getD, List.getElem?_map, List.getElem?_eq_getElem h]
  rfl
theorem df_shared_values (T : Fd K mg "shared_values" ["rows", "some"] (topS 35)) (M : Nm mg) : Df P w K mg base "shared_values" ["rows", "some"] 1 RShared := by
  refine Df.of T scShared (by rintro _ _ ⟨_, _, _, _, _, _, rfl, _⟩; rfl) ?_
  rintro f cdv A outer s' H E hr ds d ⟨rows, some, hne, hrow, hs, hrl, rfl, rfl⟩
  obtain ⟨r0, rs, e0⟩ : ∃ r0 rs, rows = r0 :: rs := by
    cases rows with
    | nil => exact absurd rfl hne
    | cons a b => exact ⟨a, b, rfl⟩
  have hr0 : r0 ∈ rows := by rw [e0]; exact List.mem_cons_self ..
  have hg0 : rows.getD 0 [] = r0 := by rw [e0]; rfl
  have at0 : atI (rows.map eR) 0 = Option.some (eR r0) := by rw [e0]; exact atI0
  refine gb_cons (gs_setL (i := 2) (GEL.v (gl_lst a_nil)) scShared.nd rfl (Or.inl rfl))
    (gb_cons (gs_for2 (i := 3) (j := 4) (items := (List.range some.length).map fun (i : Nat) => (PyData.int (i : Int), PyData.int (some.getD i 0))) (fun j => [.im (.list (rows.map eR)), .im (eR some), .ow ((sharedTo rows some j).map eq1), .no, .no, .no]) PassesOwn.never rfl
      (GI.to (gi_enum M.enum (gv 1)) (enumD_ints some)) (Wk.refl _) (pg_tup rfl (pgs_cons (pg_name (i := 3) scShared.nd rfl (Or.inr rfl)) (pgs_cons (pg_name (i := 4) scShared.nd rfl (Or.inl rfl)) pgs_nil))) (fun _ => ltb rfl) (fun _ => ltb rfl) (fun k d hd => ?_))
    (gb_one (gs_ret (GE.to (g_tupOf M.tuple (gv 2)) ?_))))
  · obtain ⟨hk, rfl⟩ : k < some.length ∧ d = (PyData.int (k : Int), PyData.int (some.getD k 0)) := by
      have h1 := (List.getElem?_eq_some_iff.mp hd).1
      rw [List.length_map, List.length_range] at h1
      rw [List.getElem?_map, List.getElem?_range h1] at hd
      exact ⟨h1, (Option.some.inj hd).symm⟩
    have hlen : (sharedTo rows some k).length ≤ k := by
      unfold sharedTo
      rw [List.length_map]
      exact Nat.le_trans (List.length_filter_le _ _) (by rw [List.length_range]; exact Nat.le_refl _)
    have htest : ∀ b, (rows.all fun r => decide (r.getD k 0 = (rows.getD 0 []).getD k 0)) = b → GT (cxOf CX0 P w K mg base nShared "shared_values" (defScope (topS 35)) f cdv A outer s' H E).nox (ifTest (nth (forBody (nth (defBody (topS 35)) 1)) 0))
        (dat [.im (.list (rows.map eR)), .im (eR some), .ow ((sharedTo rows some k).map eq1), .im (.int (k : Int)), .im (.int (some.getD k 0)), .no]) b := fun b hb =>
      t_val (GE.to (g_allB (items := rows) (b := fun r => decide (r.getD k 0 = r0.getD k 0)) rfl M.all (GEL.to (gel_m1 (i := 5) (fun d => match d with | .tuple r => (match r.getD k .none with | .int z => .bool (decide (z = r0.getD k 0)) | _ => .none) | _ => .none) rfl scShared.nd (gi_list (gv 0))
        (blkOk_by (own := [("row", 5)]) (N := nShared) (sc := defScope (topS 35)) (by decide +kernel)) (by rw [List.length_map]; omega) (fun _ _ _ _ _ => pg_name (i := 5) scShared.nd rfl (Or.inl rfl)) (fun d hd s0 H0 C cl fp => by
          obtain ⟨r, hr1, rfl⟩ := List.mem_map.mp hd
          refine GE.to (g_cmp op_eq rd_eqI (g_ixT (rows_ix hrow hk hr1 rfl) (gv 5) (gv 3)) (g_ixT (rows_ix hrow hk hr0 rfl) (g_ixL at0 (gv 0) g_int) (gv 3)) (nomark _)) ?_
          have hl : k < r.length := by rw [hrow r hr1]; exact hk
          show _ = (match (r.map PyData.int).getD k .none with | .int z => PyData.bool (decide (z = r0.getD k 0)) | _ => .none)
          rw [List.getD_eq_getElem?_getD (l := r.map PyData.int), List.getElem?_map, List.getElem?_eq_getElem hl, getD_at hl]
          rfl)) (by
            rw [List.map_map]
            refine List.map_congr_left fun r hr1 => ?_
            have hl : k < r.length := by rw [hrow r hr1]; exact hk
            show (match (r.map PyData.int).getD k .none with | .int z => PyData.bool (decide (z = r0.getD k 0)) | _ => .none) = _
            rw [List.getD_eq_getElem?_getD (l := r.map PyData.int), List.getElem?_map, List.getElem?_eq_getElem hl, getD_at hl]
            rfl))) (by rw [← hb, hg0]))
    have hsucc : sharedTo rows some (k + 1) = sharedTo rows some k ++ (if (rows.all fun r => decide (r.getD k 0 = (rows.getD 0 []).getD k 0)) = true then [(some.getD k 0, r0.getD k 0)] else []) := by
      unfold sharedTo
      rw [List.range_succ, List.filter_append, List.map_append, List.filter_cons]
      split
      · rw [hg0]; rfl
      · rfl
    cases hb : rows.all fun r => decide (r.getD k 0 = (rows.getD 0 []).getD k 0) with
    | true =>
      refine ⟨_, gb_one (gs_ifT (htest true hb) (gb_one (gs_app (i := 2) rfl (GE.v (g_tup (a_cons (gv 4) (a_cons (g_ixT (rows_ix hrow hk hr0 rfl) (g_ixL at0 (gv 0) g_int) (gv 3)) a_nil)))) (by rw [List.length_map]; omega) rfl))), ?_⟩
      rw [hb] at hsucc
      rw [hsucc, List.map_append]
      exact wk_eq (wk_eq (wk_eq (wk_no (wk_no (wk_eq wk_nil)))))
    | false =>
      refine ⟨_, gb_one (gs_ifF (htest false hb) gb_nil), ?_⟩
      rw [hb] at hsucc
      rw [hsucc, if_neg Bool.false_ne_true, List.append_nil]
      exact wk_eq (wk_eq (wk_eq (wk_no (wk_no (wk_eq wk_nil)))))
  · rw [List.length_map, List.length_range]
    rfl
end
end TT
namespace TT
open PySem PySem.Spec PyProof.Rows L2
theorem units65 {k : Nat} {A : Around} (r : Room k A) : A.units + 65 < cLine := by
  have := r.un
  omega
/-! ### mirrors -/
def havR (g : Gr) (ts : List Tbl) (x v : Int) : List (List Int) := (hav g ts x v).map (·.1)
def eImp (g : Gr) (ts : List Tbl) (x v : Int) : PyData := if hav g ts x v = [] then .none else eSh (shared (havR g ts x v) (vars g.sc))
def poss (g : Gr) (ts : List Tbl) (x : Int) : List Int := ((List.range g.v.toNat).filter fun (k : Nat) => decide (0 < (hav g ts x (k : Int)).length)).map fun (k : Nat) => (k : Int)
def others (g : Gr) (ts : List Tbl) (x v : Int) : List (List Int) := ((sols g ts).map (·.1)).filter fun r => !((havR g ts x v).any fun z => decide (z = r))
def word {α β : Type} (as : List α) (bs : List β) : Str := match as, bs with
  | [], _ => "never"
  | _ :: _, [] => "always"
  | _ :: _, _ :: _ => "sometimes"
theorem canLay_rows : ∀ rs : List (List Int), PyData.canLayAll0 (rs.map eR) = true
  | [] => rfl
  | r :: rs => by
    show (PyData.canLay0 (eR r) && PyData.canLayAll0 (rs.map eR)) = true
    rw [canLay_rows rs, Bool.and_true]
    show PyData.canLayAll0 (r.map PyData.int) = true
    exact canLay_ints r
theorem depth_rows : ∀ rs : List (List Int), PyData.depthAll (rs.map eR) ≤ 1
  | [] => Nat.zero_le _
  | r :: rs => by
    have h := depth_rows rs
    have h2 : PyData.depth (eR r) = 1 := by
      show PyData.depthAll (r.map PyData.int) + 1 = 1
      rw [depth_ints]
    show max (PyData.depth (eR r)) (PyData.depthAll (rs.map eR)) ≤ 1
    omega
theorem shaped_rows (rs : List (List Int)) : SeqAt.shaped (.list (rs.map eR)) = true := by
  show (PyData.canLayAll0 (rs.map eR) && decide (PyData.depthAll (rs.map eR) + 1 ≤ 64)) = true
  have h := depth_rows rs
  rw [canLay_rows, decide_eq_true (by omega)]
  rfl
section
variable {P : Program} {w : World} {K : PySem.W.Frag} {mg : Str → Option Value} {base : Heap}
abbrev nQ : List Str := ["graph", "tables", "variable", "value"]
abbrev nImp : List Str := ["graph", "tables", "variable", "value", "rows", "row", "cost"]
theorem scImp : FnScope nImp nQ (defScope (topS 37)) := ⟨rfl, rfl, rfl, by decide +kernel, rfl, by decide +kernel, by decide +kernel⟩
def RImp : List PyData → PyData → Prop := fun ds d => ∃ g ts x v, QOk g ts x v ∧ ds = [eG g, eTs ts, .int x, .int v] ∧ d = eImp g ts x v
theorem havR_row {g : Gr} {ts : List Tbl} {x v : Int} {r : List Int} (h : r ∈ havR g ts x v) : r.length = (vars g.sc).length := by
  obtain ⟨p, hp, rfl⟩ := List.mem_map.mp h
  exact sols_row (List.mem_filter.mp hp).1
theorem df_implied (T : Fd K mg "implied" nQ (topS 37)) (M : Nm mg) (D1 : Df P w K mg base "check_question" nCQ 8 (RNone RCQ)) (D2 : Df P w K mg base "having" nQ 5 RHav) (D3 : Df P w K mg base "shared_values" ["rows", "some"] 1 RShared) (D4 : DfN P w K mg base "variables_of" ["graph"] 2 RVarsOf) : Df P w K mg base "implied" nQ 9 RImp := by
  refine Df.of T scImp (by rintro _ _ ⟨_, _, _, _, _, rfl, _⟩; rfl) ?_
  rintro f cdv A outer s' H E hr ds d ⟨g, ts, x, v, hq, rfl, rfl⟩
  have hl := hav_len (ts := ts) (x := x) (v := v) hq.gg
  refine gb_cons (gs_expr (g_call D1 hr ⟨⟨g, ts, x, v, hq, rfl⟩, rfl⟩ (a_cons (gv 0) (a_cons (gv 1) (a_cons (gv 2) (a_cons (gv 3) a_nil))))))
    (gb_cons (gs_setCi (i := 4) (ds := (havR g ts x v).map eR) (ps_l2 (i := 5) (j := 6) (own := [("row", 5), ("cost", 6)]) rfl scImp.nd rfl rfl (sw_true rfl rfl rfl (by decide +kernel)) (blkOk_by (N := nImp) (sc := defScope (topS 37)) (by decide +kernel))
      (fun _ _ _ _ _ => pg_tup rfl (pgs_cons (pg_name (i := 5) scImp.nd rfl (Or.inl rfl)) (pgs_cons (pg_name (i := 6) scImp.nd rfl (Or.inl rfl)) pgs_nil))))
      (GLC.to (glc_m2 (items := (hav g ts x v).map fun p => (eR p.1, PyData.int p.2)) (fun a _ => a) (GI.to (gi_list (g_call D2 (hr.mono (by decide)) ⟨g, ts, x, v, hq, rfl, rfl⟩ (a_cons (gv 0) (a_cons (gv 1) (a_cons (gv 2) (a_cons (gv 3) a_nil)))))) (by rw [List.map_map]; rfl)) (by rw [List.length_map]; omega) (fun d hd s0 H0 C cl fp => gv 5)) (by unfold havR; rw [List.map_map, List.map_map]; rfl))) ?_)
  by_cases hne : hav g ts x v = []
  · refine gb_one (gs_ret (GE.to (g_ifF (GT.to (t_cmp op_gt rd_gt (g_lenL M.len (gv 4 (d := .list ((havR g ts x v).map eR)))) g_int (nomark _)) ?_) g_non) ?_))
    · unfold havR
      rw [hne]
      rfl
    · unfold eImp
      rw [if_pos hne]
  · refine gb_one (gs_ret (GE.to (g_ifT (GT.to (t_cmp op_gt rd_gt (g_lenL M.len (gv 4 (d := .list ((havR g ts x v).map eR)))) g_int (nomark _)) ?_)
      (g_call D3 (hr.mono (by decide)) ⟨havR g ts x v, vars g.sc, ?_, fun r hr => havR_row hr, by have := vars_len hq.gg; omega, by unfold havR; rw [List.length_map]; omega, rfl, rfl⟩ (a_cons (gv 4) (a_cons (GN.ge (gn_call D4 (hr.mono (by decide)) ⟨g, hq.gg, rfl, rfl⟩ (a_cons (gv 0) a_nil))) a_nil)))) ?_))
    · rw [List.length_map]
      unfold havR
      rw [List.length_map]
      have : 0 < (hav g ts x v).length := List.length_pos_iff.mpr hne
      exact decide_eq_true (by omega)
    · intro e
      exact hne (List.map_eq_nil_iff.mp e)
    · unfold eImp
      rw [if_neg hne]
theorem scPoss : FnScope nQ nCV (defScope (topS 38)) := ⟨rfl, rfl, rfl, by decide +kernel, rfl, by decide +kernel, by decide +kernel⟩
def RPoss : List PyData → PyData → Prop := fun ds d => ∃ g ts x, GrOk g ∧ TsOk g ts ∧ x ∈ vars g.sc ∧ ds = [eG g, eTs ts, .int x] ∧ d = eR (poss g ts x)
def possT (g : Gr) (ts : List Tbl) (x : Int) : PyData → Bool
  | .int z => decide (0 < (hav g ts x z).length)
  | _ => false
theorem df_possible_values (T : Fd K mg "possible_values" nCV (topS 38)) (M : Nm mg) (D1 : Df P w K mg base "check_variable" nCV 7 (RNone RCV)) (D2 : Df P w K mg base "having" nQ 5 RHav) : Df P w K mg base "possible_values" nCV 8 RPoss := by
  refine Df.of T scPoss (by rintro _ _ ⟨_, _, _, _, _, _, rfl, _⟩; rfl) ?_
  rintro f cdv A outer s' H E hr ds d ⟨g, ts, x, hg, ht, hx, rfl, rfl⟩
  have hv3 := hg.v3
  have hv2 := hg.v2
  refine gb_cons (gs_expr (g_call D1 hr ⟨⟨g, ts, x, hg, ht, hx, rfl⟩, rfl⟩ (a_cons (gv 0) (a_cons (gv 1) (a_cons (gv 2) a_nil)))))
    (gb_one (gs_ret (GE.to (g_tupOf M.tuple (GEL.ge (gel_lc1 (i := 3) (items := rngD 0 g.v.toNat) (possT g ts x) id rfl scPoss.nd (gi_range1 M.range (g_ixT atI0 (gv 0 (d := gD g)) g_int) (by omega) (by omega))
      (blkOk_by (own := [("value", 3)]) (N := nQ) (sc := defScope (topS 38)) (by decide +kernel)) (by decide) (ltb rfl) (by rw [rngD_length]; omega) (fun _ _ _ _ _ => pg_name (i := 3) scPoss.nd rfl (Or.inl rfl)) (fun d hd s0 H0 C cl fp => ?_)))) ?_)))
  · obtain ⟨k, hk, rfl⟩ := mem_rng hd
    refine ⟨gts_one (GT.to (t_cmp op_gt rd_gt (g_lenL M.len (g_call D2 (hr.mono (by decide)) ⟨g, ts, x, 0 + (k : Int), ⟨hg, ht, hx, by omega, by omega⟩, rfl, rfl⟩ (a_cons (gv 0) (a_cons (gv 1) (a_cons (gv 2) (a_cons (gv 3) a_nil)))))) g_int (nomark _)) ?_), fun _ => gv 3⟩
    show _ = decide (0 < (hav g ts x (0 + (k : Int))).length)
    rw [List.length_map, Bool.eq_iff_iff, decide_eq_true_iff, decide_eq_true_iff]
    omega
  · unfold poss rngD
    rw [List.filter_map, List.map_id]
    have e : (possT g ts x ∘ fun (k : Nat) => PyData.int (0 + (k : Int))) = fun (k : Nat) => decide (0 < (hav g ts x (k : Int)).length) := by
      funext k
      show decide (0 < (hav g ts x (0 + (k : Int))).length) = _
      rw [Int.zero_add]
    rw [e]
    show PyData.tuple _ = PyData.tuple ((((List.range g.v.toNat).filter fun (k : Nat) => decide (0 < (hav g ts x (k : Int)).length)).map fun (k : Nat) => (k : Int)).map PyData.int)
    rw [List.map_map]
    congr 1
    refine List.map_congr_left fun k _ => ?_
    show PyData.int (0 + (k : Int)) = PyData.int (k : Int)
    rw [Int.zero_add]
abbrev nTold : List Str := ["graph", "tables", "variable", "value", "own", "row", "cost"]
theorem scTold : FnScope nTold nQ (defScope (topS 40)) := ⟨rfl, rfl, rfl, by decide +kernel, rfl, by decide +kernel, by decide +kernel⟩
def eRows (rs : List (List Int)) : PyData := .list (rs.map eR)
def RTold : List PyData → PyData → Prop := fun ds d => ∃ g ts x v, QOk g ts x v ∧ ds = [eG g, eTs ts, .int x, .int v] ∧ d = .tuple [eRows (havR g ts x v), eRows (others g ts x v)]
theorem df_told_by (T : Fd K mg "told_by" nQ (topS 40)) (M : Nm mg) (D1 : Df P w K mg base "having" nQ 5 RHav) (D2 : Df P w K mg base "solutions_of" nOf 4 ROf) : Df P w K mg base "told_by" nQ 6 RTold := by
  refine Df.of T scTold (by rintro _ _ ⟨_, _, _, _, _, rfl, _⟩; rfl) ?_
  rintro f cdv A outer s' H E hr ds d ⟨g, ts, x, v, hq, rfl, rfl⟩
  have hl := hav_len (ts := ts) (x := x) (v := v) hq.gg
  have hl2 := sols_len (ts := ts) hq.gg
  refine gb_cons (gs_setL (i := 4) (ds := (havR g ts x v).map eR) (GEL.v (GEL.to (gel_m2 (i := 5) (j := 6) (items := (hav g ts x v).map fun p => (eR p.1, PyData.int p.2)) (fun a _ => a) rfl scTold.nd (GI.to (gi_list (g_call D1 hr ⟨g, ts, x, v, hq, rfl, rfl⟩ (a_cons (gv 0) (a_cons (gv 1) (a_cons (gv 2) (a_cons (gv 3) a_nil)))))) (by rw [List.map_map]; rfl))
      (blkOk_by (own := [("row", 5), ("cost", 6)]) (N := nTold) (sc := defScope (topS 40)) (by decide +kernel)) (by rw [List.length_map]; omega)
      (fun _ _ _ _ _ => pg_tup rfl (pgs_cons (pg_name (i := 5) scTold.nd rfl (Or.inl rfl)) (pgs_cons (pg_name (i := 6) scTold.nd rfl (Or.inl rfl)) pgs_nil))) (fun d hd s0 H0 C cl fp => gv 5)) (by unfold havR; rw [List.map_map, List.map_map]; rfl))) scTold.nd rfl (Or.inr rfl))
    (gb_frz 4 rfl (gb_one (gs_ret (g_tup (a_cons (gv 4) (a_cons (GE.to (GEL.ge (gel_lc2 (i := 5) (j := 6) (items := (sols g ts).map fun p => (eR p.1, PyData.int p.2)) (fun a _ => !((havR g ts x v).map eR).any fun z => PyData.eqv z a) (fun a _ => a) rfl scTold.nd (GI.to (gi_list (g_call D2 (hr.mono (by decide)) ⟨g, ts, hq.gg, hq.tt, rfl, rfl⟩ (a_cons (gv 0) (a_cons (gv 1) a_nil)))) (by rw [List.map_map]; rfl))
      (blkOk_by (own := [("row", 5), ("cost", 6)]) (N := nTold) (sc := defScope (topS 40)) (by decide +kernel)) (by decide) (by decide) (ltb rfl) (ltb rfl) (by rw [List.length_map]; omega)
      (fun _ _ _ _ _ => pg_tup rfl (pgs_cons (pg_name (i := 5) scTold.nd rfl (Or.inl rfl)) (pgs_cons (pg_name (i := 6) scTold.nd rfl (Or.inl rfl)) pgs_nil))) (fun d hd s0 H0 C cl fp => ?_))) (d' := eRows (others g ts x v)) ?_) a_nil))))))
  · obtain ⟨p, hp, rfl⟩ := List.mem_map.mp hd
    exact ⟨gts_one (t_cmp (op_notInD (units65 hr)) (rd_niD (shaped_eR _) (shaped_rows _)) (gv 5) (gv 4) (by with_unfolding_all rfl)), fun _ => gv 5⟩
  · unfold eRows others
    rw [List.filter_map, List.map_map, List.filter_map, List.map_map]
    congr 1
    have e : ((fun d : PyData × PyData => !((havR g ts x v).map eR).any fun z => PyData.eqv z d.1) ∘ fun p : List Int × Int => (eR p.1, PyData.int p.2)) = ((fun r => !((havR g ts x v).any fun z => decide (z = r))) ∘ fun p : List Int × Int => p.1) := by
      funext p
      show (!((havR g ts x v).map eR).any fun z => PyData.eqv z (eR p.1)) = !((havR g ts x v).any fun z => decide (z = p.1))
      rw [List.any_map]
      congr 2
      funext z
      exact eqv_eR z p.1
    rw [e]
    rfl
abbrev nWord : List Str := ["own", "others"]
theorem scWord : FnScope nWord nWord (defScope (topS 41)) := ⟨rfl, rfl, rfl, by decide +kernel, rfl, by decide +kernel, by decide +kernel⟩
def RWord : List PyData → PyData → Prop := fun ds d => ∃ as bs : List PyData, ds = [.list as, .list bs] ∧ d = .str (word as bs)
theorem df_word_of (T : Fd K mg "word_of" nWord (topS 41)) (M : Nm mg) : Df P w K mg base "word_of" nWord 1 RWord := by
  refine Df.of T scWord (by rintro _ _ ⟨_, _, rfl, _⟩; rfl) ?_
  rintro f cdv A outer s' H E hr ds d ⟨as, bs, rfl, rfl⟩
  cases as with
  | nil => exact gb_stop (gs_ifT (GT.to (t_cmp op_eq rd_eqI (g_lenL M.len (gv 0)) g_int (nomark _)) rfl) (gb_one (gs_ret g_str)))
  | cons a as =>
    refine gb_cons (gs_ifF (GT.to (t_cmp op_eq rd_eqI (g_lenL M.len (gv 0)) g_int (nomark _)) (decide_eq_false (by simp; omega))) gb_nil) ?_
    cases bs with
    | nil => exact gb_one (gs_ret (g_ifT (GT.to (t_cmp op_eq rd_eqI (g_lenL M.len (gv 1)) g_int (nomark _)) rfl) g_str))
    | cons b bs => exact gb_one (gs_ret (g_ifF (GT.to (t_cmp op_eq rd_eqI (g_lenL M.len (gv 1)) g_int (nomark _)) (decide_eq_false (by simp; omega))) g_str))
abbrev nVerd : List Str := ["graph", "tables", "variable", "value", "own", "others"]
theorem scVerd : FnScope nVerd nQ (defScope (topS 42)) := ⟨rfl, rfl, rfl, by decide +kernel, rfl, by decide +kernel, by decide +kernel⟩
def RVerd : List PyData → PyData → Prop := fun ds d => ∃ g ts x v, QOk g ts x v ∧ ds = [eG g, eTs ts, .int x, .int v] ∧ d = .str (word (havR g ts x v) (others g ts x v))
theorem word_map {α β : Type} (f : α → PyData) (h : β → PyData) (as : List α) (bs : List β) : word (as.map f) (bs.map h) = word as bs := by
  cases as <;> cases bs <;> rfl
theorem df_verdict (T : Fd K mg "verdict" nQ (topS 42)) (M : Nm mg) (D1 : Df P w K mg base "check_question" nCQ 8 (RNone RCQ)) (D2 : Df P w K mg base "told_by" nQ 6 RTold) (D3 : Df P w K mg base "word_of" nWord 1 RWord) : Df P w K mg base "verdict" nQ 9 RVerd := by
  refine Df.of T scVerd (by rintro _ _ ⟨_, _, _, _, _, rfl, _⟩; rfl) ?_
  rintro f cdv A outer s' H E hr ds d ⟨g, ts, x, v, hq, rfl, rfl⟩
  exact gb_cons (gs_expr (g_call D1 hr ⟨⟨g, ts, x, v, hq, rfl⟩, rfl⟩ (a_cons (gv 0) (a_cons (gv 1) (a_cons (gv 2) (a_cons (gv 3) a_nil))))))
    (gb_cons (gs_unp2 (i := 4) (j := 5) (ltb rfl) (ltb rfl) (GE.v (g_call D2 (hr.mono (by decide)) ⟨g, ts, x, v, hq, rfl, rfl⟩ (a_cons (gv 0) (a_cons (gv 1) (a_cons (gv 2) (a_cons (gv 3) a_nil)))))) (pg_tup rfl (pgs_cons (pg_name (i := 4) scVerd.nd rfl (Or.inl rfl)) (pgs_cons (pg_name (i := 5) scVerd.nd rfl (Or.inl rfl)) pgs_nil))))
    (gb_one (gs_ret (GE.to (g_call D3 (hr.mono (by decide)) ⟨(havR g ts x v).map eR, (others g ts x v).map eR, rfl, rfl⟩ (a_cons (gv 4) (a_cons (gv 5) a_nil))) (by rw [word_map])))))
end
end TT
namespace TT
open PySem PySem.Spec PyProof.Rows L2
/-- data that _law_equal goes through, n deep -/
def okD : Nat → PyData → Bool
  | _, .none => true
  | _, .int _ => true
  | _, .str _ => true
  | n + 1, .tuple xs => decide (xs.length ≤ 1000) && xs.all (okD n)
  | n + 1, .list xs => decide (xs.length ≤ 1000) && xs.all (okD n)
  | _, _ => false
def REq (n : Nat) : List PyData → PyData → Prop := fun ds d => ∃ x, okD n x = true ∧ ds = [x, x] ∧ d = .bool true
section
variable {P : Program} {w : World} {K : PySem.W.Frag} {mg : Str → Option Value} {base : Heap}
abbrev nInt : List Str := ["_law_actual"]
theorem scInt : FnScope nInt nInt (defScope (topS 46)) := ⟨rfl, rfl, rfl, by decide +kernel, rfl, by decide +kernel, by decide +kernel⟩
def RInt : List PyData → PyData → Prop := fun ds d => ∃ i : Int, ds = [.int i] ∧ d = .bool true
theorem df_law_int (T : Fd K mg "_law_is_integer" nInt (topS 46)) (M : Nm mg) : Df P w K mg base "_law_is_integer" nInt 1 RInt := by
  refine Df.of T scInt (by rintro _ _ ⟨_, rfl, _⟩; rfl) ?_
  rintro f cdv A outer s' H E hr ds d ⟨i, rfl, rfl⟩
  exact gb_one (gs_ret (GE.to (g_and (g_isi M.isi M.int boot_int (gv 0) kII) fun _ => g_one (g_not (g_isi M.isi M.bool boot_bool (gv 0) kIB))) rfl))
abbrev nEq : List Str := ["_law_actual", "_law_due", "_law_at"]
abbrev pEq : List Str := ["_law_actual", "_law_due"]
theorem scEq : FnScope nEq pEq (defScope (topS 47)) := ⟨rfl, rfl, rfl, by decide +kernel, rfl, by decide +kernel, by decide +kernel⟩
theorem df_law_equal (T : Fd K mg "_law_equal" pEq (topS 47)) (M : Nm mg) (D1 : Df P w K mg base "_law_is_integer" nInt 1 RInt) : ∀ n, Df P w K mg base "_law_equal" pEq (n + 2) (REq n) := by
  intro n
  induction n with
  | zero =>
    refine Df.of T scEq (by rintro _ _ ⟨_, _, rfl, _⟩; rfl) ?_
    rintro f cdv A outer s' H E hr ds d ⟨x, hx, rfl, rfl⟩
    cases x with
    | none => exact gb_stop (gs_ifT (GT.to (t_cmp op_isN rd_isN (gv 1) g_non (nomark _)) rfl) (gb_one (gs_ret (g_cmp op_isN rd_isN (gv 0) g_non (nomark _)))))
    | int i =>
      exact gb_cons (gs_ifF (GT.to (t_cmp op_isN rd_isN (gv 1) g_non (nomark _)) rfl) gb_nil)
        (gb_cons (gs_ifF (t_val (g_isi M.isi M.bool boot_bool (gv 1) kIB)) gb_nil)
        (gb_stop (gs_ifT (t_val (g_isi M.isi M.int boot_int (gv 1) kII)) (gb_one (gs_ret (GE.to (g_and (k := true) (g_call D1 (hr.mono (by decide)) ⟨i, rfl, rfl⟩ (a_cons (gv 0) a_nil)) fun _ => g_one (g_cmp op_eq rd_eqI (gv 0) (gv 1) (nomark _))) (by rw [decide_eq_true rfl]; rfl)))))))
    | str x =>
      exact gb_cons (gs_ifF (GT.to (t_cmp op_isN rd_isN (gv 1) g_non (nomark _)) rfl) gb_nil)
        (gb_cons (gs_ifF (t_val (g_isi M.isi M.bool boot_bool (gv 1) kSB)) gb_nil)
        (gb_cons (gs_ifF (t_val (g_isi M.isi M.int boot_int (gv 1) kSI)) gb_nil)
        (gb_stop (gs_ifT (t_val (g_isi M.isi M.str boot_str (gv 1) kSS)) (gb_one (gs_ret (GE.to (g_and (g_isi M.isi M.str boot_str (gv 0) kSS) fun _ => g_one (g_cmp op_eq rd_eqS (gv 0) (gv 1) (nomark _))) (by rw [decide_eq_true rfl]; rfl))))))))
    | bool b => cases hx
    | list xs => cases hx
    | tuple xs => cases hx
    | dict xs => cases hx
  | succ n ih =>
    refine Df.of T scEq (by rintro _ _ ⟨_, _, rfl, _⟩; rfl) ?_
    rintro f cdv A outer s' H E hr ds d ⟨x, hx, rfl, rfl⟩
    cases x with
    | none => exact gb_stop (gs_ifT (GT.to (t_cmp op_isN rd_isN (gv 1) g_non (nomark _)) rfl) (gb_one (gs_ret (g_cmp op_isN rd_isN (gv 0) g_non (nomark _)))))
    | int i =>
      exact gb_cons (gs_ifF (GT.to (t_cmp op_isN rd_isN (gv 1) g_non (nomark _)) rfl) gb_nil)
        (gb_cons (gs_ifF (t_val (g_isi M.isi M.bool boot_bool (gv 1) kIB)) gb_nil)
        (gb_stop (gs_ifT (t_val (g_isi M.isi M.int boot_int (gv 1) kII)) (gb_one (gs_ret (GE.to (g_and (k := true) (g_call D1 (hr.mono (by omega)) ⟨i, rfl, rfl⟩ (a_cons (gv 0) a_nil)) fun _ => g_one (g_cmp op_eq rd_eqI (gv 0) (gv 1) (nomark _))) (by rw [decide_eq_true rfl]; rfl)))))))
    | str x =>
      exact gb_cons (gs_ifF (GT.to (t_cmp op_isN rd_isN (gv 1) g_non (nomark _)) rfl) gb_nil)
        (gb_cons (gs_ifF (t_val (g_isi M.isi M.bool boot_bool (gv 1) kSB)) gb_nil)
        (gb_cons (gs_ifF (t_val (g_isi M.isi M.int boot_int (gv 1) kSI)) gb_nil)
        (gb_stop (gs_ifT (t_val (g_isi M.isi M.str boot_str (gv 1) kSS)) (gb_one (gs_ret (GE.to (g_and (g_isi M.isi M.str boot_str (gv 0) kSS) fun _ => g_one (g_cmp op_eq rd_eqS (gv 0) (gv 1) (nomark _))) (by rw [decide_eq_true rfl]; rfl))))))))
    | bool b => cases hx
    | dict xs => cases hx
    | tuple xs =>
      have hx' : (decide (xs.length ≤ 1000) && xs.all (okD n)) = true := hx
      rw [Bool.and_eq_true] at hx'
      have hl : xs.length ≤ 1000 := of_decide_eq_true hx'.1
      refine gb_cons (gs_ifF (GT.to (t_cmp op_isN rd_isN (gv 1) g_non (nomark _)) rfl) gb_nil)
        (gb_cons (gs_ifF (t_val (g_isi M.isi M.bool boot_bool (gv 1) kTB)) gb_nil)
        (gb_cons (gs_ifF (t_val (g_isi M.isi M.int boot_int (gv 1) kTI)) gb_nil)
        (gb_cons (gs_ifF (t_val (g_isi M.isi M.str boot_str (gv 1) kTS)) gb_nil)
        (gb_cons (gs_ifF (GT.to (t_w (w_and (t_val (g_isi M.isi M.tuple boot_tuple (gv 1) kTT)) fun _ => w_and1 (t_not (t_val (g_isi M.isi M.tuple boot_tuple (gv 0) kTT))))) rfl) gb_nil)
        (gb_cons (gs_ifF (GT.to (t_w (w_and (l := false) (t_val (g_isi M.isi M.list boot_list (gv 1) kTL)) fun z => nomatch z)) rfl) gb_nil)
        (gb_cons (gs_ifF (GT.to (t_cmp op_ne rd_neI (g_len M.len (gv 0)) (g_len M.len (gv 1)) (nomark _)) (by rw [decide_eq_true rfl]; rfl)) gb_nil)
        (gb_one (gs_ret (g_allT (items := rngD 0 xs.length) rfl M.all (gel_m1 (i := 2) _ rfl scEq.nd (gi_range1 M.range (g_len M.len (gv 1)) (by omega) (by omega))
          (blkOk_by (own := [("_law_at", 2)]) (N := nEq) (sc := defScope (topS 47)) (by decide +kernel)) (by rw [rngD_length]; omega) (fun _ _ _ _ _ => pg_name (i := 2) scEq.nd rfl (Or.inl rfl)) (fun d hd s0 H0 C cl fp => ?_)))))))))))
      obtain ⟨k, hk, rfl⟩ := mem_rng hd
      have at1 : atI xs (0 + (k : Int)) = some xs[k] := by rw [Int.zero_add]; exact atI_nat (List.getElem?_eq_getElem hk)
      exact g_call ih hr ⟨xs[k], List.all_eq_true.mp hx'.2 _ (List.getElem_mem hk), rfl, rfl⟩ (a_cons (g_ixT at1 (gv 0) (gv 2)) (a_cons (g_ixT at1 (gv 1) (gv 2)) a_nil))
    | list xs =>
      have hx' : (decide (xs.length ≤ 1000) && xs.all (okD n)) = true := hx
      rw [Bool.and_eq_true] at hx'
      have hl : xs.length ≤ 1000 := of_decide_eq_true hx'.1
      refine gb_cons (gs_ifF (GT.to (t_cmp op_isN rd_isN (gv 1) g_non (nomark _)) rfl) gb_nil)
        (gb_cons (gs_ifF (t_val (g_isi M.isi M.bool boot_bool (gv 1) kLB)) gb_nil)
        (gb_cons (gs_ifF (t_val (g_isi M.isi M.int boot_int (gv 1) kLI)) gb_nil)
        (gb_cons (gs_ifF (t_val (g_isi M.isi M.str boot_str (gv 1) kLS)) gb_nil)
        (gb_cons (gs_ifF (GT.to (t_w (w_and (l := false) (t_val (g_isi M.isi M.tuple boot_tuple (gv 1) kLT)) fun z => nomatch z)) rfl) gb_nil)
        (gb_cons (gs_ifF (GT.to (t_w (w_and (t_val (g_isi M.isi M.list boot_list (gv 1) kLL)) fun _ => w_and1 (t_not (t_val (g_isi M.isi M.list boot_list (gv 0) kLL))))) rfl) gb_nil)
        (gb_cons (gs_ifF (GT.to (t_cmp op_ne rd_neI (g_lenL M.len (gv 0)) (g_lenL M.len (gv 1)) (nomark _)) (by rw [decide_eq_true rfl]; rfl)) gb_nil)
        (gb_one (gs_ret (g_allT (items := rngD 0 xs.length) rfl M.all (gel_m1 (i := 2) _ rfl scEq.nd (gi_range1 M.range (g_lenL M.len (gv 1)) (by omega) (by omega))
          (blkOk_by (own := [("_law_at", 2)]) (N := nEq) (sc := defScope (topS 47)) (by decide +kernel)) (by rw [rngD_length]; omega) (fun _ _ _ _ _ => pg_name (i := 2) scEq.nd rfl (Or.inl rfl)) (fun d hd s0 H0 C cl fp => ?_)))))))))))
      obtain ⟨k, hk, rfl⟩ := mem_rng hd
      have at1 : atI xs (0 + (k : Int)) = some xs[k] := by rw [Int.zero_add]; exact atI_nat (List.getElem?_eq_getElem hk)
      exact g_call ih hr ⟨xs[k], List.all_eq_true.mp hx'.2 _ (List.getElem_mem hk), rfl, rfl⟩ (a_cons (g_ixL at1 (gv 0) (gv 2)) (a_cons (g_ixL at1 (gv 1) (gv 2)) a_nil))
abbrev nLRows : List Str := ["_law_values", "_law_many", "_law_rows_here", "_law_k", "_law_longer", "_law_row", "_law_one"]
abbrev pLRows : List Str := ["_law_values", "_law_many"]
theorem scLRows : FnScope nLRows pLRows (defScope (topS 49)) := ⟨rfl, rfl, rfl, by decide +kernel, rfl, by decide +kernel, by decide +kernel⟩
theorem df_law_rows (T : Fd K mg "_law_rows" pLRows (topS 49)) (M : Nm mg) : Df P w K mg base "_law_rows" pLRows 1 RRowsOf := by
  refine Df.of T scLRows (by rintro _ _ ⟨_, _, _, _, rfl, _⟩; rfl) ?_
  rintro f cdv A outer s' H E hr ds d ⟨v, n, hv, hn, rfl, rfl⟩
  refine gb_cons (gs_setL (i := 2) (GEL.v (gl_lst (a_cons (g_tup a_nil) a_nil))) scLRows.nd rfl (Or.inl rfl)) (gb_frz 2 rfl
    (gb_cons (gs_for1 (i := 3) (items := rngD 0 (n : Int).toNat) (fun j => [.im (.int (v : Int)), .im (.int (n : Int)), .im (.list ((rowsOf v j).map eR)), .no, .no, .no, .no]) PassesOwn.never rfl (gi_range1 M.range (gv 1) (by omega) (by omega)) (Wk.refl _) (pg_name (i := 3) scLRows.nd rfl (Or.inl rfl)) (fun _ => ltb rfl) (fun j d hd => ?_))
    (gb_one (gs_ret (GE.to (gv 2) ?_)))))
  · have hj : j < n := by
      have := (List.getElem?_eq_some_iff.mp hd).1
      rw [rngD_length] at this
      omega
    have hle : (rowsOf v (j + 1)).length ≤ 729 := rowsOf_le hv (by omega)
    refine ⟨_, gb_cons (gs_setL (i := 4) (GEL.v (gl_lst a_nil)) scLRows.nd rfl (Or.inl rfl))
      (gb_cons (gs_for1 (i := 5) (items := (rowsOf v j).map eR) (fun m => [.im (.int (v : Int)), .im (.int (n : Int)), .im (.list ((rowsOf v j).map eR)), .no, .ow (((rowsOf v j).take m).flatMap fun r => (rngD 0 v).map (catE (eR r))), .no, .no]) PassesOwn.never rfl (gi_list (gv 2)) (wk_eq (wk_eq (wk_eq (wk_no (wk_eq (wk_eq (wk_eq wk_nil))))))) (pg_name (i := 5) scLRows.nd rfl (Or.inr rfl)) (fun _ => ltb rfl) (fun m d hd => ?_))
      (gb_frz 4 rfl (gb_one (gs_set (i := 2) (GE.v (gv 4)) scLRows.nd rfl (Or.inl rfl))))), ?_⟩
    · obtain ⟨r, hrr, rfl⟩ : ∃ r, (rowsOf v j)[m]? = some r ∧ d = eR r := by
        rw [List.getElem?_map] at hd
        obtain ⟨r, h1, h2⟩ := Option.map_eq_some_iff.mp hd
        exact ⟨r, h1, h2.symm⟩
      have hrl := (rowsOf_row (List.mem_of_getElem? hrr)).1
      have hm := (List.getElem?_eq_some_iff.mp hrr).1
      have hfl : ∀ l : List (List Int), (l.flatMap fun r => (rngD 0 v).map (catE (eR r))).length = l.length * v := by
        intro l
        induction l with
        | nil => simp
        | cons x l ih => rw [List.flatMap_cons, List.length_append, ih, List.length_map, rngD_length, List.length_cons, Nat.add_mul, Nat.one_mul, Nat.add_comm]
      refine ⟨_, gb_one (gs_ext (i := 4) rfl (GEL.v (gel_m1 (i := 6) (items := rngD 0 (v : Int).toNat) (catE (eR r)) rfl scLRows.nd (gi_range1 M.range (gv 0) (by omega) (by omega))
        (blkOk_by (own := [("_law_one", 6)]) (N := nLRows) (sc := defScope (topS 49)) (by decide +kernel)) (by rw [rngD_length]; omega) (fun _ _ _ _ _ => pg_name (i := 6) scLRows.nd rfl (Or.inl rfl)) (fun d hd s0 H0 C cl fp => ?_))) ?_ rfl), ?_⟩
      · obtain ⟨k, hk, rfl⟩ := mem_rng hd
        exact g_op op_catA (rd_cat (by rw [List.length_map, hrl]; show j + 1 ≤ 100000; omega)) (gv 5) (g_tup (a_cons (gv 6) a_nil))
      · rw [hfl, List.length_map, rngD_length, List.length_take, Int.toNat_natCast]
        have h1 : min m (rowsOf v j).length ≤ (rowsOf v j).length := Nat.min_le_right _ _
        have h2 : min m (rowsOf v j).length * v ≤ (rowsOf v j).length * v := Nat.mul_le_mul_right _ h1
        have h3 : (rowsOf v j).length * v ≤ 729 := by
          rw [rowsOf_length, ← Nat.pow_succ, ← rowsOf_length]
          exact hle
        omega
      · rw [take_snoc hrr, List.flatMap_append, Int.toNat_natCast]
        simp only [List.flatMap_cons, List.flatMap_nil, List.append_nil]
        exact wk_eq (wk_eq (wk_eq (wk_eq (wk_eq (wk_no (wk_eq wk_nil))))))
    · rw [List.length_map, List.take_length]
      have e := rows_step v (rowsOf v j)
      rw [List.flatMap_map] at e
      have e2 : ((rowsOf v j).flatMap fun r => (rngD 0 v).map (catE (eR r))) = (rowsOf v (j + 1)).map eR := e
      rw [e2]
      exact wk_eq (wk_eq (wk_eq (wk_no (wk_no (wk_no (wk_no wk_nil))))))
  · rw [rngD_length]
    rfl
end
end TT
namespace TT
open PySem PySem.Spec PyProof.Rows L2
/-! ### plain laws -/
theorem zip_range {some row : List Int} (h : row.length = some.length) : some.zip row = (List.range some.length).map fun k => (some.getD k 0, row.getD k 0) := by
  apply List.ext_getElem
  · rw [List.length_zip, List.length_map, List.length_range, h, Nat.min_self]
  · intro i h1 h2
    rw [List.length_zip, h, Nat.min_self] at h1
    rw [List.getElem_zip, List.getElem_map, List.getElem_range, getD_at h1, getD_at (h ▸ h1)]
theorem part_range {some row kept : List Int} (h : row.length = some.length) : partOf some row kept = ((List.range some.length).filter fun k => decide (some.getD k 0 ∈ kept)).map fun k => row.getD k 0 := by
  unfold partOf
  rw [zip_range h, List.filter_map, List.map_map]
  rfl
theorem addAll_eq : ∀ {s ks : List Int}, s.Nodup → s.foldl addK ks = ks ++ s.filter fun x => !decide (x ∈ ks)
  | [], ks, _ => by simp
  | n :: s, ks, h => by
    have hn := (List.nodup_cons.mp h).1
    have hs := (List.nodup_cons.mp h).2
    rw [List.foldl_cons, addAll_eq hs, List.filter_cons]
    unfold addK
    by_cases hk : n ∈ ks
    · rw [if_pos hk, if_neg (by simp [hk])]
    · rw [if_neg hk, if_pos (by simp [hk]), List.append_assoc]
      congr 1
      show n :: _ = n :: _
      congr 1
      refine List.filter_congr fun x hx => ?_
      have : x ≠ n := fun e => hn (e ▸ hx)
      simp [this]
theorem lex_irr : ∀ r : List Int, HT.lexLt r r = false
  | [] => rfl
  | x :: r => by
    rw [HT.lexLt_cons, if_pos rfl]
    exact lex_irr r
/-- at most one row of a table is a given one -/
theorem tbl_one {t : Tbl} (h : (t.map (·.1)).Pairwise lexP) (part : List Int) : (t.filter fun p => decide (p.1 = part)).length ≤ 1 := by
  induction t with
  | nil => exact Nat.zero_le _
  | cons p t ih =>
    rw [List.map_cons, List.pairwise_cons] at h
    have ih' := ih h.2
    rw [List.filter_cons]
    by_cases e : p.1 = part
    · rw [if_pos (decide_eq_true e)]
      have : t.filter (fun p => decide (p.1 = part)) = [] := by
        rw [List.filter_eq_nil_iff]
        intro q hq hqe
        have e2 := of_decide_eq_true hqe
        have h1 : lexP p.1 q.1 := h.1 q.1 (List.mem_map.mpr ⟨q, hq, rfl⟩)
        unfold lexP at h1
        rw [e, e2, lex_irr] at h1
        cases h1
      rw [this]
      exact Nat.le_refl _
    · rw [if_neg (by simpa using e)]
      exact ih'
def costsTo (g : Gr) (ts : List Tbl) (row : List Int) (j : Nat) : List Int := (List.range j).flatMap fun i => ((ts.getD i []).filter fun p => decide (p.1 = partAt g row i)).map (·.2)
theorem tbl_at {g : Gr} {ts : List Tbl} (ht : TsOk g ts) {i : Nat} (hi : i < g.sc.length) : TblOk g.v (g.sc.getD i []) (ts.getD i []) := by
  have h2 : i < ts.length := by rw [ht.len]; exact hi
  rw [getD_at hi, getD_at h2]
  exact ht.ok (g.sc[i], ts[i]) (List.mem_iff_getElem.mpr ⟨i, by rw [List.length_zip]; omega, by rw [List.getElem_zip]⟩)
theorem costs_at {g : Gr} {ts : List Tbl} (ht : TsOk g ts) (row : List Int) {i : Nat} (hi : i < g.sc.length) : ((ts.getD i []).filter fun p => decide (p.1 = partAt g row i)).map (·.2) = if accAt g ts row i = true then [priceAt g ts row i] else [] := by
  have h1 := tbl_one (tbl_at ht hi).up (partAt g row i)
  unfold accAt priceAt
  cases q : (ts.getD i []).filter fun p => decide (p.1 = partAt g row i) with
  | nil =>
    have : (ts.getD i []).any (fun p => decide (p.1 = partAt g row i)) = false := by
      rw [List.any_eq_false]
      intro p hp hpe
      have : p ∈ (ts.getD i []).filter fun p => decide (p.1 = partAt g row i) := List.mem_filter.mpr ⟨hp, hpe⟩
      rw [q] at this
      cases this
    rw [this]
    rfl
  | cons p r =>
    rw [q] at h1
    have hr : r = [] := by
      cases r with
      | nil => rfl
      | cons _ _ => simp at h1
    subst hr
    have : (ts.getD i []).any (fun p => decide (p.1 = partAt g row i)) = true := by
      have hm : p ∈ (ts.getD i []).filter fun p => decide (p.1 = partAt g row i) := by rw [q]; exact List.mem_cons_self ..
      exact List.any_eq_true.mpr ⟨p, (List.mem_filter.mp hm).1, (List.mem_filter.mp hm).2⟩
    rw [this]
    rfl
theorem costs_eq {g : Gr} {ts : List Tbl} (ht : TsOk g ts) (row : List Int) : ∀ {j : Nat}, j ≤ g.sc.length → costsTo g ts row j = ((List.range j).filter (accAt g ts row)).map (priceAt g ts row)
  | 0, _ => rfl
  | j + 1, h => by
    have ih := costs_eq ht row (j := j) (by omega)
    unfold costsTo at ih ⊢
    rw [List.range_succ, List.flatMap_append, ih, List.filter_append, List.map_append]
    congr 1
    simp only [List.flatMap_cons, List.flatMap_nil, List.append_nil]
    rw [costs_at ht row (by omega), List.filter_cons]
    split <;> rfl
theorem filter_all_len {α : Type} (p : α → Bool) : ∀ l : List α, ((l.filter p).length = l.length) ↔ l.all p = true
  | [] => by simp
  | x :: l => by
    have ih := filter_all_len p l
    have hle := List.length_filter_le p l
    rw [List.filter_cons, List.all_cons]
    cases h : p x with
    | true =>
      rw [if_pos rfl, List.length_cons, List.length_cons, Bool.true_and, ← ih]
      omega
    | false =>
      rw [if_neg Bool.false_ne_true, List.length_cons, Bool.false_and]
      exact ⟨fun e => by omega, fun e => nomatch e⟩
theorem costs_len {g : Gr} {ts : List Tbl} (ht : TsOk g ts) (row : List Int) : ((costsTo g ts row g.sc.length).length = g.sc.length) ↔ accAll g ts row = true := by
  rw [costs_eq ht row (Nat.le_refl _), List.length_map]
  have := filter_all_len (accAt g ts row) (List.range g.sc.length)
  rw [List.length_range] at this
  exact this
theorem costs_sum {g : Gr} {ts : List Tbl} (ht : TsOk g ts) {row : List Int} (h : accAll g ts row = true) : (costsTo g ts row g.sc.length).sum = priceTo g ts row g.sc.length := by
  rw [costs_eq ht row (Nat.le_refl _), List.filter_eq_self.mpr fun i hi => List.all_eq_true.mp h i hi]
  rfl
theorem costs_short {g : Gr} {ts : List Tbl} (ht : TsOk g ts) (row : List Int) {j : Nat} (h : j ≤ g.sc.length) : (costsTo g ts row j).length ≤ j := by
  rw [costs_eq ht row h, List.length_map]
  exact Nat.le_trans (List.length_filter_le _ _) (by rw [List.length_range]; exact Nat.le_refl _)
section
variable {P : Program} {w : World} {K : PySem.W.Frag} {mg : Str → Option Value} {base : Heap}
abbrev nPart : List Str := ["_law_some", "_law_row", "_law_kept", "_law_k"]
abbrev pPart : List Str := ["_law_some", "_law_row", "_law_kept"]
theorem scPart : FnScope nPart pPart (defScope (topS 51)) := ⟨rfl, rfl, rfl, by decide +kernel, rfl, by decide +kernel, by decide +kernel⟩
def RPart : List PyData → PyData → Prop := fun ds d => ∃ some row kept : List Int, row.length = some.length ∧ some.length ≤ 1000 ∧ ds = [eR some, eR row, eR kept] ∧ d = eR (partOf some row kept)
def partT (some kept : List Int) : PyData → Bool
  | .int z => decide (some.getD z.toNat 0 ∈ kept)
  | _ => false
def partF (row : List Int) : PyData → PyData
  | .int z => .int (row.getD z.toNat 0)
  | d => d
theorem df_law_part (T : Fd K mg "_law_part" pPart (topS 51)) (M : Nm mg) : Df P w K mg base "_law_part" pPart 1 RPart := by
  refine Df.of T scPart (by rintro _ _ ⟨_, _, _, _, _, rfl, _⟩; rfl) ?_
  rintro f cdv A outer s' H E hr ds d ⟨some, row, kept, hl, hs, rfl, rfl⟩
  refine gb_one (gs_ret (GE.to (g_tupOf M.tuple (GEL.ge (gel_lc1 (i := 3) (items := rngD 0 (some.length : Int).toNat) (partT some kept) (partF row) rfl scPart.nd (gi_range1 M.range (GE.to (g_len M.len (gv 0)) (by rw [List.length_map])) (by omega) (by omega))
    (blkOk_by (own := [("_law_k", 3)]) (N := nPart) (sc := defScope (topS 51)) (by decide +kernel)) (by decide) (ltb rfl) (by rw [rngD_length]; omega) (fun _ _ _ _ _ => pg_name (i := 3) scPart.nd rfl (Or.inl rfl)) (fun d hd s0 H0 C cl fp => ?_)))) ?_))
  · obtain ⟨k, hk, rfl⟩ := mem_rng hd
    rw [Int.toNat_natCast] at hk
    have e0 : (0 + (k : Int)).toNat = k := by rw [Int.zero_add, Int.toNat_natCast]
    refine ⟨gts_one (GT.to (t_cmp op_in_seq rd_inT (g_ixT (atI_ints (Int.zero_add _) hk) (gv 0) (gv 3)) (gv 2) (by with_unfolding_all rfl)) ?_), fun _ => GE.to (g_ixT (atI_ints (Int.zero_add _) (show k < row.length by rw [hl]; exact hk)) (gv 1) (gv 3)) ?_⟩
    · show _ = decide (some.getD (0 + (k : Int)).toNat 0 ∈ kept)
      rw [e0, getD_at hk]
    · show _ = PyData.int (row.getD (0 + (k : Int)).toNat 0)
      rw [e0, getD_at (show k < row.length by rw [hl]; exact hk)]
  · rw [part_range hl]
    unfold rngD
    rw [List.filter_map, List.map_map, Int.toNat_natCast]
    show _ = PyData.tuple ((((List.range some.length).filter fun k => decide (some.getD k 0 ∈ kept)).map fun k => row.getD k 0).map PyData.int)
    rw [List.map_map]
    have e : (partT some kept ∘ fun (k : Nat) => PyData.int (0 + (k : Int))) = fun k => decide (some.getD k 0 ∈ kept) := by
      funext k
      show decide (some.getD (0 + (k : Int)).toNat 0 ∈ kept) = _
      rw [Int.zero_add, Int.toNat_natCast]
    rw [e]
    congr 1
    refine List.map_congr_left fun k _ => ?_
    show PyData.int (row.getD (0 + (k : Int)).toNat 0) = PyData.int (row.getD k 0)
    rw [Int.zero_add, Int.toNat_natCast]
abbrev nLVars : List Str := ["_law_graph_here", "_law_nodes", "_law_found", "_law_node", "_law_one"]
abbrev pLVars : List Str := ["_law_graph_here", "_law_nodes"]
theorem scLVars : FnScope nLVars pLVars (defScope (topS 54)) := ⟨rfl, rfl, rfl, by decide +kernel, rfl, by decide +kernel, by decide +kernel⟩
def RLVars : List PyData → PyData → Prop := fun ds d => ∃ g, GrOk g ∧ ds = [eG g, nodesD g.sc.length] ∧ d = eR (vars g.sc)
def notInT (ks : List Int) : PyData → Bool
  | .int z => !decide (z ∈ ks)
  | _ => false
theorem df_law_variables (T : Fd K mg "_law_variables" pLVars (topS 54)) (M : Nm mg) : Df P w K mg base "_law_variables" pLVars 1 RLVars := by
  refine Df.of T scLVars (by rintro _ _ ⟨_, _, rfl, _⟩; rfl) ?_
  rintro f cdv A outer s' H E hr ds d ⟨g, hg, rfl, rfl⟩
  have hl3 : ∀ s ∈ g.sc, s.length ≤ 3 := fun s hs => (hg.sc s hs).len
  have hn5 := hg.n5
  refine gb_cons (gs_setL (i := 2) (GEL.v (gl_lst a_nil)) scLVars.nd rfl (Or.inr rfl))
    (gb_cons (gs_for1 (i := 3) (items := rngD 0 g.sc.length) (fun j => [.im (eG g), .im (nodesD g.sc.length), .ow ((varsL (g.sc.take j)).map PyData.int), .no, .no]) PassesOwn.never rfl (gi_list (gv 1)) (Wk.refl _) (pg_name (i := 3) scLVars.nd rfl (Or.inl rfl)) (fun _ => ltb rfl) (fun j d hd => ?_))
    (gb_one (gs_ret (GE.to (g_tupOf M.tuple (g_callB cr_sorted (rd_sorted (ns := varsL (g.sc.take (rngD 0 g.sc.length).length)) (ms := vars g.sc) ?_ (fun ys hp hs => ?_)) M.sorted boot_sorted (a_cons (gv 2) a_nil))) rfl))))
  · obtain ⟨hj, rfl⟩ := rng_get hd
    have hs := List.getElem?_eq_getElem hj
    have hv := varsL_len hl3 j
    have hsl := hl3 _ (List.getElem_mem hj)
    refine ⟨_, gb_one (gs_ext (i := 2) (es := ((g.sc[j]).filter fun x => !decide (x ∈ varsL (g.sc.take j))).map PyData.int) rfl (GEL.vo (GEL.to (gel_lc1 (i := 4) (items := (g.sc[j]).map PyData.int) (notInT (varsL (g.sc.take j))) id rfl scLVars.nd
      (gi_tup (g_ixT (atI_rows (Int.zero_add _) hj) (g_ixT atI1 (gv 0 (d := gD g)) g_int) (gv 3)))
      (blkOk_by (own := [("_law_one", 4)]) (N := nLVars) (sc := defScope (topS 54)) (by decide +kernel)) (by decide) (ltb rfl) (by rw [List.length_map]; omega) (fun _ _ _ _ _ => pg_name (i := 4) scLVars.nd rfl (Or.inl rfl)) (fun d hd s0 H0 C cl fp => ?_)) ?_) (lfA_ints _)) ?_ rfl), ?_⟩
    · obtain ⟨n, hn, rfl⟩ := List.mem_map.mp hd
      exact ⟨gts_one (t_cmp op_notIn_seq rd_niL (gv 4) (gv 2) (by with_unfolding_all rfl)), fun _ => gv 4⟩
    · rw [List.filter_map, List.map_id]
      rfl
    · rw [List.length_map, List.length_map]
      have := List.length_filter_le (fun x => !decide (x ∈ varsL (g.sc.take j))) (g.sc[j])
      omega
    · have e : varsL (g.sc.take (j + 1)) = varsL (g.sc.take j) ++ (g.sc[j]).filter fun x => !decide (x ∈ varsL (g.sc.take j)) := by
        have hnd : (g.sc[j]).Nodup := (hg.sc _ (List.getElem_mem hj)).up.imp fun h => by omega
        have e1 := addAll_eq (ks := varsL (g.sc.take j)) hnd
        rw [← e1]
        unfold varsL
        rw [take_snoc hs, List.foldl_append]
        rfl
      rw [e, List.map_append]
      exact wk_eq (wk_eq (wk_eq (wk_no (wk_no wk_nil))))
  · have h2 := varsL_len hl3 (rngD 0 g.sc.length).length
    rw [rngD_length] at h2 ⊢
    omega
  · have e : varsL (g.sc.take (rngD 0 g.sc.length).length) = varsL g.sc := by rw [rngD_length, List.take_length]
    rw [e] at hp
    exact PySem.W.eq_sortI hp hs
abbrev nLSols : List Str := ["_law_graph_here", "_law_tables_here", "_law_nodes", "_law_some", "_law_found", "_law_row", "_law_costs", "_law_node", "_law_part_here", "_law_one", "_law_cost"]
abbrev pLSols : List Str := ["_law_graph_here", "_law_tables_here", "_law_nodes"]
theorem scLSols : FnScope nLSols pLSols (defScope (topS 55)) := ⟨rfl, rfl, rfl, by decide +kernel, rfl, by decide +kernel, by decide +kernel⟩
theorem df_law_solutions (T : Fd K mg "_law_solutions" pLSols (topS 55)) (M : Nm mg) (D1 : Df P w K mg base "_law_variables" pLVars 1 RLVars) (D2 : Df P w K mg base "_law_rows" pLRows 1 RRowsOf) (D3 : Df P w K mg base "_law_part" pPart 1 RPart) : Df P w K mg base "_law_solutions" pLSols 2 RBy := by
  refine Df.of T scLSols (by rintro _ _ ⟨_, _, _, _, rfl, _⟩; rfl) ?_
  rintro f cdv A outer s' H E hr ds d ⟨g, ts, hg, ht, rfl, rfl⟩
  have hvl := vars_len hg
  have hn5 := hg.n5
  have hv : g.v.toNat ≤ 3 := by have := hg.v3; omega
  have hvI : ((g.v.toNat : Nat) : Int) = g.v := Int.toNat_of_nonneg (by have := hg.v2; omega)
  have hlen : (rowsOf g.v.toNat (vars g.sc).length).length ≤ 729 := rowsOf_le hv hvl
  refine gb_cons (gs_set (i := 3) (GE.v (g_call D1 hr ⟨g, hg, rfl, rfl⟩ (a_cons (gv 0) (a_cons (gv 2) a_nil)))) scLSols.nd rfl (Or.inl rfl))
    (gb_cons (gs_setL (i := 4) (GEL.v (gl_lst a_nil)) scLSols.nd rfl (Or.inl rfl))
    (gb_cons (gs_for1 (i := 5) (items := (rowsOf g.v.toNat (vars g.sc).length).map eR) (fun j => [.im (eG g), .im (eTs ts), .im (nodesD g.sc.length), .im (eR (vars g.sc)), .ow ((solsTo g ts j).map eP), .no, .no, .no, .no, .no, .no]) PassesOwn.never rfl
      (gi_list (g_call D2 hr ⟨g.v.toNat, (vars g.sc).length, hv, hvl, by rw [hvI, List.length_map], rfl⟩ (a_cons (g_ixT atI0 (gv 0 (d := gD g)) g_int) (a_cons (g_len (ds := (vars g.sc).map PyData.int) M.len (gv 3)) a_nil)))) (Wk.refl _) (pg_name (i := 5) scLSols.nd rfl (Or.inl rfl)) (fun _ => ltb rfl) (fun j d hd => ?_))
    (gb_one (gs_ret (GE.to (gv 4) ?_)))))
  · obtain ⟨row, hrow, rfl⟩ : ∃ row, (rowsOf g.v.toNat (vars g.sc).length)[j]? = some row ∧ d = eR row := by
      rw [List.getElem?_map] at hd
      obtain ⟨row, h1, h2⟩ := Option.map_eq_some_iff.mp hd
      exact ⟨row, h1, h2.symm⟩
    have hrl := (rowsOf_row (List.mem_of_getElem? hrow)).1
    have hsl : (solsTo g ts j).length ≤ 729 := by
      unfold solsTo
      rw [List.length_map]
      refine Nat.le_trans (List.length_filter_le _ _) ?_
      rw [List.length_take]
      omega
    have hloop : ∀ (X : Cx), X = (cxOf CX0 P w K mg base nLSols "_law_solutions" (defScope (topS 55)) f cdv A outer s' H E).nox → GS X (nth (forBody (nth (defBody (topS 55)) 2)) 1)
        [.im (eG g), .im (eTs ts), .im (nodesD g.sc.length), .im (eR (vars g.sc)), .ow ((solsTo g ts j).map eP), .im (eR row), .ow [], .no, .no, .no, .no]
        (.nx [.im (eG g), .im (eTs ts), .im (nodesD g.sc.length), .im (eR (vars g.sc)), .ow ((solsTo g ts j).map eP), .im (eR row), .ow ((costsTo g ts row (rngD 0 g.sc.length).length).map PyData.int), .no, .no, .no, .no]) := by
      rintro _ rfl
      refine gs_for1 (i := 7) (items := rngD 0 g.sc.length) (fun m => [.im (eG g), .im (eTs ts), .im (nodesD g.sc.length), .im (eR (vars g.sc)), .ow ((solsTo g ts j).map eP), .im (eR row), .ow ((costsTo g ts row m).map PyData.int), .no, .no, .no, .no]) PassesOwn.never rfl
        (gi_list (gv 2)) (Wk.refl _) (pg_name (i := 7) scLSols.nd rfl (Or.inl rfl)) (fun _ => ltb rfl) (fun m d hd => ?_)
      obtain ⟨hm, rfl⟩ := rng_get hd
      have hm2 : m < ts.length := by rw [ht.len]; exact hm
      have e1 : partAt g row m = partOf (vars g.sc) row g.sc[m] := by
        unfold partAt
        rw [getD_at hm]
      have hcs := costs_short ht row (j := m) (by omega)
      have hone := tbl_one (tbl_at ht hm).up (partAt g row m)
      refine ⟨_, gb_cons (gs_set (i := 8) (GE.v (g_call D3 hr ⟨vars g.sc, row, g.sc[m], by rw [hrl], by omega, rfl, rfl⟩ (a_cons (gv 3) (a_cons (gv 5) (a_cons (g_ixT (atI_rows (Int.zero_add _) hm) (g_ixT atI1 (gv 0 (d := gD g)) g_int) (gv 7)) a_nil))))) scLSols.nd rfl (Or.inr rfl))
        (gb_one (gs_ext (i := 6) (es := ((((ts[m])).filter fun p => decide (p.1 = partAt g row m)).map (·.2)).map PyData.int) rfl (GEL.v (GEL.to (gel_lc2 (i := 9) (j := 10) (items := (ts[m]).map fun p => (eR p.1, PyData.int p.2)) (eqPart (partOf (vars g.sc) row g.sc[m])) (fun _ b => b) rfl scLSols.nd
          (GI.to (gi_tup (g_ixT (atI_rows (f := eT) (Int.zero_add _) hm2) (gv 1 (d := .tuple (ts.map eT))) (gv 7))) (by rw [List.map_map]; rfl))
          (blkOk_by (own := [("_law_one", 9), ("_law_cost", 10)]) (N := nLSols) (sc := defScope (topS 55)) (by decide +kernel)) (by decide) (by decide) (ltb rfl) (ltb rfl) (by rw [List.length_map]; have := tbl_len ht hm hm2; omega)
          (fun _ _ _ _ _ => pg_tup rfl (pgs_cons (pg_name (i := 9) scLSols.nd rfl (Or.inl rfl)) (pgs_cons (pg_name (i := 10) scLSols.nd rfl (Or.inl rfl)) pgs_nil)))
          (fun d hd s0 H0 C cl fp => by
            obtain ⟨p, hp, rfl⟩ := List.mem_map.mp hd
            exact ⟨gts_one (t_cmp (op_eqD hr.units) (rd_eqD (shaped_eR _) (shaped_eR _)) (gv 9) (gv 8) (nomark _)), fun _ => gv 10⟩)) (by rw [price_list, ← e1]))) ?_ rfl)), ?_⟩
      · rw [List.length_map, List.length_map, List.length_map]
        rw [getD_at hm2] at hone
        omega
      · have e2 : costsTo g ts row (m + 1) = costsTo g ts row m ++ ((ts[m]).filter fun p => decide (p.1 = partAt g row m)).map (·.2) := by
          unfold costsTo
          rw [List.range_succ, List.flatMap_append]
          simp only [List.flatMap_cons, List.flatMap_nil, List.append_nil]
          rw [getD_at hm2]
        rw [e2, List.map_append]
        exact wk_eq (wk_eq (wk_eq (wk_eq (wk_eq (wk_eq (wk_eq (wk_no (wk_no (wk_eq (wk_eq wk_nil))))))))))
    cases hacc : accAll g ts row with
    | true =>
      have hcl := (costs_len ht row).mpr hacc
      refine ⟨_, gb_cons (gs_setL (i := 6) (GEL.v (gl_lst a_nil)) scLSols.nd rfl (Or.inl rfl)) (gb_cons (hloop _ rfl)
        (gb_one (gs_ifT (GT.to (t_cmp op_eq rd_eqI (g_lenL M.len (gv 6)) (g_lenL M.len (gv 2)) (nomark _)) ?_)
        (gb_one (gs_app (i := 4) rfl (GE.vo (d := .tuple [eR row, .int (priceTo g ts row g.sc.length)]) (g_tup (a_cons (gv 5) (a_cons (GE.to (g_callB (cr_sum rfl) rd_sum M.sum boot_sum (a_cons (gv 6) a_nil)) ?_) a_nil))) ?_) (by rw [List.length_map]; omega) rfl))))), ?_⟩
      · rw [List.length_map, rngD_length, hcl]
        exact decide_eq_true rfl
      · rw [rngD_length, costs_sum ht hacc]
      · show (lf (eR row) && (lf (.int _) && true)) = true
        rw [lf_eR]
        rfl
      · have e : (solsTo g ts (j + 1)).map eP = (solsTo g ts j).map eP ++ [.tuple [eR row, .int (priceTo g ts row g.sc.length)]] := by
          unfold solsTo
          rw [take_snoc hrow, List.filter_append, List.map_append, List.map_append, List.filter_cons, if_pos hacc]
          rfl
        rw [e]
        exact wk_eq (wk_eq (wk_eq (wk_eq (wk_eq (wk_no (wk_no (wk_eq (wk_eq (wk_eq (wk_eq wk_nil))))))))))
    | false =>
      have hcl : ¬ (costsTo g ts row g.sc.length).length = g.sc.length := fun z => by
        rw [costs_len ht row, hacc] at z
        cases z
      refine ⟨_, gb_cons (gs_setL (i := 6) (GEL.v (gl_lst a_nil)) scLSols.nd rfl (Or.inl rfl)) (gb_cons (hloop _ rfl)
        (gb_one (gs_ifF (GT.to (t_cmp op_eq rd_eqI (g_lenL M.len (gv 6)) (g_lenL M.len (gv 2)) (nomark _)) ?_) gb_nil))), ?_⟩
      · rw [List.length_map, rngD_length]
        exact decide_eq_false (by omega)
      · have e : solsTo g ts (j + 1) = solsTo g ts j := by
          unfold solsTo
          rw [take_snoc hrow, List.filter_append, List.filter_cons, if_neg (by rw [hacc]; decide)]
          show List.map _ (_ ++ []) = _
          rw [List.append_nil]
        rw [e]
        exact wk_eq (wk_eq (wk_eq (wk_eq (wk_eq (wk_no (wk_no (wk_eq (wk_eq (wk_eq (wk_eq wk_nil))))))))))
  · unfold eSols solsTo sols
    rw [List.length_map, List.take_length]
abbrev nEvery : List Str := ["_law_graph_here"]
theorem scEvery : FnScope nEvery nEvery (defScope (topS 56)) := ⟨rfl, rfl, rfl, by decide +kernel, rfl, by decide +kernel, by decide +kernel⟩
def REvery : List PyData → PyData → Prop := fun ds d => ∃ g, GrOk g ∧ ds = [eG g] ∧ d = nodesD g.sc.length
theorem df_law_every (T : Fd K mg "_law_every" nEvery (topS 56)) (M : Nm mg) : Df P w K mg base "_law_every" nEvery 1 REvery := by
  refine Df.of T scEvery (by rintro _ _ ⟨_, _, rfl, _⟩; rfl) ?_
  rintro f cdv A outer s' H E hr ds d ⟨g, hg, rfl, rfl⟩
  exact gb_one (gs_ret (g_nodes rfl M hg (gv 0)))
abbrev nSure : List Str := ["_law_some", "_law_rows_here", "_law_found", "_law_k", "_law_row"]
abbrev pSure : List Str := ["_law_some", "_law_rows_here"]
theorem scSure : FnScope nSure pSure (defScope (topS 57)) := ⟨rfl, rfl, rfl, by decide +kernel, rfl, by decide +kernel, by decide +kernel⟩
def RSure : List PyData → PyData → Prop := fun ds d => ∃ (rows : List (List Int)) (some : List Int), rows ≠ [] ∧ (∀ r ∈ rows, r.length = some.length) ∧ some.length ≤ 1000 ∧ rows.length ≤ 1000 ∧ ds = [eR some, .list (rows.map eR)] ∧ d = eSh (shared rows some)
theorem df_law_sure (T : Fd K mg "_law_sure" pSure (topS 57)) (M : Nm mg) : Df P w K mg base "_law_sure" pSure 1 RSure := by
  refine Df.of T scSure (by rintro _ _ ⟨_, _, _, _, _, _, rfl, _⟩; rfl) ?_
  rintro f cdv A outer s' H E hr ds d ⟨rows, some, hne, hrow, hs, hrl, rfl, rfl⟩
  obtain ⟨r0, rs, e0⟩ : ∃ r0 rs, rows = r0 :: rs := by
    cases rows with
    | nil => exact absurd rfl hne
    | cons a b => exact ⟨a, b, rfl⟩
  have hr0 : r0 ∈ rows := by rw [e0]; exact List.mem_cons_self ..
  have hg0 : rows.getD 0 [] = r0 := by rw [e0]; rfl
  have at0 : atI (rows.map eR) 0 = Option.some (eR r0) := by rw [e0]; exact atI0
  refine gb_cons (gs_setL (i := 2) (GEL.v (gl_lst a_nil)) scSure.nd rfl (Or.inl rfl))
    (gb_cons (gs_for1 (i := 3) (items := rngD 0 (some.length : Int).toNat) (fun j => [.im (eR some), .im (.list (rows.map eR)), .ow ((sharedTo rows some j).map eq1), .no, .no]) PassesOwn.never rfl
      (gi_range1 M.range (GE.to (g_len M.len (gv 0)) (by rw [List.length_map])) (by omega) (by omega)) (Wk.refl _) (pg_name (i := 3) scSure.nd rfl (Or.inr rfl)) (fun _ => ltb rfl) (fun k d hd => ?_))
    (gb_one (gs_ret (GE.to (g_tupOf M.tuple (gv 2)) ?_))))
  · rw [Int.toNat_natCast] at hd
    obtain ⟨hk, rfl⟩ := rng_get hd
    have hlen : (sharedTo rows some k).length ≤ k := by
      unfold sharedTo
      rw [List.length_map]
      exact Nat.le_trans (List.length_filter_le _ _) (by rw [List.length_range]; exact Nat.le_refl _)
    have htest : ∀ b, (rows.all fun r => decide (r.getD k 0 = (rows.getD 0 []).getD k 0)) = b → GT (cxOf CX0 P w K mg base nSure "_law_sure" (defScope (topS 57)) f cdv A outer s' H E).nox (ifTest (nth (forBody (nth (defBody (topS 57)) 1)) 0))
        (dat [.im (eR some), .im (.list (rows.map eR)), .ow ((sharedTo rows some k).map eq1), .im (.int (0 + (k : Int))), .no]) b := fun b hb =>
      t_val (GE.to (g_allB (items := rows) (b := fun r => decide (r.getD k 0 = r0.getD k 0)) rfl M.all (GEL.to (gel_m1 (i := 4) (fun d => match d with | .tuple r => (match r.getD k .none with | .int z => .bool (decide (z = r0.getD k 0)) | _ => .none) | _ => .none) rfl scSure.nd (gi_list (gv 1))
        (blkOk_by (own := [("_law_row", 4)]) (N := nSure) (sc := defScope (topS 57)) (by decide +kernel)) (by rw [List.length_map]; omega) (fun _ _ _ _ _ => pg_name (i := 4) scSure.nd rfl (Or.inl rfl)) (fun d hd s0 H0 C cl fp => by
          obtain ⟨r, hr1, rfl⟩ := List.mem_map.mp hd
          refine GE.to (g_cmp op_eq rd_eqI (g_ixT (rows_ix hrow hk hr1 (Int.zero_add _)) (gv 4) (gv 3)) (g_ixT (rows_ix hrow hk hr0 (Int.zero_add _)) (g_ixL at0 (gv 1) g_int) (gv 3)) (nomark _)) ?_
          have hl : k < r.length := by rw [hrow r hr1]; exact hk
          show _ = (match (r.map PyData.int).getD k .none with | .int z => PyData.bool (decide (z = r0.getD k 0)) | _ => .none)
          rw [List.getD_eq_getElem?_getD (l := r.map PyData.int), List.getElem?_map, List.getElem?_eq_getElem hl, getD_at hl]
          rfl)) (by
            rw [List.map_map]
            refine List.map_congr_left fun r hr1 => ?_
            have hl : k < r.length := by rw [hrow r hr1]; exact hk
            show (match (r.map PyData.int).getD k .none with | .int z => PyData.bool (decide (z = r0.getD k 0)) | _ => .none) = _
            rw [List.getD_eq_getElem?_getD (l := r.map PyData.int), List.getElem?_map, List.getElem?_eq_getElem hl, getD_at hl]
            rfl))) (by rw [← hb, hg0]))
    have hsucc : sharedTo rows some (k + 1) = sharedTo rows some k ++ (if (rows.all fun r => decide (r.getD k 0 = (rows.getD 0 []).getD k 0)) = true then [(some.getD k 0, r0.getD k 0)] else []) := by
      unfold sharedTo
      rw [List.range_succ, List.filter_append, List.map_append, List.filter_cons]
      split
      · rw [hg0]; rfl
      · rfl
    cases hb : rows.all fun r => decide (r.getD k 0 = (rows.getD 0 []).getD k 0) with
    | true =>
      refine ⟨_, gb_one (gs_ifT (htest true hb) (gb_one (gs_app (i := 2) (d := eq1 (some.getD k 0, r0.getD k 0)) rfl (GE.v (g_tup (a_cons (GE.to (g_ixT (atI_ints (Int.zero_add _) hk) (gv 0) (gv 3)) (by rw [getD_at hk])) (a_cons (g_ixT (rows_ix hrow hk hr0 (Int.zero_add _)) (g_ixL at0 (gv 1) g_int) (gv 3)) a_nil)))) (by rw [List.length_map]; omega) rfl))), ?_⟩
      rw [hb] at hsucc
      rw [hsucc, List.map_append]
      exact wk_eq (wk_eq (wk_eq (wk_no (wk_eq wk_nil))))
    | false =>
      refine ⟨_, gb_one (gs_ifF (htest false hb) gb_nil), ?_⟩
      rw [hb] at hsucc
      rw [hsucc, if_neg Bool.false_ne_true, List.append_nil]
      exact wk_eq (wk_eq (wk_eq (wk_no (wk_eq wk_nil))))
  · rw [rngD_length, Int.toNat_natCast]
    rfl
end
end TT
namespace TT
open PySem PySem.Spec PyProof.Rows L2
structure Smk where
  S : Addr
  L : Addr
  ns : List Int
def StC (m : Smk) (H : Hp) : Prop := ∃ c k : Nat, H m.S = some (.lst [.ref m.L, .int (c : Int), .int (k : Int)])
def Sk (S : Addr) (H H' : Hp) : Prop := Same (hidL [S] H) (hidL [S] H')
theorem Sk.refl (S : Addr) (H : Hp) : Sk S H H := Same.refl _
theorem Sk.trans {S : Addr} {a b c : Hp} (h : Sk S a b) (g : Sk S b c) : Sk S a c := Same.trans h g
theorem Sk.of {S : Addr} {a b : Hp} (h : Same a b) : Sk S a b := hid_same h
theorem Sk.at {S : Addr} {H H' : Hp} (h : Sk S H H') {b : Addr} {o : HO} (n : b ≠ S) (e : H b = some o) : H' b = some o :=
  hid_sub _ _ (h b o (hid_at (by simpa using n) e))
theorem hid_sk {S : Addr} {O : List Addr} {H H' : Hp} (hS : S ∈ O) (h : Sk S H H') : Same (hidL O H) (hidL O H') := fun b o e => by
  unfold hidL at e ⊢
  split at e
  · cases e
  · rename_i hb
    rw [if_neg hb]
    exact h.at (fun z => hb (z ▸ hS)) e
structure Sm (K : PySem.W.Frag) (O : List Addr) (m : Smk) (H : Hp) : Prop where
  hS : m.S ∈ O
  t : Trk O H
  q : SqL K (hidL O H) m.L (m.ns.map V.int)
  c : StC m H
theorem StC.same {m : Smk} {H H' : Hp} (c : StC m H) (s : Same H H') : StC m H' := let ⟨a, b, h⟩ := c; ⟨a, b, s _ _ h⟩
theorem trk_sk {m : Smk} {O : List Addr} {H H' : Hp} (t : Trk O H) (k : Sk m.S H H') (c : StC m H') : Trk O H' := fun a ha e => by
  by_cases z : a = m.S
  · obtain ⟨_, _, c⟩ := c
    rw [z, c] at e
    cases e
  · cases q : H a with
    | none => exact t a ha q
    | some o =>
      rw [k.at z q] at e
      cases e
theorem Sm.step {K : PySem.W.Frag} {O : List Addr} {m : Smk} {H H' : Hp} (h : Sm K O m H) (k : Sk m.S H H') (c : StC m H') : Sm K O m H' := ⟨h.hS, trk_sk h.t k c, (hid_sk h.hS k).seq h.q, c⟩
structure SJ (X : Cx) (m : Smk) (js : Nat) (e : Expr) (ρ : Rho) (Φ : PyData → Prop) : Prop where
  run : ∀ (O : List Addr) (σ : L2.St) (H : Hp), Sm X.K O m H → SD X.K (hidL O H) σ ρ → σ[js]? = some (some (.ref m.S)) → ∀ Q : VK, (∀ v H' d, Sk m.S H H' → StC m H' → Φ d → Dp X.K (hidL O H') v d → Q v H') → sE X e σ H Q
structure SA (X : Cx) (m : Smk) (js : Nat) (es : List Expr) (ρ : Rho) (Ψ : List PyData → Prop) : Prop where
  run : ∀ (O : List Addr) (σ : L2.St) (H : Hp), Sm X.K O m H → SD X.K (hidL O H) σ ρ → σ[js]? = some (some (.ref m.S)) → ∀ Q : List V → Hp → Prop, (∀ vs H' ds, Sk m.S H H' → StC m H' → Ψ ds → DpAll X.K (hidL O H') vs ds → Q vs H') → sA X es σ H Q
structure ST (X : Cx) (m : Smk) (js : Nat) (e : Expr) (ρ : Rho) (B : Bool → Prop) : Prop where
  run : ∀ (O : List Addr) (σ : L2.St) (H : Hp), Sm X.K O m H → SD X.K (hidL O H) σ ρ → σ[js]? = some (some (.ref m.S)) → ∀ Q : Bool → Hp → Prop, (∀ b H', Sk m.S H H' → StC m H' → B b → Q b H') → sT X e σ H Q
structure STs (X : Cx) (m : Smk) (js : Nat) (ifs : List Expr) (ρ : Rho) (B : Bool → Prop) : Prop where
  run : ∀ (O : List Addr) (σ : L2.St) (H : Hp), Sm X.K O m H → SD X.K (hidL O H) σ ρ → σ[js]? = some (some (.ref m.S)) → ∀ Q : Bool → Hp → Prop, (∀ b H', Sk m.S H H' → StC m H' → B b → Q b H') → ∀ pins s, Inv X pins σ H s →
    wpAny (model X.prog X.w) X.A (forIn ifs true fun c r => if r = true then do let ok ← isTrue c X.env (eval c X.env); pure (ForInStep.yield ok) else pure (ForInStep.yield r)) (TP X pins σ Q) X.xe s
/-- a new list -/
structure SGL (X : Cx) (m : Smk) (js : Nat) (e : Expr) (ρ : Rho) (Ψ : List PyData → Prop) : Prop where
  run : ∀ (O : List Addr) (σ : L2.St) (H : Hp), Sm X.K O m H → SD X.K (hidL O H) σ ρ → σ[js]? = some (some (.ref m.S)) → ∀ Q : VK, (∀ p xs H' ds, H p = none → Sk m.S H H' → StC m H' → Ψ ds → H' p = some (.lst xs) → DpAll X.K (hidL (p :: O) H') xs ds → Q (.ref p) H') → sE X e σ H Q
section
variable {X : Cx} {m : Smk} {js : Nat} {e a b : Expr} {es : List Expr} {ρ : Rho} {d : PyData} {ds : List PyData} {Φ Φa Φb : PyData → Prop} {Ψ : List PyData → Prop} {pos p : Pos}
theorem sj_pure (h : GE X e ρ d) : SJ X m js e ρ (· = d) := ⟨fun O σ H M sd _ Q q => h.run O σ H M.t sd Q fun v H' s dv => q v H' d (Sk.of s) (M.c.same s) rfl dv⟩
theorem st_pure {k : Bool} (h : GT X e ρ k) : ST X m js e ρ (· = k) := ⟨fun O σ H M sd _ Q q => h.run O σ H M.t sd Q fun H' s => q k H' (Sk.of s) (M.c.same s) rfl⟩
theorem sa_pure (h : GA X es ρ ds) : SA X m js es ρ (· = ds) := ⟨fun O σ H M sd _ Q q => h.run O σ H M.t sd Q fun v H' s dv => q v H' ds (Sk.of s) (M.c.same s) rfl dv⟩
theorem SJ.imp (h : SJ X m js e ρ Φ) (g : ∀ d, Φ d → Φa d) : SJ X m js e ρ Φa := ⟨fun O σ H M sd hs Q q => h.run O σ H M sd hs Q fun v H' d k c f dv => q v H' d k c (g d f) dv⟩
theorem sj_two {r : R2} (hr : ∀ x y, Φa x → Φb y → ∃ d, Φ d ∧ RD2 X.K r x y d) (ha : SJ X m js a ρ Φa) (hb : SJ X m js b ρ Φb) {O : List Addr} {σ : L2.St} {H : Hp} (M : Sm X.K O m H) (sd : SD X.K (hidL O H) σ ρ) (hs : σ[js]? = some (some (.ref m.S))) {Q : VK} (q : ∀ v H' d, Sk m.S H H' → StC m H' → Φ d → Dp X.K (hidL O H') v d → Q v H') : tOp r (sE X a) (sE X b) σ H Q :=
  ha.run O σ H M sd hs _ fun x H1 dx k1 c1 f1 dvx => hb.run O σ H1 (M.step k1 c1) (sd.same (hid_sk M.hS k1)) hs _ fun y H2 dy k2 c2 f2 dvy => by
    obtain ⟨d, fd, rd⟩ := hr dx dy f1 f2
    exact rd O H2 x y Q ((M.step k1 c1).step k2 c2).t (dvx.same (hid_sk M.hS k2)) dvy fun v H3 s3 dv => q v H3 d ((k1.trans k2).trans (Sk.of s3)) (c2.same s3) fd dv
theorem sj_op {op : Operator} {r : R2} (ho : OpR X (binaryOp op) r) (hr : ∀ x y, Φa x → Φb y → ∃ d, Φ d ∧ RD2 X.K r x y d) (ha : SJ X m js a ρ Φa) (hb : SJ X m js b ρ Φb) : SJ X m js (.BinOp a op b pos) ρ Φ :=
  ⟨fun O σ H M sd hs Q q => (pe_op ho sE_ok sE_ok).se (sj_two hr ha hb M sd hs q)⟩
theorem sj_cmp {op : CmpOp} {r : R2} (ho : OpR X (compareOp op) r) (hr : ∀ x y, Φa x → Φb y → ∃ d, Φ d ∧ RD2 X.K r x y d) (ha : SJ X m js a ρ Φa) (hb : SJ X m js b ρ Φb) (hm : behindInMarks op b = false) : SJ X m js (.Compare a [op] [b] pos) ρ Φ :=
  ⟨fun O σ H M sd hs Q q => (pe_cmpR ho sE_ok sE_ok hm).se (sj_two hr ha hb M sd hs q)⟩
theorem st_cmp {op : CmpOp} {r : R2} {B : Bool → Prop} (ho : OpR X (compareOp op) r) (hr : ∀ x y, Φa x → Φb y → ∃ k, B k ∧ RD2 X.K r x y (.bool k)) (ha : SJ X m js a ρ Φa) (hb : SJ X m js b ρ Φb) (hm : behindInMarks op b = false) : ST X m js (.Compare a [op] [b] pos) ρ B :=
  ⟨fun O σ H M sd hs Q q => (pt_cmpR ho sE_ok sE_ok hm).se (sj_two (Φ := fun d => ∃ k, B k ∧ d = .bool k) (fun x y fx fy => let ⟨k, hk, h⟩ := hr x y fx fy; ⟨_, ⟨k, hk, rfl⟩, h⟩) ha hb M sd hs fun v H' d k c f dv => by
    obtain ⟨b, hb, rfl⟩ := f
    cases dv
    exact ⟨b, rfl, q b H' k c hb⟩)⟩
theorem sj_ix {r : R2} (hr : IxR X r) (h : ∀ x y, Φa x → Φb y → ∃ d, Φ d ∧ RD2 X.K r x y d) (ha : SJ X m js a ρ Φa) (hb : SJ X m js b ρ Φb) (hs : PlainIx b := by intro _ _; rfl) : SJ X m js (.Subscript a b pos) ρ Φ :=
  ⟨fun O σ H M sd hj Q q => (pe_ix hr sE_ok sE_ok hs).se (sj_two h ha hb M sd hj q)⟩
theorem sa_nil : SA X m js [] ρ (· = []) := sa_pure a_nil
theorem sa_cons {Ψ' : List PyData → Prop} (ha : SJ X m js e ρ Φ) (hr : SA X m js es ρ Ψ) (hp : ∀ d ds, Φ d → Ψ ds → Ψ' (d :: ds)) (hs : starEach (e :: es) X.env = (false, eval e X.env) :: starEach es X.env := by rfl) : SA X m js (e :: es) ρ Ψ' :=
  ⟨fun O σ H M sd hj Q q => (pa_cons sE_ok sA_ok hs).se (ha.run O σ H M sd hj _ fun v H1 d k1 c1 f1 dv => hr.run O σ H1 (M.step k1 c1) (sd.same (hid_sk M.hS k1)) hj _ fun vs H2 ds k2 c2 f2 dvs => q _ H2 _ (k1.trans k2) c2 (hp d ds f1 f2) (.cons (dv.same (hid_sk M.hS k2)) dvs))⟩
theorem sj_tup {x1} (h : SA X m js es ρ Ψ) (hl : ∀ ds, Ψ ds → ds.length ≤ 100000 ∧ Φ (.tuple ds)) : SJ X m js (.Tuple es x1 pos) ρ Φ :=
  ⟨fun O σ H M sd hj Q q => (pe_tup sA_ok).se (h.run O σ H M sd hj _ fun vs H1 ds k c f dvs => ⟨small_n (by rw [dvs.length]; exact (hl ds f).1), fun p hp => q _ _ _ (k.trans (Sk.of (same_new hp))) (c.same (same_new hp)) (hl ds f).2 (.tup (.of (hid_at ((M.step k c).t.out hp) upd_same)) (dvs.same (hid_same (same_new hp))))⟩)⟩
theorem sj_callB {id : String} {x : Str} {r : List V → Hp → VK → Prop} (hc : CallR X (.builtin id) r) (hr : ∀ ds, Ψ ds → ∃ d, Φ d ∧ RD1 X.K r ds d) (hm : X.mg x = none) (hv : bootBuiltins x = some (.builtin id)) (ha : SA X m js (e :: es) ρ Ψ) (hg : Gl X x := by rfl) (hn : x ≠ "__name__" := by decide) (hdb : (x == ("__debug__" : Str)) = false := by decide)
    (he : starEach (e :: es) X.env = (false, eval e X.env) :: starEach es X.env := by rfl) (hpl : (backTo pos (starEach es X.env)).any (·.1) = false := by rfl) : SJ X m js (.Call (.Name x p) (e :: es) [] pos) ρ Φ :=
  ⟨fun O σ H M sd hj Q q => (pe_callB hc hg hm hv sA_ok hn hdb he hpl).se (ha.run O σ H M sd hj _ fun vs H1 ds k c f dvs => let ⟨d, fd, rd⟩ := hr ds f; rd O H1 vs Q (M.step k c).t dvs fun v H2 s2 dv => q v H2 d (k.trans (Sk.of s2)) (c.same s2) fd dv)⟩
theorem sj_callTy {T : String} {x : Str} {r : List V → Hp → VK → Prop} (hc : CallR X (.type T) r) (hr : ∀ ds, Ψ ds → ∃ d, Φ d ∧ RD1 X.K r ds d) (hm : X.mg x = none) (hv : bootBuiltins x = some (.type T)) (ha : SA X m js (e :: es) ρ Ψ) (hg : Gl X x := by rfl) (hn : x ≠ "__name__" := by decide) (hdb : (x == ("__debug__" : Str)) = false := by decide)
    (he : starEach (e :: es) X.env = (false, eval e X.env) :: starEach es X.env := by rfl) (hpl : (backTo pos (starEach es X.env)).any (·.1) = false := by rfl) : SJ X m js (.Call (.Name x p) (e :: es) [] pos) ρ Φ :=
  ⟨fun O σ H M sd hj Q q => (pe_callTy hc hg hm hv sA_ok hn hdb he hpl).se (ha.run O σ H M sd hj _ fun vs H1 ds k c f dvs => let ⟨d, fd, rd⟩ := hr ds f; rd O H1 vs Q (M.step k c).t dvs fun v H2 s2 dv => q v H2 d (k.trans (Sk.of s2)) (c.same s2) fd dv)⟩
/-- stream[j] -/
theorem sj_at {x : Str} {np : Pos} {j : Int} {t pos2} (h : (j = 0 ∧ Φ (.list (m.ns.map PyData.int))) ∨ ((j = 1 ∨ j = 2) ∧ ∀ c : Nat, Φ (.int (c : Int)))) (hN : X.N[js]? = some x) (hv : Vis X.env.scope x := by first | exact Or.inl rfl | exact Or.inr (Or.inl rfl) | exact Or.inr (Or.inr rfl))
    (h1 : (x == ("__debug__" : Str)) = false := by decide) (h2 : (x == ("__classdict__" : Str)) = false := by decide) : SJ X m js (.Subscript (.Name x np) (.Constant (.int j) t pos2) pos) ρ Φ :=
  ⟨fun O σ H M sd hj Q q => (pe_ix ix_seq (pe_var hN hv h1 h2) pe_int (by intro _ _; rfl)).se ⟨_, hj, by
    obtain ⟨c, k, hc⟩ := M.c
    rcases h with ⟨rfl, f⟩ | ⟨rfl | rfl, f⟩
    · refine .inl ⟨_, _, 0, .ref m.L, rfl, rfl, .of hc, rfl, q _ H _ (Sk.refl _ _) M.c f ?_⟩
      exact .lst M.q (ints_dpA m.ns)
    · exact .inl ⟨_, _, 1, .int (c : Int), rfl, rfl, .of hc, rfl, q _ H _ (Sk.refl _ _) M.c (f c) (.int _)⟩
    · exact .inl ⟨_, _, 2, .int (k : Int), rfl, rfl, .of hc, rfl, q _ H _ (Sk.refl _ _) M.c (f k) (.int _)⟩⟩⟩
/-! ### tests of a block -/
theorem sts_nil : STs X m js [] ρ (· = true) := ⟨fun O σ H M sd hj Q q pins s I => (pts_nil (X := X)).run pins s σ H Q I (q true H (Sk.refl _ _) M.c rfl)⟩
theorem sts_one {B : Bool → Prop} (h : ST X m js e ρ B) : STs X m js [e] ρ B := ⟨fun O σ H M sd hj Q q pins s I => (pts_one (sT_ok (X := X) (e := e))).run pins s σ H Q I (h.run O σ H M sd hj Q q)⟩
/-! ### calls of a def that moves the stream -/
def spS (K : PySem.W.Frag) (R : List PyData → PyData → Prop) : Sp := fun vs H Q _ => ∃ O m us ds, Sm K O m H ∧ vs = .ref m.S :: us ∧ DpAll K (hidL O H) us ds ∧ (∃ d, R ds d) ∧ ∀ v H' d, Sk m.S H H' → StC m H' → R ds d → Dp K (hidL O H') v d → Q v H'
structure DfS (P : Program) (w : World) (K : PySem.W.Frag) (mg : Str → Option Value) (base : Heap) (x : Str) (ps : List Str) (k : Nat) (R : List PyData → PyData → Prop) : Prop where
  ex : ∃ f fd, mg x = some (.ref f) ∧ PySem.W.keepIn K (.ref f) = true ∧ Binds K fd ps [] ∧ FnOk P w K mg base CX0 k f fd ps (spS K R)
theorem sj_call {R : List PyData → PyData → Prop} {x y : Str} {ps : List Str} {k : Nat} {np : Pos} (D : DfS X.prog X.w X.K X.mg X.base x ps k R) (hr : Room k X.A) (ha : SA X m js es ρ Ψ) (hR : ∀ ds, Ψ ds → (∃ d, R ds d) ∧ ∀ d, R ds d → Φ d) (hN : X.N[js]? = some y) (hg : Gl X x := by rfl)
    (hv : Vis X.env.scope y := by first | exact Or.inl rfl | exact Or.inr (Or.inl rfl) | exact Or.inr (Or.inr rfl)) (h1 : (y == ("__debug__" : Str)) = false := by decide) (h2 : (y == ("__classdict__" : Str)) = false := by decide)
    (hdb : (x == ("__debug__" : Str)) = false := by decide) (he : starEach (.Name y np :: es) X.env = (false, eval (.Name y np) X.env) :: starEach es X.env := by rfl) (hpl : (backTo pos (starEach es X.env)).any (·.1) = false := by rfl) :
    SJ X m js (.Call (.Name x p) (.Name y np :: es) [] pos) ρ Φ := by
  obtain ⟨f, fd, hm, hk, hb, F⟩ := D.ex
  exact ⟨fun O σ H M sd hj Q q => (pe_call F hr hg hm hk hb .nil pass0 (pa_cons (pe_var hN hv h1 h2) sA_ok he) hdb he hpl).se ⟨_, hj, ha.run O σ H M sd hj _ fun vs H1 ds k1 c1 f1 dvs => by
    show spS X.K R (V.ref m.S :: vs ++ []) H1 Q E0
    rw [List.append_nil]
    exact ⟨O, m, vs, ds, M.step k1 c1, rfl, dvs, (hR ds f1).1, fun v H2 d k2 c2 r dv => q v H2 d (k1.trans k2) c2 ((hR ds f1).2 d r) dv⟩⟩⟩
theorem SGL.sj (h : SGL X m js e ρ Ψ) : SJ X m js e ρ (fun d => ∃ ds, Ψ ds ∧ d = .list ds) :=
  ⟨fun O σ H M sd hj Q q => h.run O σ H M sd hj Q fun p xs H' ds hp k c f hx ha => q _ H' _ k c ⟨ds, f, rfl⟩ (.lst (.of (hid_at (M.t.out hp) hx)) (ha.same hid_less))⟩
end
/-! ### comprehensions -/
inductive Pk (T : Prop) (Φ : PyData → PyData → Prop) : List PyData → List PyData → Prop
  | nil : Pk T Φ [] []
  | skip {as bs a} : T → Pk T Φ as bs → Pk T Φ (as ++ [a]) bs
  | take {as bs a b} : Φ a b → Pk T Φ as bs → Pk T Φ (as ++ [a]) (bs ++ [b])
theorem Pk.le {T : Prop} {Φ : PyData → PyData → Prop} {as bs : List PyData} (h : Pk T Φ as bs) : bs.length ≤ as.length := by
  induction h with
  | nil => exact Nat.le_refl _
  | skip _ _ ih => rw [List.length_append]; exact Nat.le_trans ih (Nat.le_add_right _ _)
  | take _ _ ih => rw [List.length_append, List.length_append]; exact Nat.add_le_add_right ih _
section
variable {X : Cx} {m : Smk} {js : Nat}
structure SLC (X : Cx) (m : Smk) (js : Nat) (t : TE) (ρ : Rho) (Ψ : List PyData → Prop) : Prop where
  run : ∀ (O : List Addr) (σ : L2.St) (H : Hp), Sm X.K O m H → SD X.K (hidL O H) σ ρ → σ[js]? = some (some (.ref m.S)) → ∀ Q : VK, (∀ p xs H' ds, H p = none → Sk m.S H H' → StC m H' → Ψ ds → H' p = some (.lst xs) → DpAll X.K (hidL (p :: O) H') xs ds → Q (.ref p) H') → t σ H Q
theorem SLC.e {t : TE} {ρ : Rho} {Ψ : List PyData → Prop} {e : Expr} (h : SLC X m js t ρ Ψ) (p : PE X e t) : SGL X m js e ρ Ψ := ⟨fun O σ H M sd hj Q q => p.se (h.run O σ H M sd hj Q q)⟩
theorem wipe_get {vs : List Nat} {σ : L2.St} {j : Nat} (h : j ∉ vs) : (L2.wipe σ vs)[j]? = σ[j]? := by
  induction vs with
  | nil => rfl
  | cons w ws ih =>
    simp only [List.mem_cons, not_or] at h
    show ((L2.wipe σ ws).set w none)[j]? = _
    rw [List.getElem?_set_ne (Ne.symm h.1)]
    exact ih h.2
theorem stc_new {m : Smk} {H : Hp} {D : Addr} {o : HO} (c : StC m H) (n : D ≠ m.S) : StC m (upd H D o) := by
  obtain ⟨a, b, h⟩ := c
  exact ⟨a, b, by rw [upd_ne (Ne.symm n)]; exact h⟩
theorem sk_put {S D : Addr} {H h : Hp} {o : HO} (k : Sk S H h) (n : H D = none) : Sk S H (upd h D o) := fun b u e => by
  have hb : b ≠ D := fun z => by
    have := hid_sub _ _ e
    rw [z, n] at this
    cases this
  have := k b u e
  unfold hidL at this ⊢
  split at this
  · cases this
  · rename_i q
    rw [if_neg q, upd_ne hb]
    exact this
theorem sk_hid_new {S : Addr} {O : List Addr} {H h : Hp} {D : Addr} (hS : S ∈ O) (k : Sk S H h) (n : H D = none) : Same (hidL O H) (hidL (D :: O) h) := fun b o e => by
  have e' := hid_sk hS k b o e
  have hD : b ≠ D := fun z => by
    have := hid_sub _ _ e
    rw [z, n] at this
    cases this
  unfold hidL at e' ⊢
  split at e'
  · cases e'
  · rename_i hb
    rw [if_neg (by simp only [List.mem_cons, not_or]; exact ⟨hD, hb⟩)]
    exact e'
theorem slc1 {i : Nat} {elt tg iter : Expr} {ifs : List Expr} {scope : Scope} {own : List (Str × Nat)} {ρ : Rho} {items : List PyData} {T : Prop} {B : Bool → Prop} {Φ : PyData → PyData → Prop} (hI : GI X tg iter ρ items)
    (hi : i ∈ own.map (·.2)) (hir : i < ρ.length) (hlen : items.length ≤ 100000) (hjs : js ∉ own.map (·.2)) (hB : B false → T)
    (hel : ∀ d ∈ items, ∀ (s : Shared) (H : Hp) (C : Addr) (cl : List (Str × Addr)) (fp : List Addr), STs (X.blk s H scope (compEnvC scope cl C X.env) fp) m js ifs (st (wipeR ρ (own.map (·.2))) i (some d)) B ∧ SJ (X.blk s H scope (compEnvC scope cl C X.env) fp) m js elt (st (wipeR ρ (own.map (·.2))) i (some d)) (Φ d)) :
    SLC X m js (tL1 X tg iter elt ifs scope own i) ρ (Pk T Φ items) :=
  ⟨fun O σ H M sd hj Q q =>
    (hI.run O σ H M.t sd _ fun J H' s1 W D hD => by
      have sdI := sd.same (hid_same s1)
      have M' := M.step (Sk.of s1) (M.c.same s1)
      have nDS : D ≠ m.S := fun z => by
        obtain ⟨_, _, c⟩ := M'.c
        rw [z, c] at hD
        cases hD
      refine lc_it W (fun j h => Sk m.S H' h ∧ StC m h ∧ ∃ acc ds, h D = some (.lst acc) ∧ DpAll X.K (hidL (D :: O) h) acc ds ∧ Pk T Φ (items.take j) ds) ⟨sk_put (Sk.refl _ _) hD, stc_new M'.c nDS, [], [], upd_same, .nil, .nil⟩ (fun j h _ p => hid_sk M.hS p.1) (fun j x h h' hjl p y => ?_) (fun h p => ?_)
      · obtain ⟨p1, pc, acc, ds, p2, p3, p4⟩ := p
        obtain ⟨y1, d, hd, y2⟩ := y
        have hSD : m.S ∈ D :: O := List.mem_cons_of_mem _ M.hS
        have tD : Trk (D :: O) h := fun a ha => by
          rcases List.mem_cons.mp ha with rfl | ha
          · rw [p2]; exact fun z => nomatch z
          · exact trk_sk M'.t p1 pc a ha
        have dx := y2 (D :: O) (sk_hid_new M.hS p1 hD) tD
        have k1 : Sk m.S H' h' := p1.trans (Sk.of y1)
        have c1 : StC m h' := pc.same y1
        have sd2 : SD X.K (hidL (D :: O) h') ((L2.wipe σ (own.map (·.2))).set i (some x)) (st (wipeR ρ (own.map (·.2))) i (some d)) :=
          (((sdI.wipe (own.map (·.2))).same (sk_hid_new M.hS k1 hD))).set (by rw [wipeR_length]; exact hir) dx
        have M2 : Sm X.K (D :: O) m h' := ⟨hSD, tD.mono y1, (sk_hid_new M.hS k1 hD).seq M'.q, c1⟩
        have hj2 : ((L2.wipe σ (own.map (·.2))).set i (some x))[js]? = some (some (.ref m.S)) := by
          rw [List.getElem?_set_ne (fun z => hjs (by rw [← z]; exact hi)), wipe_get hjs]
          exact hj
        have htk : items.take (j + 1) = items.take j ++ [d] := by rw [List.take_add_one, hd]; rfl
        show L2.wipe ((L2.wipe σ (own.map (·.2))).set i (some x)) (own.map (·.2)) = L2.wipe σ (own.map (·.2)) ∧ _
        refine ⟨wipe_set hi, fun s0 H0 C cl fp pins s I => (hel d (List.mem_of_getElem? hd) s0 H0 C cl fp).1.run (D :: O) _ _ M2 sd2 hj2 _ (fun b H3 k3 c3 hb => ?_) pins s I⟩
        have a3 : H3 D = some (.lst acc) := k3.at nDS (y1 _ _ p2)
        cases b with
        | true =>
          refine iteT (fun s0 H0 C cl fp => ((hel d (List.mem_of_getElem? hd) s0 H0 C cl fp).2).run (D :: O) _ _ (M2.step k3 c3) (sd2.same (hid_sk hSD k3)) hj2 _ fun v H4 e k4 c4 fe dv => ?_)
          have a4 : H4 D = some (.lst acc) := k4.at nDS a3
          have kk := (k1.trans k3).trans k4
          refine ⟨acc, a4, ?_, sk_put kk hD, stc_new c4 nDS, _, ds ++ [e], upd_same, ?_, ?_⟩
          · rw [p3.length]
            refine small_l (Nat.le_trans p4.le ?_)
            rw [List.length_take]
            omega
          · exact (((p3.same (hid_same y1)).same (hid_sk hSD (k3.trans k4))).same hid_put).append (dpA_one (dv.same hid_put))
          · rw [htk]
            exact .take fe p4
        | false =>
          refine iteF ⟨k1.trans k3, c3, acc, ds, a3, (p3.same (hid_same y1)).same (hid_sk hSD k3), ?_⟩
          rw [htk]
          exact .skip (hB hb) p4
      · obtain ⟨p1, pc, acc, ds, p2, p3, p4⟩ := p
        rw [List.take_length] at p4
        exact q D acc h ds (s1.free hD) ((Sk.of s1).trans p1) pc p4 p2 p3)⟩
theorem sgl1 {i : Nat} {elt tg iter : Expr} {ifs : List Expr} {scope : Scope} {own : List (Str × Nat)} {pos : Pos} {ρ : Rho} {items : List PyData} {T : Prop} {B : Bool → Prop} {Φ : PyData → PyData → Prop} (hc : X.calm = true) (hN : X.N.Nodup) (hI : GI X tg iter ρ items) (ok : BlkOk X.N X.env.scope scope own)
    (hi : i ∈ own.map (·.2)) (hir : i < ρ.length) (hlen : items.length ≤ 100000) (hjs : js ∉ own.map (·.2)) (hB : B false → T)
    (hg : ∀ (s : Shared) (H : Hp) (C : Addr) (cl : List (Str × Addr)) (fp : List Addr), PG (X.blk s H scope (compEnvC scope cl C X.env) fp) tg (gName i))
    (hel : ∀ d ∈ items, ∀ (s : Shared) (H : Hp) (C : Addr) (cl : List (Str × Addr)) (fp : List Addr), STs (X.blk s H scope (compEnvC scope cl C X.env) fp) m js ifs (st (wipeR ρ (own.map (·.2))) i (some d)) B ∧ SJ (X.blk s H scope (compEnvC scope cl C X.env) fp) m js elt (st (wipeR ρ (own.map (·.2))) i (some d)) (Φ d))
    (hs : ∀ x, foldedSetIterable iter X.env x = pure x := by intro _; rfl) : SGL X m js (.ListComp elt [⟨tg, iter, ifs, 0⟩] scope pos) ρ (Pk T Φ items) := (slc1 hI hi hir hlen hjs hB hel).e (pe_l1 hc hN ok hg hs)
end
end TT
namespace TT
open PySem PySem.Spec PyProof.Rows L2
structure SSo (K : PySem.W.Frag) (O : List Addr) (m : Smk) (js : Nat) (F H : Hp) (σ : L2.St) (ρ : Rs) (os : List Addr) : Prop where
  I : SIo K O (hidL os H) H σ ρ os
  hS : m.S ∈ O
  t : Trk O H
  dis : ∀ a ∈ os, a ∉ O
  e0 : ∀ a ∈ os, F a = none
  sk : Sk m.S F H
  q : SqL K (hidL O F) m.L (m.ns.map V.int)
  c : StC m H
  sl : lkS ρ js = .ad m.S
def SSt (K : PySem.W.Frag) (O : List Addr) (m : Smk) (js : Nat) (F H : Hp) (σ : L2.St) (ρ : Rs) : Prop := ∃ os, SSo K O m js F H σ ρ os
section
variable {K : PySem.W.Frag} {O os os' : List Addr} {m : Smk} {js : Nat} {F H H' : Hp} {σ σ' : L2.St} {ρ ρ' : Rs}
theorem SSo.nS (h : SSo K O m js F H σ ρ os) : m.S ∉ os := fun z => h.dis _ z h.hS
theorem SSo.hid (h : SSo K O m js F H σ ρ os) : Same (hidL O F) (hidL (os ++ O) H) := fun b o e => by
  unfold hidL at e
  split at e
  · cases e
  · rename_i hb
    refine hid_at (fun z => ?_) (h.sk.at (fun z => hb (by rw [z]; exact h.hS)) e)
    rcases List.mem_append.mp z with z | z
    · rw [h.e0 b z] at e; cases e
    · exact hb z
theorem SSo.tr (h : SSo K O m js F H σ ρ os) : Trk O (hidL os H) := fun a ha e => by
  unfold hidL at e
  rw [if_neg fun z => h.dis a z ha] at e
  exact h.t a ha e
theorem SSo.sm (h : SSo K O m js F H σ ρ os) : Sm K (os ++ O) m H := ⟨List.mem_append_right _ h.hS, h.I.trk h.tr, h.hid.seq h.q, h.c⟩
theorem SSo.jj (h : SSo K O m js F H σ ρ os) : σ[js]? = some (some (.ref m.S)) := by
  have g := h.I.slot js
  rw [h.sl] at g
  exact g
theorem SlOk.sk {m : Smk} (k : Sk m.S H H') (hS : m.S ∈ O) (n : m.S ∉ os) : ∀ {l : Sl} {x : Option (Option V)}, SlOk K O os H l x → SlOk K O os H' l x
  | .no, _, _ => trivial
  | .im _, _, ⟨v, h1, h2⟩ => ⟨v, h1, h2.same (hid_sk (List.mem_append_right _ hS) k)⟩
  | .ow _, _, ⟨p, xs, h1, h2, h3, h4⟩ => ⟨p, xs, h1, h2, k.at (fun z => n (by rw [← z]; exact h2)) h3, h4.same (hid_sk (List.mem_append_right _ hS) k)⟩
  | .dk _, _, ⟨p, h1, h2, h3⟩ => ⟨p, h1, h2, k.at (fun z => n (by rw [← z]; exact h2)) h3⟩
  | .ad _, _, h => h
theorem SSo.step (h : SSo K O m js F H σ ρ os) (k : Sk m.S H H') (c : StC m H') : SSo K O m js F H' σ ρ os :=
  ⟨⟨hid_sub, fun a ha => ⟨by unfold hidL; rw [if_pos ha], let ⟨_, o, h2, h3⟩ := h.I.own a ha; ⟨o, k.at (fun z => h.nS (by rw [← z]; exact ha)) h2, h3⟩⟩, h.I.len, fun i => (h.I.slot i).sk k h.hS h.nS, h.I.apart⟩,
    h.hS, trk_sk h.t k c, h.dis, h.e0, h.sk.trans k, h.q, c, h.sl⟩
theorem hidos_at (hs : Same (hidL os H) H') {b : Addr} {o : HO} (n : b ∉ os) (e : H b = some o) : H' b = some o := hs _ _ (hid_at n e)
theorem SSo.res (h : SSo K O m js F H σ ρ os) (s : Same (hidL os H) H') : Sk m.S F H' ∧ StC m H' := by
  refine ⟨fun b o e => ?_, ?_⟩
  · have e1 := h.sk b o e
    have nb : b ≠ m.S := fun z => by
      rw [z] at e
      unfold hidL at e
      rw [if_pos (List.mem_singleton.mpr rfl)] at e
      cases e
    have nos : b ∉ os := fun z => by
      have := hid_sub _ _ e
      rw [h.e0 b z] at this
      cases this
    exact hid_at (by simpa using nb) (hidos_at s nos (hid_sub _ _ e1))
  · obtain ⟨a, b, c⟩ := h.c
    exact ⟨a, b, hidos_at s h.nS c⟩
theorem SSo.back (h : SSo K O m js F H σ ρ os) (I : SIo K O (hidL os H) H' σ' ρ' os') (hl : lkS ρ' js = .ad m.S) : SSo K O m js F H' σ' ρ' os' := by
  have key : ∀ a ∈ os', a ∉ O ∧ F a = none := fun a ha => by
    have z := (I.own a ha).1
    have n1 : a ∉ O := fun q => h.tr a q z
    refine ⟨n1, ?_⟩
    by_cases q : a ∈ os
    · exact h.e0 a q
    · cases e : F a with
      | none => rfl
      | some o =>
        have e1 := h.sk.at (fun z => n1 (by rw [z]; exact h.hS)) e
        unfold hidL at z
        rw [if_neg q, e1] at z
        cases z
  exact ⟨⟨hid_sub, fun a ha => ⟨by unfold hidL; rw [if_pos ha], (I.own a ha).2⟩, I.len, I.slot, I.apart⟩, h.hS, h.tr.mono I.same, fun a ha => (key a ha).1, fun a ha => (key a ha).2, (h.res I.same).1, h.q, (h.res I.same).2, hl⟩
theorem lkS_ne {i : Nat} {l : Sl} (n : i ≠ js) (hi : i < ρ.length) : lkS (stS ρ i l) js = lkS ρ js := by rw [lkS_st ρ i js l hi, if_neg n]
end
structure SS (X : Cx) (m : Smk) (js : Nat) (s : Stmt) (ρ : Rs) (Ωn : Rs → Prop) (Ωr : PyData → Prop) : Prop where
  run : ∀ (O : List Addr) (F : Hp) (σ : L2.St) (H : Hp), SSt X.K O m js F H σ ρ → ∀ D : Ends, (∀ ρ' σ' H', Ωn ρ' → SSt X.K O m js F H' σ' ρ' → D.nx σ' H') → (∀ v H' d, Ωr d → Sk m.S F H' → StC m H' → Dp X.K (hidL O H') v d → D.rt v H') → sP X s D σ H
structure SB (X : Cx) (m : Smk) (js : Nat) (s : List Stmt) (ρ : Rs) (Ωn : Rs → Prop) (Ωr : PyData → Prop) : Prop where
  run : ∀ (O : List Addr) (F : Hp) (σ : L2.St) (H : Hp), SSt X.K O m js F H σ ρ → ∀ D : Ends, (∀ ρ' σ' H', Ωn ρ' → SSt X.K O m js F H' σ' ρ' → D.nx σ' H') → (∀ v H' d, Ωr d → Sk m.S F H' → StC m H' → Dp X.K (hidL O H') v d → D.rt v H') → sPs X s D σ H
/-- an iterator that may move the stream as it is made -/
structure SGI (X : Cx) (m : Smk) (js : Nat) (tg iter : Expr) (ρ : Rho) (Ψ : List PyData → Prop) : Prop where
  run : ∀ (O : List Addr) (σ : L2.St) (H : Hp), Sm X.K O m H → SD X.K (hidL O H) σ ρ → σ[js]? = some (some (.ref m.S)) → ∀ R : It → Hp → Prop,
    (∀ J H' ds, Sk m.S H H' → StC m H' → Ψ ds → Walk J ds.length (fun h => Same (hidL O H') (hidL O h)) (Yd X.K O H' ds) → R J H') → sI X tg iter σ H R
section
variable {X : Cx} {m : Smk} {js : Nat} {s : Stmt} {ss a b : List Stmt} {ρ ρ1 : Rs} {Ωn Ωn1 : Rs → Prop} {Ωr Ωr1 : PyData → Prop} {Φ : PyData → Prop} {Ψ : List PyData → Prop} {e c : Expr} {d : PyData} {ds : List PyData} {i : Nat} {x : Str} {pos pos' : Pos}
theorem sgi_pure {tg : Expr} {ρ : Rho} (h : GI X tg e ρ ds) : SGI X m js tg e ρ (· = ds) := ⟨fun O σ H M sd _ R q => h.run O σ H M.t sd R fun J H' s W => q J H' ds (Sk.of s) (M.c.same s) rfl W⟩
theorem sgi_range1 {tg : Expr} {p : Pos} {ρ : Rho} (hm : X.mg "range" = none) (ha : SJ X m js e ρ Φ) (hΦ : ∀ d, Φ d → ∃ n : Int, d = .int n ∧ (-100000 ≤ n ∧ n ≤ 100000) ∧ Ψ (rngD 0 n.toNat)) (hg : Gl X "range" := by rfl) (hs : starEach [e] X.env = [(false, eval e X.env)] := by rfl)
    (hs2 : starEach (e :: []) X.env = (false, eval e X.env) :: starEach [] X.env := by rfl) : SGI X m js tg (.Call (.Name "range" p) [e] [] pos) ρ Ψ :=
  ⟨fun O σ H M sd hj R q => (pi_range1 hg hm (pa_cons sE_ok pa_nil hs2) hs).se (ha.run O σ H M sd hj _ fun v H1 d k c f dv => by
    obtain ⟨n, rfl, hn, hp⟩ := hΦ d f
    cases dv
    refine ⟨n, rfl, by omega, by omega, q _ _ _ k c hp ?_⟩
    rw [rngD_length]
    exact walk_range.mono (fun _ _ => True.intro) fun i h x h' hi _ y => by
      obtain ⟨rfl, rfl⟩ := y
      exact ⟨Same.refl _, _, rngD_at hi, fun O' _ _ => .int _⟩)⟩
theorem ss_nx (h : GS X s ρ (.nx ρ1)) (hl : lkS ρ1 js = .ad m.S := by rfl) : SS X m js s ρ (· = ρ1) Ωr := ⟨fun O F σ H I D q _ => let ⟨os, I⟩ := I; h.run O (hidL os H) σ H I.tr ⟨os, I.I⟩ D fun σ' H' I' => let ⟨os', I'⟩ := I'; q ρ1 σ' H' rfl ⟨os', I.back I' hl⟩⟩
theorem ss_rt (h : GS X s ρ (.rt d)) : SS X m js s ρ Ωn (· = d) := ⟨fun O F σ H I D _ q => let ⟨os, I⟩ := I; h.run O (hidL os H) σ H I.tr ⟨os, I.I⟩ D fun v H' s dv => q v H' d rfl (I.res s).1 (I.res s).2 dv⟩
theorem SS.imp (h : SS X m js s ρ Ωn Ωr) (g : ∀ r, Ωn r → Ωn1 r) (k : ∀ d, Ωr d → Ωr1 d) : SS X m js s ρ Ωn1 Ωr1 := ⟨fun O F σ H I D q r => h.run O F σ H I D (fun ρ' σ' H' o => q ρ' σ' H' (g _ o)) (fun v H' d o => r v H' d (k _ o))⟩
theorem SB.imp (h : SB X m js ss ρ Ωn Ωr) (g : ∀ r, Ωn r → Ωn1 r) (k : ∀ d, Ωr d → Ωr1 d) : SB X m js ss ρ Ωn1 Ωr1 := ⟨fun O F σ H I D q r => h.run O F σ H I D (fun ρ' σ' H' o => q ρ' σ' H' (g _ o)) (fun v H' d o => r v H' d (k _ o))⟩
theorem sb_nil : SB X m js [] ρ (· = ρ) Ωr := ⟨fun O F σ H I D q _ => pss_nil.se (q ρ σ H rfl I)⟩
theorem sb_cons (h1 : SS X m js s ρ Ωn1 Ωr) (h2 : ∀ ρ1, Ωn1 ρ1 → SB X m js ss ρ1 Ωn Ωr) : SB X m js (s :: ss) ρ Ωn Ωr := ⟨fun O F σ H I D q r => (pss_cons sP_ok sPs_ok).se (h1.run O F σ H I { D with nx := sPs X ss D } (fun ρ1 σ' H' o I' => (h2 ρ1 o).run O F σ' H' I' D q r) r)⟩
theorem sb_one (h1 : SS X m js s ρ Ωn Ωr) : SB X m js [s] ρ Ωn Ωr := ⟨fun O F σ H I D q r => (pss_one sP_ok).se (h1.run O F σ H I D q r)⟩
theorem sb_nx (h1 : GS X s ρ (.nx ρ1)) (h2 : SB X m js ss ρ1 Ωn Ωr) (hl : lkS ρ1 js = .ad m.S := by rfl) : SB X m js (s :: ss) ρ Ωn Ωr := sb_cons (ss_nx h1 hl) fun _ e => e ▸ h2
theorem sb_frz (i : Nat) (hi : lkS ρ i = .ow ds := by rfl) (h : SB X m js ss (stS ρ i (.im (.list ds))) Ωn Ωr) (hl : lkS (stS ρ i (.im (.list ds))) js = .ad m.S := by rfl) : SB X m js ss ρ Ωn Ωr := ⟨fun O F σ H I D q r => let ⟨os, I⟩ := I; by
  obtain ⟨os', I'⟩ := I.I.freeze I.tr hi
  exact h.run O F σ H ⟨os', I.back I' hl⟩ D q r⟩
theorem ss_set (h : SJ X m js e (datN ρ) Φ) (hN : X.N.Nodup) (hi : X.N[i]? = some x) (hx : Loc X.env.scope x) (hj : i ≠ js := by decide) (hl : i < ρ.length := by exact ltb rfl) (hs : swapsWith e (some (.Name x pos')) pos.line X.env = pure false := by rfl) (hf : X.fn x = true ∨ X.env.scope.names.lookup x = some .local := by first | exact .inl rfl | exact .inr rfl | assumption) :
    SS X m js (.Assign [.Name x pos'] e pos) ρ (fun r => ∃ d, Φ d ∧ r = stS ρ i (.im d)) Ωr := ⟨fun O F σ H I D q _ => let ⟨os, I⟩ := I; (ps_set hN hi hx sE_ok hs hf).se (h.run (os ++ O) σ H I.sm I.I.sdN I.jj _ fun v H' d k c f dv => by
  have I' := I.step k c
  exact q _ _ H' ⟨d, f, rfl⟩ ⟨os, I'.back (I'.I.setIm hl dv) (by rw [lkS_ne hj hl]; exact I.sl)⟩)⟩
/-- name = [..] on one line -/
theorem ss_setC {t : TE} (p : PS X s (tAsg t (gName i))) (h : SLC X m js t (datN ρ) Ψ) (hj : i ≠ js := by decide) (hl : i < ρ.length := by exact ltb rfl) : SS X m js s ρ (fun r => ∃ ds, Ψ ds ∧ r = stS ρ i (.im (.list ds))) Ωr := ⟨fun O F σ H I D q _ => let ⟨os, I⟩ := I; p.se (h.run (os ++ O) σ H I.sm I.I.sdN I.jj _ fun p xs H' ds hp k c f hx ha => by
  have I' := I.step k c
  exact q _ _ H' ⟨ds, f, rfl⟩ ⟨os, I'.back (I'.I.setIm hl (.lst (.of (hid_at (I.sm.t.out hp) hx)) (ha.same hid_less))) (by rw [lkS_ne hj hl]; exact I.sl)⟩)⟩
theorem ss_ret (h : SJ X m js e (datN ρ) Φ) : SS X m js (.Return (some e) pos) ρ Ωn Φ := ⟨fun O F σ H I D _ q => let ⟨os, I⟩ := I; (ps_ret sE_ok).se (h.run (os ++ O) σ H I.sm I.I.sdN I.jj _ fun v H' d k c f dv => q v H' d f (I.sk.trans k) c (dv.same hid_app))⟩
theorem ss_if {B : Bool → Prop} (hc : ST X m js c (datN ρ) B) (h : ∀ k, B k → if k = true then SB X m js a ρ Ωn Ωr else SB X m js b ρ Ωn Ωr) : SS X m js (.If c a b pos) ρ Ωn Ωr := ⟨fun O F σ H I D q r => let ⟨os, I⟩ := I; (ps_if sT_ok sPs_ok sPs_ok).se (hc.run (os ++ O) σ H I.sm I.I.sdN I.jj _ fun k H' kk cc hk => by
  have g := h k hk
  have I' : SSt X.K O m js F H' σ ρ := ⟨os, I.step kk cc⟩
  cases k with
  | true => exact iteT ((iteT_of g).run O F σ H' I' D q r)
  | false => exact iteF ((iteF_of g).run O F σ H' I' D q r))⟩
where
  iteT_of {p q : Prop} (h : if true = true then p else q) : p := by rw [if_pos rfl] at h; exact h
  iteF_of {p q : Prop} (h : if false = true then p else q) : q := by rw [if_neg (by decide)] at h; exact h
/-- stream[j] = e -/
theorem ss_put {np : Pos} {j : Int} {t pos2} (hj : j = 1 ∨ j = 2) (h : SJ X m js e (datN ρ) (fun d => ∃ c : Nat, d = .int (c : Int))) (hN : X.N[js]? = some x) (hv : Vis X.env.scope x := by first | exact Or.inl rfl | exact Or.inr (Or.inl rfl) | exact Or.inr (Or.inr rfl))
    (h1 : (x == ("__debug__" : Str)) = false := by decide) (h2 : (x == ("__classdict__" : Str)) = false := by decide)
    (hs : swapsWithSole [.Subscript (.Name x np) (.Constant (.int j) t pos2) pos'] e pos.line X.env = pure false := by rfl) (hw : swappedStores [.Subscript (.Name x np) (.Constant (.int j) t pos2) pos'] e X.env = pure none := by rfl)
    (ha : (assignEach [.Subscript (.Name x np) (.Constant (.int j) t pos2) pos'] X.env).map (·.2) = [assign (.Subscript (.Name x np) (.Constant (.int j) t pos2) pos') X.env] := by rfl) :
    SS X m js (.Assign [.Subscript (.Name x np) (.Constant (.int j) t pos2) pos'] e pos) ρ (· = ρ) Ωr := ⟨fun O F σ H I D q _ => let ⟨os, I⟩ := I; (ps_asg sE_ok (pg_sub (pe_var hN hv h1 h2) pe_int set_list) hs hw ha).se (h.run (os ++ O) σ H I.sm I.I.sdN I.jj _ fun v H' d k c f dv => by
  obtain ⟨n, rfl⟩ := f
  cases dv
  have I' := I.step k c
  obtain ⟨c1, k1, hc⟩ := c
  have kk : ∀ o, Sk m.S H' (upd H' m.S o) := fun o b u e => by
    unfold hidL at e ⊢
    split at e
    · cases e
    · rename_i hb
      rw [if_neg hb, upd_ne (by simpa using hb)]
      exact e
  rcases hj with rfl | rfl
  · exact ⟨_, I.jj, m.S, _, 1, 1, rfl, rfl, hc, rfl, q ρ σ _ rfl ⟨os, I'.step (kk _) ⟨n, k1, upd_same⟩⟩⟩
  · exact ⟨_, I.jj, m.S, _, 2, 2, rfl, rfl, hc, rfl, q ρ σ _ rfl ⟨os, I'.step (kk _) ⟨c1, n, upd_same⟩⟩⟩)⟩
/-- own.extend([..]) -/
theorem ss_ext {apos cpos npos : Pos} (hw : lkS ρ i = .ow ds) (h : SGL X m js e (datN ρ) Ψ) (hz : ∀ es, Ψ es → ds.length + es.length ≤ 100000) (hN : X.N[i]? = some x) (hj : i ≠ js := by decide) (hv : Vis X.env.scope x := by first | exact Or.inl rfl | exact Or.inr (Or.inl rfl) | exact Or.inr (Or.inr rfl)) (h1 : (x == ("__debug__" : Str)) = false := by decide) (h2 : (x == ("__classdict__" : Str)) = false := by decide)
    (hb : attributeBase (.Name x npos) "extend" X.env (eval (.Name x npos) X.env) = eval (.Name x npos) X.env := by rfl)
    (hfew : ((backTo cpos (starEach (e :: []) X.env)).all (fun x => !x.1) && (backToKw cpos (keywordEach [] X.env)).all (fun x => x.1.isSome)
      && decide ((e :: []).length + ([] : List Keyword).length + (if ([] : List Keyword).isEmpty then 0 else 1) < 30)) = true := by rfl)
    (hline : (apos.endLine == cpos.line) = true := by rfl) (hst : starEach (e :: []) X.env = (false, eval e X.env) :: starEach [] X.env := by rfl) (hpl : (backTo cpos (starEach [] X.env)).any (·.1) = false := by rfl)
    (hs : swapsWith (.Call (.Attribute (.Name x npos) "extend" apos) [e] [] cpos) none pos.line X.env = pure false := by rfl) :
    SS X m js (.Expr (.Call (.Attribute (.Name x npos) "extend" apos) [e] [] cpos) pos) ρ (fun r => ∃ es, Ψ es ∧ r = stS ρ i (.ow (ds ++ es))) Ωr := ⟨fun O F σ H I D q _ => by
  obtain ⟨os, I⟩ := I
  have g := I.I.slot i
  rw [hw] at g
  obtain ⟨p, xs, g1, g2, g3, g4⟩ := g
  have hi : i < ρ.length := by
    rw [← I.I.len]
    exact (List.getElem?_eq_some_iff.mp g1).1
  refine (ps_expr (pe_bm PySem.F.plainAttrs_list PySem.F.slot_list_extend PySem.F.type_list_extend mt_extend (pe_var hN hv h1 h2) (pa_cons sE_ok pa_nil hst) hb hfew hline hst hpl) hs).se ⟨.ref p, g1, .inl ⟨rfl, _, .of g3⟩, h.run (os ++ O) σ H I.sm I.I.sdN I.jj _ fun r ys H' es hr k c f hy ha => ?_⟩
  have I' := I.step k c
  have np : p ≠ m.S := fun z => I.nS (by rw [← z]; exact g2)
  refine ⟨p, r, xs, ys, rfl, rfl, k.at np g3, hy, small_n (by rw [g4.length, ha.length]; exact hz es f), q _ σ _ ⟨es, f, rfl⟩ ⟨os, I'.back (I'.I.write g2 g1 (by rw [hw]; rfl) rfl rfl ⟨p, _, rfl, g2, upd_same, ?_⟩) (by rw [lkS_ne hj hi]; exact I.sl)⟩⟩
  have hid : Same (hidL (os ++ O) H') (hidL (os ++ O) (upd H' p (.lst (xs ++ ys)))) := fun b u e => by
    unfold hidL at e ⊢
    split at e
    · cases e
    · rename_i hb
      rw [if_neg hb, upd_ne fun z => hb (List.mem_append_left _ (by rw [z]; exact g2))]
      exact e
  exact ((g4.same (hid_sk (List.mem_append_right _ I.hS) k)).append (ha.same hid_less)).same hid⟩
theorem SSo.weak {K : PySem.W.Frag} {O os : List Addr} {F H : Hp} {σ : L2.St} {ρ ρ' : Rs} (h : SSo K O m js F H σ ρ os) (w : Wk ρ ρ') (hl : lkS ρ' js = .ad m.S) : SSo K O m js F H σ ρ' os := ⟨h.I.weak w, h.hS, h.t, h.dis, h.e0, h.sk, h.q, h.c, hl⟩
/-- a for loop over a name -/
theorem ss_for1 {tg iter : Expr} {body : List Stmt} (r : List PyData → Nat → Rs → Prop) (hp : PassesOwn (model X.prog X.w) X.A X.env X.xe) (hc : X.calm = true) (hI : SGI X m js tg iter (datN ρ) Ψ) (h0 : ∀ ds, Ψ ds → ∃ ρ', Wk ρ ρ' ∧ lkS ρ' js = .ad m.S ∧ r ds 0 ρ') (hg : PG X tg (gName i)) (hj : i ≠ js) (hl : ∀ ds j ρ', r ds j ρ' → i < ρ'.length)
    (ht : ∀ ds j d ρ', Ψ ds → ds[j]? = some d → r ds j ρ' → SB X m js body (stS ρ' i (.im d)) (fun ρ2 => ∃ ρ3, Wk ρ2 ρ3 ∧ lkS ρ3 js = .ad m.S ∧ r ds (j + 1) ρ3) Ωr) (hs : ∀ x, foldedSetIterable iter X.env x = pure x := by intro _; rfl) :
    SS X m js (.For tg iter body [] pos) ρ (fun ρ' => ∃ ds, Ψ ds ∧ r ds ds.length ρ') Ωr := ⟨fun O F σ H I D q rt => by
  obtain ⟨os, I⟩ := I
  refine (ps_for hp hc sI_ok hg sPs_ok hs).se (hI.run (os ++ O) σ H I.sm I.I.sdN I.jj _ fun J H' ds k c f W => ?_)
  obtain ⟨ρ0, w0, l0, r0⟩ := h0 ds f
  have I' := (I.step k c).weak w0 l0
  -- the heap at the start without the own lists
  have s0 : Sk m.S F (hidL os H') := fun b u e => by
    have e1 := I'.sk b u e
    have nb : b ∉ [m.S] := fun z => by
      unfold hidL at e
      rw [if_pos z] at e
      cases e
    have nos : b ∉ os := fun z => by
      have := hid_sub _ _ e
      rw [I'.e0 b z] at this
      cases this
    exact hid_at nb (hid_at nos (hid_sub _ _ e1))
  have qL : SqL X.K (hidL O (hidL os H')) m.L (m.ns.map V.int) := (hid_sk I'.hS s0).seq I'.q
  have hidOs : ∀ {h : Hp} {τ : L2.St} {ρ2 : Rs} {os2 : List Addr}, SSo X.K O m js (hidL os H') h τ ρ2 os2 → Same (hidL (os ++ O) H') (hidL (os2 ++ O) h) := fun {h τ ρ2 os2} Z b u e => by
    unfold hidL at e
    split at e
    · cases e
    · rename_i hb
      have n1 : b ∉ os := fun z => hb (List.mem_append_left _ z)
      have n2 : b ∉ O := fun z => hb (List.mem_append_right _ z)
      exact Z.hid b u (hid_at n2 (hid_at n1 e))
  have I0 : SSo X.K O m js (hidL os H') H' σ ρ0 os := ⟨I'.I, I'.hS, I'.t, I'.dis, fun a ha => by unfold hidL; rw [if_pos ha], Sk.of hid_sub, qL, I'.c, l0⟩
  have fz : ∀ {a : Addr}, a ≠ m.S → hidL os H' a = none → F a = none := fun {a} n1 z => by
    cases e : F a with
    | none => rfl
    | some o =>
      have t := s0.at n1 e
      rw [z] at t
      cases t
  have bk : ∀ {h : Hp} {τ : L2.St} {ρ2 : Rs} {os2 : List Addr}, SSo X.K O m js (hidL os H') h τ ρ2 os2 → SSo X.K O m js F h τ ρ2 os2 := fun {h τ ρ2 os2} Z =>
    ⟨Z.I, Z.hS, Z.t, Z.dis, fun a ha => fz (fun z => Z.nS (by rw [← z]; exact ha)) (Z.e0 a ha), s0.trans Z.sk, I'.q, Z.c, Z.sl⟩
  refine for_it W (fun j τ h => ∃ ρ', r ds j ρ' ∧ SSt X.K O m js (hidL os H') h τ ρ') ⟨ρ0, r0, os, I0⟩ (fun j τ h _ p => ?_) (fun j x τ h h' hjl p y => ?_) (fun τ h p => ?_)
  · obtain ⟨ρ', hr, os2, Z⟩ := p
    exact fun b u e => by
      have z := hidOs Z b u e
      unfold hidL at e z ⊢
      split at e
      · cases e
      · rename_i hb
        rw [if_neg hb]
        split at z
        · cases z
        · exact z
  · obtain ⟨ρ', hr, os2, Z⟩ := p
    obtain ⟨y1, d, hd, y2⟩ := y
    have dx := y2 (os2 ++ O) (hidOs Z) Z.sm.t
    have Z' := Z.step (Sk.of y1) (Z.c.same y1)
    have hl' := hl ds j ρ' hr
    have Z2 : SSt X.K O m js (hidL os H') h' (τ.set i (some x)) (stS ρ' i (.im d)) := ⟨os2, Z'.back (Z'.I.setIm hl' dx) (by rw [lkS_ne hj hl']; exact Z.sl)⟩
    exact (ht ds j d ρ' f hd hr).run O _ _ h' Z2 _ (fun ρ2 σ2 H2 o I2 => by
      obtain ⟨ρ3, w3, l3, r3⟩ := o
      obtain ⟨os3, I3⟩ := I2
      exact ⟨ρ3, r3, os3, I3.weak w3 l3⟩) (fun v H2 d o k2 c2 dv => rt v H2 d o (s0.trans k2) c2 dv)
  · obtain ⟨ρ', hr, os2, Z⟩ := p
    exact q ρ' τ h ⟨ds, f, hr⟩ ⟨os2, bk Z⟩⟩
end
/-! ### a def that moves the stream -/
def entryS (m : Smk) (n : Nat) (ds : List PyData) : Rs := .ad m.S :: (ds.map Sl.im ++ List.replicate (n - 1 - ds.length) .no)
section
variable {P : Program} {w : World} {K : PySem.W.Frag} {mg : Str → Option Value} {base : Heap}
theorem SSt.entry {N : List Str} {O : List Addr} {m : Smk} {H : Hp} {vs : List V} {ds : List PyData} (M : Sm K O m H) (ha : DpAll K (hidL O H) vs ds) (hn : ds.length + 1 ≤ N.length) : SSt K O m 0 H H (L2.start N (.ref m.S :: vs)) (entryS m N.length ds) := by
  refine ⟨[], ⟨hid_sub, fun a ha => absurd ha (by simp), ?_, fun i => ?_, fun i j p hij hi hj e1 e2 => ?_⟩, M.hS, M.t, fun a ha => absurd ha (by simp), fun a ha => absurd ha (by simp), Sk.refl _ _, M.q, M.c, rfl⟩
  · unfold L2.start TT.entryS
    simp only [List.length_append, List.length_map, List.length_replicate, List.length_cons, ha.length]
    omega
  · cases i with
    | zero =>
      unfold L2.start
      rfl
    | succ i =>
      show SlOk K O [] H (lkS (ds.map Sl.im ++ List.replicate (N.length - 1 - ds.length) .no) i) _
      rw [lkS_entry]
      cases q : ds[i]? with
      | none => trivial
      | some d =>
        obtain ⟨v, h1, h2⟩ := ha.get q
        refine ⟨v, ?_, h2⟩
        unfold L2.start
        rw [List.getElem?_append_left (by rw [List.length_map, List.length_cons]; exact Nat.succ_lt_succ (List.getElem?_eq_some_iff.mp h1).1), List.getElem?_map, List.getElem?_cons_succ, h1]
        rfl
  · cases i with
    | zero => cases hi
    | succ i =>
      have hi' : isOw (lkS (ds.map Sl.im ++ List.replicate (N.length - 1 - ds.length) .no) i) = true := hi
      rw [lkS_entry] at hi'
      cases q : ds[i]? with
      | none => rw [q] at hi'; cases hi'
      | some d => rw [q] at hi'; cases hi'
theorem DfS.of {x : Str} {s : Stmt} {N ps : List Str} {k : Nat} {R : List PyData → PyData → Prop} (T : Fd K mg x ps s) (S : FnScope N ps (defScope s)) (hlen : ∀ ds d, R ds d → ds.length + 1 = ps.length)
    (body : ∀ (f : Addr) (cdv : Value) (A : Around) (outer : List Env) (s' : Shared) (H : Hp) (E : XK), Room k (A.deeper (envOfC x (defScope s) s'.heap.objs.size f cdv)) → ∀ m ds, (∃ d, R ds d) →
      SB (cxOf CX0 P w K mg base N x (defScope s) f cdv A outer s' H E).nox m 0 (defBody s) (entryS m N.length ds) (fun _ => False) (R ds)) : DfS P w K mg base x ps (k + 1) R := by
  obtain ⟨f, fd, F, hm, hb⟩ := T.ex
  have hN : ps.length ≤ N.length := by
    have := congrArg List.length S.pre
    rw [List.length_take] at this
    omega
  refine ⟨f, fd, hm, F.kp, hb, F.ok S (fun vs H Q E h => ?_) (fun cdv A outer s' H vs Q E hr h => ?_)⟩
  · obtain ⟨O, m, us, ds, _, rfl, hd, ⟨d, hR⟩, _⟩ := h
    rw [List.length_cons, hd.length]
    exact hlen ds d hR
  · obtain ⟨O, m, us, ds, M, rfl, hd, hR, q⟩ := h
    refine ⟨_, sPs_ok, (body f cdv A outer s' H E hr m ds hR).run O H _ H (SSt.entry M hd ?_) _ (fun _ _ _ o => o.elim) fun v H' d o k c dv => q v H' d k c o dv⟩
    obtain ⟨d, hR⟩ := hR
    rw [hlen ds d hR]
    exact hN
end
end TT
namespace TT
open PySem PySem.Spec PyProof.Rows L2
section
variable {K : PySem.W.Frag} {i j : Int}
theorem rd_mul (h : CMul i j) : RD2 K (rI CMul fun i j => .int (i * j)) (.int i) (.int j) (.int (i * j)) := fun O H x y Q t a b q => by
  cases a; cases b
  exact ⟨i, j, rfl, rfl, h, q _ _ (Same.refl _) (.int _)⟩
theorem rd_mod (h : 0 < j) : RD2 K (rI (fun _ j => 0 < j) fun i j => .int (i % j)) (.int i) (.int j) (.int (i % j)) := fun O H x y Q t a b q => by
  cases a; cases b
  exact ⟨i, j, rfl, rfl, h, q _ _ (Same.refl _) (.int _)⟩
theorem rd_div (h : CDiv i j) : RD2 K (rI CDiv fun i j => .int (i / j)) (.int i) (.int j) (.int (i / j)) := fun O H x y Q t a b q => by
  cases a; cases b
  exact ⟨i, j, rfl, rfl, h, q _ _ (Same.refl _) (.int _)⟩
theorem rd_pow (h : CPow i j) : RD2 K (rI CPow fun i j => .int (i ^ j.toNat)) (.int i) (.int j) (.int (i ^ j.toNat)) := fun O H x y Q t a b q => by
  cases a; cases b
  exact ⟨i, j, rfl, rfl, h, q _ _ (Same.refl _) (.int _)⟩
end
theorem sb_weak {X : Cx} {m : Smk} {js : Nat} {ss : List Stmt} {ρ ρ1 : Rs} {Ωn : Rs → Prop} {Ωr : PyData → Prop} (w : Wk ρ ρ1) (hl : lkS ρ1 js = .ad m.S) (h : SB X m js ss ρ1 Ωn Ωr) : SB X m js ss ρ Ωn Ωr := ⟨fun O F σ H I D q r => let ⟨os, I⟩ := I; h.run O F σ H ⟨os, I.weak w hl⟩ D q r⟩
section
variable {P : Program} {w : World} {K : PySem.W.Frag} {mg : Str → Option Value} {base : Heap}
abbrev nNext : List Str := ["_law_stream_here", "_law_many", "_law_k", "_law_cell", "_law_digit"]
abbrev pNext : List Str := ["_law_stream_here", "_law_many"]
theorem scNext : FnScope nNext pNext (defScope (topS 45)) := ⟨rfl, rfl, rfl, by decide +kernel, rfl, by decide +kernel, by decide +kernel⟩
def RNext : List PyData → PyData → Prop := fun ds d => ∃ n k : Nat, n < 1073741824 ∧ k < n ∧ ds = [.int (n : Int)] ∧ d = .int (k : Int)
theorem df_law_next (T : Fd K mg "_law_next" pNext (topS 45)) (M : Nm mg) : DfS P w K mg base "_law_next" pNext 1 RNext := by
  refine DfS.of T scNext (by rintro _ _ ⟨_, _, _, _, rfl, _⟩; rfl) ?_
  rintro f cdv A outer s' H E hr m ds ⟨d, n, k0, h1, h2, rfl, rfl⟩
  refine sb_cons (ss_if (B := fun _ => True) (Ωn := fun ρ' => Wk ρ' [.ad m.S, .im (.int (n : Int)), .no, .no, .no]) (st_cmp (Φa := fun d => ∃ c : Nat, d = .int (c : Int)) (Φb := (· = .int 0)) op_eq (by rintro _ _ ⟨c, rfl⟩ rfl; exact ⟨_, trivial, rd_eqI⟩) (sj_at (.inr ⟨.inl rfl, fun c => ⟨c, rfl⟩⟩) rfl) (sj_pure g_int) (nomark _)) (fun b _ => ?_)) ?_
  · cases b with
    | false => exact (if_neg (by decide)).mpr (sb_nil.imp (fun r e => by subst e; exact wk_eq (wk_eq (wk_no (wk_no (wk_no wk_nil))))) (fun _ h => h))
    | true =>
      refine (if_pos rfl).mpr (sb_cons (ss_set (Φ := fun d => ∃ c : Nat, d = .int (c : Int)) (i := 2) (sj_at (.inr ⟨.inr rfl, fun c => ⟨c, rfl⟩⟩) rfl) scNext.nd rfl (Or.inl rfl)) ?_)
      rintro _ ⟨_, ⟨k, rfl⟩, rfl⟩
      refine sb_nx (gs_set (i := 3) (GE.v (g_op op_add rd_add g_int (gv 2))) scNext.nd rfl (Or.inl rfl)) (sb_cons (Ωn1 := fun r => ∃ z : Int, 0 ≤ z ∧ r = [.ad m.S, .im (.int (n : Int)), .im (.int (k : Int)), .im (.int z), .no])
        (ss_if (B := fun b => b = true → k < m.ns.length) (st_cmp (Φa := (· = .int (k : Int))) (Φb := (· = .int (m.ns.length : Int))) op_lt (by rintro _ _ rfl rfl; exact ⟨_, fun h => by have := of_decide_eq_true h; omega, rd_lt⟩) (sj_pure (gv 2))
          (sj_callB (Ψ := (· = [.list (m.ns.map PyData.int)])) call_len_seq (by rintro _ rfl; exact ⟨_, rfl, by have := rd_lenL (K := K) (ds := m.ns.map PyData.int); rw [List.length_map] at this; exact this⟩) M.len boot_len (sa_cons (Φ := (· = .list (m.ns.map PyData.int))) (sj_at (.inl ⟨rfl, rfl⟩) rfl) sa_nil (by rintro _ _ rfl rfl; rfl))) (nomark _)) (fun b hb => ?_)) ?_)
      · cases b with
        | false => exact (if_neg (by decide)).mpr (sb_nil.imp (fun r e => by subst e; exact ⟨7 + (k : Int), by omega, rfl⟩) (fun _ h => h))
        | true =>
          have hk := hb rfl
          refine (if_pos rfl).mpr (sb_one ((ss_set (Φ := fun d => ∃ z : Int, 0 ≤ z ∧ d = .int z) (i := 3) (sj_callB (Ψ := (· = [.int m.ns[k]])) call_abs (by rintro _ rfl; exact ⟨_, ⟨_, by split <;> omega, rfl⟩, rd_abs⟩) M.abs boot_abs
            (sa_cons (Φ := (· = .int m.ns[k])) (sj_ix (Φa := (· = .list (m.ns.map PyData.int))) (Φb := (· = .int (k : Int))) ix_seq (by rintro _ _ rfl rfl; exact ⟨_, rfl, rd_ixL (atI_ints rfl hk)⟩) (sj_at (.inl ⟨rfl, rfl⟩) rfl) (sj_pure (gv 2))) sa_nil (by rintro _ _ rfl rfl; rfl))) scNext.nd rfl (Or.inl rfl)).imp (by rintro _ ⟨_, ⟨z, hz, rfl⟩, rfl⟩; exact ⟨z, hz, rfl⟩) (fun _ h => h)))
      · rintro _ ⟨z, hz, rfl⟩
        refine sb_cons (Ωn1 := fun r => ∃ z : Int, 0 ≤ z ∧ r = [.ad m.S, .im (.int (n : Int)), .im (.int (k : Int)), .im (.int z), .no])
          (ss_if (B := fun _ => True) (st_cmp (Φa := (· = .int z)) (Φb := fun d => ∃ x : Int, d = .int x) op_lt (by rintro _ _ rfl ⟨x, rfl⟩; exact ⟨_, trivial, rd_lt⟩) (sj_pure (gv 3)) ((sj_pure (g_op op_pow (rd_pow ⟨by decide, by decide, by decide⟩) g_int g_int)).imp fun d e => ⟨_, e⟩) (nomark _)) (fun b _ => ?_)) ?_
        · cases b with
          | false => exact (if_neg (by decide)).mpr (sb_nil.imp (fun r e => by subst e; exact ⟨z, hz, rfl⟩) (fun _ h => h))
          | true =>
            refine (if_pos rfl).mpr (sb_nx (gs_set (i := 3) (GE.v (g_op op_mod (rd_mod (by decide)) (g_callTy call_int1 rd_intI M.int boot_int (a_cons (g_op op_add rd_add (g_op op_add rd_add (g_op op_mul (rd_mul (.inr ⟨by decide, by decide⟩)) (gv 3) g_int) (g_op op_mul (rd_mul (.inr ⟨by decide, by decide⟩)) (gv 2) g_int)) g_int) a_nil)) g_int)) scNext.nd rfl (Or.inl rfl))
              (sb_one ((ss_nx (gs_set (i := 3) (GE.v (g_op op_add rd_add (g_op op_mul (rd_mul (.inr ⟨by decide, by decide⟩)) (g_op op_mod (rd_mod (by decide)) (g_callTy call_int1 rd_intI M.int boot_int (a_cons (g_op op_add rd_add (g_op op_mul (rd_mul (.inr ⟨by decide, by decide⟩)) (gv 3) g_int) g_int) a_nil)) g_int) g_int) (gv 3))) scNext.nd rfl (Or.inl rfl))).imp (fun r e => ?_) (fun _ h => h))))
            subst e
            exact ⟨_, by
              have a1 := Int.emod_nonneg (z * 48271 + (k : Int) * 69621 + 11) (show (2147483647 : Int) ≠ 0 by decide)
              have a2 := Int.emod_nonneg ((z * 48271 + (k : Int) * 69621 + 11) % 2147483647 * 16807 + 13) (show (2147483647 : Int) ≠ 0 by decide)
              omega, rfl⟩
        · rintro _ ⟨z, hz, rfl⟩
          refine sb_cons (ss_put (.inl rfl) ((sj_pure (gv 3)).imp fun d e => ⟨z.toNat, by rw [e, Int.toNat_of_nonneg hz]⟩) rfl) ?_
          rintro _ rfl
          refine sb_one ((ss_put (.inr rfl) ((sj_pure (g_op op_add rd_add (gv 2) g_int)).imp fun d e => ⟨k + 1, by rw [e]; rfl⟩) rfl).imp (fun r e => by subst e; exact wk_eq (wk_eq (wk_no (wk_no (wk_no wk_nil))))) (fun _ h => h))
  · intro ρ1 hw
    refine sb_weak hw rfl (sb_cons (ss_set (i := 4) (Φ := fun d => ∃ k : Nat, k < n ∧ d = .int (k : Int)) (sj_op (Φa := fun d => ∃ c : Nat, d = .int (c : Int)) (Φb := (· = .int (n : Int))) op_mod (by
        rintro _ _ ⟨c, rfl⟩ rfl
        refine ⟨_, ⟨c % n, Nat.mod_lt _ (by omega), rfl⟩, ?_⟩
        have := rd_mod (K := K) (i := (c : Int)) (j := (n : Int)) (by omega)
        rw [← Int.natCast_emod] at this
        exact this)
      (sj_callTy (Ψ := fun ds => ∃ c : Nat, ds = [.int (c : Int)]) call_int1 (by rintro _ ⟨c, rfl⟩; exact ⟨_, ⟨c, rfl⟩, rd_intI⟩) M.int boot_int (sa_cons (Φ := fun d => ∃ c : Nat, d = .int (c : Int)) (sj_at (.inr ⟨.inl rfl, fun c => ⟨c, rfl⟩⟩) rfl) sa_nil (by rintro _ _ ⟨c, rfl⟩ rfl; exact ⟨c, rfl⟩))) (sj_pure (gv 1))) scNext.nd rfl (Or.inl rfl)) ?_)
    rintro _ ⟨_, ⟨k, hk, rfl⟩, rfl⟩
    refine sb_cons (ss_put (.inl rfl) (sj_op (Φa := fun d => ∃ c : Nat, d = .int (c : Int)) (Φb := (· = .int (n : Int))) op_fdiv (by
        rintro _ _ ⟨c, rfl⟩ rfl
        refine ⟨_, ⟨c / n, rfl⟩, ?_⟩
        have := rd_div (K := K) (i := (c : Int)) (j := (n : Int)) ⟨by omega, by omega⟩
        rw [← Int.natCast_ediv] at this
        exact this) (sj_at (.inr ⟨.inl rfl, fun c => ⟨c, rfl⟩⟩) rfl) (sj_pure (gv 1))) rfl) ?_
    rintro _ rfl
    refine sb_one ((ss_rt (gs_ret (gv 4))).imp (fun _ h => h) (fun d e => ⟨n, k, h1, hk, rfl, e⟩))
end
end TT
namespace TT
open PySem PySem.Spec PyProof.Rows L2
/-! ### lists that a comprehension picks -/
theorem map_snoc {α : Type} {f : α → PyData} {as : List α} {ds : List PyData} {d : PyData} (h : as.map f = ds ++ [d]) : ∃ bs b, as = bs ++ [b] ∧ bs.map f = ds ∧ f b = d := by
  obtain ⟨l1, l2, h1, h2, h3⟩ := List.map_eq_append_iff.mp h
  obtain ⟨b, t, e1, e2, e3⟩ := List.map_eq_cons_iff.mp h3
  have : t = [] := List.map_eq_nil_iff.mp e3
  subst this
  exact ⟨l1, b, by rw [h1, e1], h2, e2⟩
theorem pk_sub {α β : Type} {T : Prop} {Φ : PyData → PyData → Prop} {f : α → PyData} {g : β → PyData} {π : β → α} {C : β → Prop} {items ds : List PyData} (h : Pk T Φ items ds) : ∀ as : List α, items = as.map f → (∀ a ∈ as, ∀ d, Φ (f a) d → ∃ b, d = g b ∧ π b = a ∧ C b) → ∃ bs : List β, ds = bs.map g ∧ (bs.map π).Sublist as ∧ ∀ b ∈ bs, C b := by
  induction h with
  | nil =>
    intro as e _
    exact ⟨[], rfl, List.nil_sublist _, fun b hb => absurd hb (by simp)⟩
  | skip t _ ih =>
    intro as e hΦ
    obtain ⟨as1, a1, rfl, e1, e2⟩ := map_snoc e.symm
    obtain ⟨bs, h1, h2, h3⟩ := ih as1 e1.symm fun a ha => hΦ a (List.mem_append_left _ ha)
    exact ⟨bs, h1, h2.trans (List.sublist_append_left _ _), h3⟩
  | take p _ ih =>
    intro as e hΦ
    obtain ⟨as1, a1, rfl, e1, rfl⟩ := map_snoc e.symm
    obtain ⟨bs, h1, h2, h3⟩ := ih as1 e1.symm fun a ha => hΦ a (List.mem_append_left _ ha)
    obtain ⟨b, rfl, hb, hc⟩ := hΦ a1 (List.mem_append_right _ (List.mem_singleton.mpr rfl)) _ p
    refine ⟨bs ++ [b], by rw [h1, List.map_append]; rfl, ?_, fun z hz => ?_⟩
    · rw [List.map_append]
      show (bs.map π ++ [π b]).Sublist (as1 ++ [a1])
      rw [hb]
      exact h2.append (List.Sublist.refl _)
    · rcases List.mem_append.mp hz with z1 | z1
      · exact h3 z z1
      · rw [List.mem_singleton.mp z1]
        exact hc
theorem pk_all {α β : Type} {Φ : PyData → PyData → Prop} {f : α → PyData} {g : β → PyData} {C : α → β → Prop} {items ds : List PyData} (h : Pk False Φ items ds) : ∀ as : List α, items = as.map f → (∀ a ∈ as, ∀ d, Φ (f a) d → ∃ b, d = g b ∧ C a b) → ∃ bs : List β, ds = bs.map g ∧ bs.length = as.length ∧ ∀ p ∈ as.zip bs, C p.1 p.2 := by
  induction h with
  | nil =>
    intro as e _
    have : as = [] := List.map_eq_nil_iff.mp e.symm
    subst this
    exact ⟨[], rfl, rfl, fun p hp => absurd hp (by simp)⟩
  | skip t _ _ => exact t.elim
  | take p _ ih =>
    intro as e hΦ
    obtain ⟨as1, a1, rfl, e1, rfl⟩ := map_snoc e.symm
    obtain ⟨bs, h1, h2, h3⟩ := ih as1 e1.symm fun a ha => hΦ a (List.mem_append_left _ ha)
    obtain ⟨b, rfl, hc⟩ := hΦ a1 (List.mem_append_right _ (List.mem_singleton.mpr rfl)) _ p
    refine ⟨bs ++ [b], by rw [h1, List.map_append]; rfl, by rw [List.length_append, List.length_append, h2]; rfl, fun z hz => ?_⟩
    rw [List.zip_append h2.symm] at hz
    rcases List.mem_append.mp hz with z1 | z1
    · exact h3 z z1
    · rw [List.mem_singleton.mp z1]
      exact hc
/-! ### the rows climb -/
theorem lex_app_lt {a b : Int} (h : a < b) : ∀ r : List Int, lexP (r ++ [a]) (r ++ [b])
  | [] => by
    show (if a = b then HT.lexLt [] [] else decide (a < b)) = true
    rw [if_neg (by omega)]
    exact decide_eq_true h
  | x :: r => by
    show (if x = x then HT.lexLt (r ++ [a]) (r ++ [b]) else _) = true
    rw [if_pos rfl]
    exact lex_app_lt h r
theorem lex_app {a b : Int} : ∀ {r q : List Int}, r.length = q.length → lexP r q → lexP (r ++ [a]) (q ++ [b])
  | [], [], _, h => by cases h
  | [], _ :: _, e, _ => by cases e
  | _ :: _, [], e, _ => by cases e
  | x :: r, y :: q, e, h => by
    have h' : (if x = y then HT.lexLt r q else decide (x < y)) = true := h
    show (if x = y then HT.lexLt (r ++ [a]) (q ++ [b]) else decide (x < y)) = true
    by_cases z : x = y
    · rw [if_pos z] at h' ⊢
      exact lex_app (Nat.succ.inj e) h'
    · rw [if_neg z] at h' ⊢
      exact h'
theorem rowsOf_len {v : Nat} : ∀ {n : Nat} {r : List Int}, r ∈ rowsOf v n → r.length = n
  | 0, r, h => by rw [List.mem_singleton.mp h]; rfl
  | n + 1, r, h => by
    obtain ⟨r0, h0, h1⟩ := List.mem_flatMap.mp h
    obtain ⟨k, _, rfl⟩ := List.mem_map.mp h1
    rw [List.length_append, rowsOf_len h0]
    rfl
theorem rowsOf_val {v : Nat} : ∀ {n : Nat} {r : List Int}, r ∈ rowsOf v n → ∀ x ∈ r, 0 ≤ x ∧ x ≤ (v : Int) - 1
  | 0, r, h => by
    rw [List.mem_singleton.mp h]
    exact fun x hx => absurd hx (by simp)
  | n + 1, r, h => by
    obtain ⟨r0, h0, h1⟩ := List.mem_flatMap.mp h
    obtain ⟨k, hk, rfl⟩ := List.mem_map.mp h1
    intro x hx
    rcases List.mem_append.mp hx with z | z
    · exact rowsOf_val h0 x z
    · rw [List.mem_singleton.mp z]
      have := List.mem_range.mp hk
      omega
theorem rowsOf_up (v : Nat) : ∀ n, (rowsOf v n).Pairwise lexP
  | 0 => List.pairwise_singleton _ _
  | n + 1 => by
    unfold rowsOf
    rw [List.pairwise_flatMap]
    refine ⟨fun r _ => ?_, ?_⟩
    · rw [List.pairwise_map]
      exact List.pairwise_lt_range.imp fun h => lex_app_lt (by omega) r
    · refine (rowsOf_up v n).imp_of_mem fun ha hb h x hx y hy => ?_
      obtain ⟨k, _, rfl⟩ := List.mem_map.mp hx
      obtain ⟨k', _, rfl⟩ := List.mem_map.mp hy
      exact lex_app (by rw [rowsOf_len ha, rowsOf_len hb]) h
section
variable {X : Cx} {e hi : Expr} {ρ : Rho} {ds : List PyData} {pos p p2 : Pos}
theorem dpA_take {K : PySem.W.Frag} {H : Hp} : ∀ {ds : List PyData} {xs : List V} (n : Nat), DpAll K H xs ds → DpAll K H (xs.take n) (ds.take n)
  | [], _, n, h => by cases h; rw [List.take_nil, List.take_nil]; exact .nil
  | _ :: _, _, 0, h => by
    cases h
    exact .nil
  | _ :: _, _, n + 1, h => by
    cases h with
    | cons h1 h2 => exact .cons h1 (dpA_take n h2)
theorem gl_cut {n : Nat} (h : GE X e ρ (.list ds)) (hh : GE X hi ρ (.int (n : Int))) : GEL X (.Subscript e (.Slice none (some hi) none p2) pos) ρ (ds.take n) :=
  ⟨fun O σ H tO sd Q q => (pe_slice sl_list sE_ok po_none (po_some sE_ok)).se (h.run O σ H tO sd _ fun v H1 s1 dv => by
    refine hh.run O σ H1 (tO.mono s1) (sd.same (hid_same s1)) _ fun u H2 s2 du => ?_
    cases du
    have dv2 := dv.same (hid_same s2)
    cases dv2 with
    | @lst a xs _ h1 h2 =>
      refine ⟨_, rfl, a, xs, rfl, hid_sub.seq h1, fun p hp => ?_⟩
      have ec : cutV xs none (some (n : Int)) = xs.take n := by
        unfold cutV
        rw [HT.sIx_none, HT.sIx_nat, List.drop_zero, Nat.sub_zero]
        exact (List.take_eq_take_min ..).symm
      rw [ec]
      have s3 : Same H2 (upd H2 p (.lst (xs.take n))) := same_new hp
      exact q p _ _ (s1.free (s2.free hp)) ((s1.trans s2).trans s3) upd_same ((dpA_take n h2).same (same_hid_new s3 hp)))⟩
end
section
variable {X : Cx} {m : Smk} {js : Nat} {e : Expr} {ρ : Rho} {pos p np : Pos} {y : Str}
theorem sj_next {n : Nat} {k : Nat} (D : DfS X.prog X.w X.K X.mg X.base "_law_next" pNext k RNext) (hr : Room k X.A) (he : SJ X m js e ρ (fun d => d = .int (n : Int))) (h0 : 0 < n) (h1 : n < 1073741824) (hN : X.N[js]? = some y) (hg : Gl X "_law_next" := by rfl)
    (hv : Vis X.env.scope y := by first | exact Or.inl rfl | exact Or.inr (Or.inl rfl) | exact Or.inr (Or.inr rfl)) (g1 : (y == ("__debug__" : Str)) = false := by decide) (g2 : (y == ("__classdict__" : Str)) = false := by decide)
    (hs : starEach (.Name y np :: [e]) X.env = (false, eval (.Name y np) X.env) :: starEach [e] X.env := by rfl) (hs2 : starEach (e :: []) X.env = (false, eval e X.env) :: starEach [] X.env := by rfl) (hpl : (backTo pos (starEach [e] X.env)).any (·.1) = false := by rfl) :
    SJ X m js (.Call (.Name "_law_next" p) (.Name y np :: [e]) [] pos) ρ (fun d => ∃ k : Nat, k < n ∧ d = .int (k : Int)) :=
  sj_call D hr (sa_cons (Ψ' := (· = [.int (n : Int)])) he sa_nil (by rintro _ _ rfl rfl; rfl) hs2) (by
    rintro _ rfl
    refine ⟨⟨_, n, 0, h1, h0, rfl, rfl⟩, ?_⟩
    rintro d ⟨n', k, _, hk, e1, rfl⟩
    have : n' = n := by
      injection e1 with e1 _
      injection e1 with e1
      omega
    subst this
    exact ⟨k, hk, rfl⟩) hN hg hv g1 g2 (by decide) hs hpl
def RPick : List PyData → PyData → Prop := fun ds d => ∃ xs : List PyData, 0 < xs.length ∧ xs.length ≤ 1000 ∧ ds = [.list xs] ∧ d ∈ xs
abbrev pPick : List Str := ["_law_stream_here", "_law_rows_here"]
theorem sj_pick {xs : List PyData} {k : Nat} (D : DfS X.prog X.w X.K X.mg X.base "_law_pick" pPick k RPick) (hr : Room k X.A) (he : SJ X m js e ρ (fun d => d = .list xs)) (h0 : 0 < xs.length) (h1 : xs.length ≤ 1000) (hN : X.N[js]? = some y) (hg : Gl X "_law_pick" := by rfl)
    (hv : Vis X.env.scope y := by first | exact Or.inl rfl | exact Or.inr (Or.inl rfl) | exact Or.inr (Or.inr rfl)) (g1 : (y == ("__debug__" : Str)) = false := by decide) (g2 : (y == ("__classdict__" : Str)) = false := by decide)
    (hs : starEach (.Name y np :: [e]) X.env = (false, eval (.Name y np) X.env) :: starEach [e] X.env := by rfl) (hs2 : starEach (e :: []) X.env = (false, eval e X.env) :: starEach [] X.env := by rfl) (hpl : (backTo pos (starEach [e] X.env)).any (·.1) = false := by rfl) :
    SJ X m js (.Call (.Name "_law_pick" p) (.Name y np :: [e]) [] pos) ρ (fun d => d ∈ xs) :=
  sj_call D hr (sa_cons (Ψ' := (· = [.list xs])) he sa_nil (by rintro _ _ rfl rfl; rfl) hs2) (by
    rintro _ rfl
    refine ⟨⟨_, xs, h0, h1, rfl, List.getElem_mem h0⟩, ?_⟩
    rintro d ⟨xs', _, _, e1, hd⟩
    have : xs' = xs := by
      injection e1 with e1 _
      injection e1 with e1
      exact e1.symm
    subst this
    exact hd) hN hg hv g1 g2 (by decide) hs hpl
end
section
variable {P : Program} {w : World} {K : PySem.W.Frag} {mg : Str → Option Value} {base : Heap}
theorem scPick : FnScope pPick pPick (defScope (topS 48)) := ⟨rfl, rfl, rfl, by decide +kernel, rfl, by decide +kernel, by decide +kernel⟩
theorem df_law_pick (T : Fd K mg "_law_pick" pPick (topS 48)) (M : Nm mg) (D1 : DfS P w K mg base "_law_next" pNext 1 RNext) : DfS P w K mg base "_law_pick" pPick 2 RPick := by
  refine DfS.of T scPick (by rintro _ _ ⟨_, _, _, rfl, _⟩; rfl) ?_
  rintro f cdv A outer s' H E hr m ds ⟨d, xs, h0, h1, rfl, hd⟩
  refine sb_one ((ss_ret (sj_ix (Φa := (· = .list xs)) (Φb := fun d => ∃ k : Nat, k < xs.length ∧ d = .int (k : Int)) (Φ := fun d => d ∈ xs) ix_seq (by
      rintro _ _ rfl ⟨k, hk, rfl⟩
      exact ⟨xs[k], List.getElem_mem hk, rd_ixL (atI_nat (List.getElem?_eq_getElem hk))⟩) (sj_pure (gv 1))
    (sj_next (n := xs.length) D1 hr (sj_pure (g_lenL M.len (gv 1))) h0 (by omega) rfl))).imp (fun _ h => h) (fun d hd => ⟨xs, h0, h1, rfl, hd⟩))
abbrev nLTable : List Str := ["_law_stream_here", "_law_values", "_law_scope", "_law_share", "_law_row"]
abbrev pLTable : List Str := ["_law_stream_here", "_law_values", "_law_scope"]
theorem scLTable : FnScope nLTable pLTable (defScope (topS 50)) := ⟨rfl, rfl, rfl, by decide +kernel, rfl, by decide +kernel, by decide +kernel⟩
def RLTable : List PyData → PyData → Prop := fun ds d => ∃ (v : Nat) (sc : List Int) (t : Tbl), v ≤ 3 ∧ sc.length ≤ 3 ∧ ds = [.int (v : Int), eR sc] ∧ TblOk (v : Int) sc t ∧ d = eT t
theorem df_law_table (T : Fd K mg "_law_table" pLTable (topS 50)) (M : Nm mg) (D1 : DfS P w K mg base "_law_next" pNext 1 RNext) (D2 : DfS P w K mg base "_law_pick" pPick 2 RPick) (D3 : Df P w K mg base "_law_rows" pLRows 1 RRowsOf) : DfS P w K mg base "_law_table" pLTable 3 RLTable := by
  refine DfS.of T scLTable (by rintro _ _ ⟨_, _, _, _, _, rfl, _⟩; rfl) ?_
  rintro f cdv A outer s' H E hr m ds ⟨d, v, sc, t0, hv, hsc, rfl, _, _⟩
  have hrl : (rowsOf v sc.length).length ≤ 729 := rowsOf_le hv (by omega)
  refine sb_cons (ss_set (i := 3) (Φ := fun d => ∃ i : Int, d = .int i) ((sj_pick (xs := [.int 1, .int 2, .int 2, .int 3]) D2 hr (sj_pure (gl_lst (a_cons g_int (a_cons g_int (a_cons g_int (a_cons g_int a_nil))))).ge) (by decide) (by decide) rfl).imp (fun d hd => by
    simp only [List.mem_cons, List.not_mem_nil, or_false] at hd
    rcases hd with rfl | rfl | rfl | rfl <;> exact ⟨_, rfl⟩)) scLTable.nd rfl (Or.inr rfl)) ?_
  rintro _ ⟨_, ⟨sh, rfl⟩, rfl⟩
  refine sb_one ((ss_ret (sj_callTy (Ψ := fun ds => ∃ es, Pk True (fun d e => ∃ c : Int, (0 ≤ c ∧ c ≤ 100) ∧ e = .tuple [d, .int c]) ((rowsOf v sc.length).map eR) es ∧ ds = [.list es]) (Φ := fun d => ∃ t, TblOk (v : Int) sc t ∧ d = eT t) call_tuple_of (by
      rintro _ ⟨es, hp, rfl⟩
      obtain ⟨bs, rfl, hs, hc⟩ := pk_sub (f := eR) (g := eP) (π := fun b : List Int × Int => b.1) (C := fun b => 0 ≤ b.2 ∧ b.2 ≤ 100) hp _ rfl (by
        rintro r _ d ⟨c, hc, rfl⟩
        exact ⟨(r, c), rfl, rfl, hc⟩)
      refine ⟨_, ⟨bs, ⟨fun p hp => ?_, fun p hp => hc p hp, (rowsOf_up v sc.length).sublist hs, ?_⟩, rfl⟩, rd_tupL⟩
      · have hm := hs.subset (List.mem_map.mpr ⟨p, hp, rfl⟩)
        exact ⟨rowsOf_len hm, rowsOf_val hm⟩
      · have := hs.length_le
        rw [List.length_map] at this
        omega) M.tuple boot_tuple
    (sa_cons ((sgl1 (i := 4) (own := [("_law_row", 4)]) (T := True) (B := fun _ => True) (Φ := fun d e => ∃ c : Int, (0 ≤ c ∧ c ≤ 100) ∧ e = .tuple [d, .int c]) (items := (rowsOf v sc.length).map eR) rfl scLTable.nd
        (gi_list (g_call D3 (hr.mono (by decide)) ⟨v, sc.length, hv, by omega, rfl, rfl⟩ (a_cons (gv 1) (a_cons (GE.to (g_len M.len (gv 2)) (by rw [List.length_map])) a_nil))))
        (blkOk_by (N := nLTable) (sc := defScope (topS 50)) (by decide +kernel)) (by decide) (ltb rfl) (by rw [List.length_map]; omega) (by decide) (fun _ => trivial) (fun _ _ _ _ _ => pg_name (i := 4) scLTable.nd rfl (Or.inl rfl)) (fun d hd s0 H0 C cl fp => ⟨?_, ?_⟩)).sj) sa_nil (by rintro _ _ ⟨es, hp, rfl⟩ rfl; exact ⟨es, hp, rfl⟩)))).imp (fun _ h => h) (fun d hd => ?_))
  · exact sts_one (st_cmp (Φb := (· = .int sh)) op_lt (by rintro _ _ ⟨k, _, rfl⟩ rfl; exact ⟨_, trivial, rd_lt⟩) (sj_next (n := 3) D1 (hr.mono (by decide)) (sj_pure g_int) (by decide) (by decide) rfl) (sj_pure (gv 3)) (nomark _))
  · refine sj_tup (Ψ := fun ds => ∃ c : Int, (0 ≤ c ∧ c ≤ 100) ∧ ds = [d, .int c]) (sa_cons (sj_pure (gv 4)) (sa_cons (Φ := fun d => ∃ c : Int, (0 ≤ c ∧ c ≤ 100) ∧ d = .int c) (Ψ' := fun ds => ∃ c : Int, (0 ≤ c ∧ c ≤ 100) ∧ ds = [.int c]) (sj_call (Ψ := fun ds => ∃ n : Nat, 0 < n ∧ n ≤ 101 ∧ ds = [.int (n : Int)]) D1 (hr.mono (by decide))
      (sa_cons ((sj_pick (xs := [.int 3, .int 101]) D2 hr (sj_pure (gl_lst (a_cons g_int (a_cons g_int a_nil))).ge) (by decide) (by decide) rfl).imp (Φa := fun d => ∃ n : Nat, 0 < n ∧ n ≤ 101 ∧ d = .int (n : Int)) (fun d hd => by
        simp only [List.mem_cons, List.not_mem_nil, or_false] at hd
        rcases hd with rfl | rfl
        · exact ⟨3, by decide, by decide, rfl⟩
        · exact ⟨101, by decide, by decide, rfl⟩)) sa_nil (by rintro _ _ ⟨n, a, b, rfl⟩ rfl; exact ⟨n, a, b, rfl⟩)) (by
        rintro _ ⟨n, a, b, rfl⟩
        refine ⟨⟨_, n, 0, by omega, a, rfl, rfl⟩, ?_⟩
        rintro d ⟨n', k, _, hk, e1, rfl⟩
        have : n' = n := by
          injection e1 with e1 _
          injection e1 with e1
          omega
        subst this
        exact ⟨_, by omega, rfl⟩) rfl) sa_nil (by rintro _ _ ⟨c, hc, rfl⟩ rfl; exact ⟨c, hc, rfl⟩)) (by rintro _ _ rfl ⟨c, hc, rfl⟩; exact ⟨c, hc, rfl⟩)) (by rintro _ ⟨c, hc, rfl⟩; exact ⟨leb rfl, c, hc, rfl⟩)
  · obtain ⟨t, ht, rfl⟩ := hd
    exact ⟨v, sc, t, hv, hsc, rfl, ht, rfl⟩
end
end TT
namespace TT
open PySem PySem.Spec PyProof.Rows L2
def PoolOk (pl : List Int) : Prop := pl.Pairwise (· < ·) ∧ ∀ x ∈ pl, 0 ≤ x ∧ x ≤ 5
theorem pool_scope {pl ns : List Int} (h : PoolOk pl) (s : ns.Sublist pl) : ScopeOk (ns.take 3) :=
  ⟨fun v hv => h.2 v (s.subset (List.mem_of_mem_take hv)), (h.1.sublist s).sublist (List.take_sublist _ _), List.length_take_le ..⟩
theorem up_len {pl : List Int} (h : pl.Pairwise (· < ·)) (h2 : ∀ x ∈ pl, 0 ≤ x ∧ x ≤ 5) : pl.length ≤ 6 := by
  have key : ∀ (l : List Int) (lo : Int), l.Pairwise (· < ·) → (∀ x ∈ l, lo ≤ x ∧ x ≤ 5) → lo ≤ 6 → (l.length : Int) ≤ 6 - lo := by
    intro l
    induction l with
    | nil => intro lo _ _ h; simp only [List.length_nil]; omega
    | cons x l ih =>
      intro lo hp hx hlo
      rw [List.pairwise_cons] at hp
      have b := hx x (List.mem_cons_self ..)
      have := ih (x + 1) hp.2 (fun y hy => ⟨hp.1 y hy, (hx y (List.mem_cons_of_mem _ hy)).2⟩) (by omega)
      rw [List.length_cons]
      omega
  have := key pl 0 h h2 (by decide)
  omega
theorem int_map_inj : ∀ {a b : List Int}, a.map PyData.int = b.map PyData.int → a = b
  | [], [], _ => rfl
  | [], _ :: _, h => by cases h
  | _ :: _, [], h => by cases h
  | x :: a, y :: b, h => by
    rw [List.map_cons, List.map_cons] at h
    injection h with h1 h2
    injection h1 with h1
    rw [h1, int_map_inj h2]
theorem eR_inj {a b : List Int} (h : eR a = eR b) : a = b := by
  injection h with h
  exact int_map_inj h
def PairOk (n : Nat) (j : Int) (e : List Int) : Prop := ∃ a b : Int, e = [a, b] ∧ 0 ≤ a ∧ a < j ∧ a < b ∧ b ≤ (n : Int) - 1
def pairsAt (j : Nat) (bs : List Nat) : List (List Int) := bs.map fun (b : Nat) => [(j : Int), (j : Int) + 1 + (b : Int)]
theorem pairs_up {n j : Nat} {prs : List (List Int)} {bs : List Nat} (h1 : ∀ e ∈ prs, PairOk n j e) (h2 : prs.Pairwise lexP) (hb : bs.Sublist (List.range (n - (j + 1)))) (hj : j < n) :
    (∀ e ∈ prs ++ pairsAt j bs, PairOk n ((j : Int) + 1) e) ∧ (prs ++ pairsAt j bs).Pairwise lexP ∧ (prs ++ pairsAt j bs).length ≤ prs.length + n := by
  refine ⟨fun e he => ?_, ?_, ?_⟩
  · rcases List.mem_append.mp he with z | z
    · obtain ⟨a, b, rfl, a0, a1, a2, a3⟩ := h1 e z
      exact ⟨a, b, rfl, a0, by omega, a2, a3⟩
    · obtain ⟨b, hm, rfl⟩ := List.mem_map.mp z
      have := List.mem_range.mp (hb.subset hm)
      exact ⟨_, _, rfl, by omega, by omega, by omega, by omega⟩
  · rw [List.pairwise_append]
    refine ⟨h2, ?_, fun x hx y hy => ?_⟩
    · unfold pairsAt
      rw [List.pairwise_map]
      refine (List.pairwise_lt_range.sublist hb).imp fun {b c} h => ?_
      show (if (j : Int) = j then (if (j : Int) + 1 + (b : Int) = (j : Int) + 1 + (c : Int) then HT.lexLt [] [] else decide ((j : Int) + 1 + (b : Int) < (j : Int) + 1 + (c : Int))) else _) = true
      rw [if_pos rfl, if_neg (by omega)]
      exact decide_eq_true (by omega)
    · obtain ⟨a, b, rfl, a0, a1, a2, a3⟩ := h1 x hx
      obtain ⟨c, hm, rfl⟩ := List.mem_map.mp hy
      show (if a = (j : Int) then HT.lexLt [b] [(j : Int) + 1 + (c : Int)] else decide (a < (j : Int))) = true
      rw [if_neg (by omega)]
      exact decide_eq_true a1
  · rw [List.length_append]
    unfold pairsAt
    rw [List.length_map]
    have := hb.length_le
    rw [List.length_range] at this
    omega
section
variable {P : Program} {w : World} {K : PySem.W.Frag} {mg : Str → Option Value} {base : Heap}
abbrev nLGraph : List Str := ["_law_stream_here", "_law_nodes", "_law_widest", "_law_values", "_law_pool", "_law_scopes", "_law_node", "_law_one", "_law_scope", "_law_pairs", "_law_other"]
abbrev pLGraph : List Str := ["_law_stream_here", "_law_nodes", "_law_widest"]
theorem scLGraph : FnScope nLGraph pLGraph (defScope (topS 52)) := ⟨rfl, rfl, rfl, by decide +kernel, rfl, by decide +kernel, by decide +kernel⟩
def RLGraph : List PyData → PyData → Prop := fun ds d => ds = [.int 4, .int 3] ∧ ∃ g, GrOk g ∧ g.sc.length ≤ 4 ∧ d = eG g
def GrSt (m : Smk) (v : Int) (pl : List Int) (a : Sl) (b : Sl) : Rs := [.ad m.S, .im (.int 4), .im (.int 3), .im (.int v), .im (eR pl), a, .no, .no, .no, b, .no]
theorem df_law_graph (T : Fd K mg "_law_graph" pLGraph (topS 52)) (M : Nm mg) (D1 : DfS P w K mg base "_law_next" pNext 1 RNext) (D2 : DfS P w K mg base "_law_pick" pPick 2 RPick) : DfS P w K mg base "_law_graph" pLGraph 3 RLGraph := by
  refine DfS.of T scLGraph (by rintro _ _ ⟨rfl, _⟩; rfl) ?_
  rintro f cdv A outer s' H E hr m ds ⟨d, rfl, _⟩
  refine sb_cons (ss_set (i := 3) (Φ := fun d => ∃ v : Int, (2 ≤ v ∧ v ≤ 3) ∧ d = .int v) (sj_op (Φa := (· = .int 2)) (Φb := fun d => ∃ k : Int, (0 ≤ k ∧ k ≤ 1) ∧ d = .int k) op_add (by rintro _ _ rfl ⟨k, hk, rfl⟩; exact ⟨_, ⟨2 + k, by omega, rfl⟩, rd_add⟩) (sj_pure g_int)
    (sj_callTy (Ψ := fun ds => ∃ b : Bool, ds = [.bool b]) call_int1 (by rintro _ ⟨b, rfl⟩; exact ⟨_, ⟨_, by cases b <;> decide, rfl⟩, rd_intB⟩) M.int boot_int
      (sa_cons (Φ := fun d => ∃ b : Bool, d = .bool b) (sj_cmp (Φb := (· = .int 0)) op_eq (by rintro _ _ ⟨k, _, rfl⟩ rfl; exact ⟨_, ⟨_, rfl⟩, rd_eqI⟩) (sj_next (n := 4) D1 (hr.mono (by decide)) (sj_pure g_int) (by decide) (by decide) rfl) (sj_pure g_int) (nomark _)) sa_nil (by rintro _ _ ⟨b, rfl⟩ rfl; exact ⟨b, rfl⟩)))) scLGraph.nd rfl (Or.inl rfl)) ?_
  rintro _ ⟨_, ⟨v, hv, rfl⟩, rfl⟩
  refine sb_cons (ss_set (i := 4) (Φ := fun d => ∃ pl : List Int, PoolOk pl ∧ d = eR pl) ((sj_pick (xs := [eR [0, 1], eR [0, 1, 2], eR [0, 2, 5], eR [0, 1, 3, 4]]) D2 hr (sj_pure (gl_lst (a_cons (g_tup (a_cons g_int (a_cons g_int a_nil))) (a_cons (g_tup (a_cons g_int (a_cons g_int (a_cons g_int a_nil)))) (a_cons (g_tup (a_cons g_int (a_cons g_int (a_cons g_int a_nil)))) (a_cons (g_tup (a_cons g_int (a_cons g_int (a_cons g_int (a_cons g_int a_nil))))) a_nil))))).ge) (by decide) (by decide) rfl).imp (fun d hd => by
    simp only [List.mem_cons, List.not_mem_nil, or_false] at hd
    rcases hd with rfl | rfl | rfl | rfl <;> exact ⟨_, ⟨by decide, by decide⟩, rfl⟩)) scLGraph.nd rfl (Or.inl rfl)) ?_
  rintro _ ⟨_, ⟨pl, hpl, rfl⟩, rfl⟩
  refine sb_nx (gs_setL (i := 5) (GEL.v (gl_lst a_nil)) scLGraph.nd rfl (Or.inl rfl)) (sb_cons (ss_for1 (i := 6) (Ψ := fun ds => ∃ n : Nat, 1 ≤ n ∧ n ≤ 4 ∧ ds = rngD 0 n) (fun ds j ρ' => ∃ scs : List (List Int), scs.length = j ∧ (∀ s ∈ scs, ScopeOk s) ∧ ρ' = GrSt m v pl (.ow (scs.map eR)) .no) PassesOwn.never rfl
    (sgi_range1 M.range (Φ := fun d => ∃ n : Nat, 1 ≤ n ∧ n ≤ 4 ∧ d = .int (n : Int)) (sj_op (Φa := (· = .int 1)) (Φb := fun d => ∃ k : Nat, k < 4 ∧ d = .int (k : Int)) op_add (by rintro _ _ rfl ⟨k, hk, rfl⟩; exact ⟨_, ⟨1 + k, by omega, by omega, by rw [Int.natCast_add]; rfl⟩, rd_add⟩) (sj_pure g_int) (sj_next (n := 4) D1 (hr.mono (by decide)) (sj_pure (gv 1)) (by decide) (by decide) rfl)) (by rintro _ ⟨n, a, b, rfl⟩; exact ⟨_, rfl, by omega, n, a, b, rfl⟩))
    (fun ds _ => ⟨_, ?_, rfl, [], rfl, fun s hs => absurd hs (by simp), rfl⟩) (pg_name (i := 6) scLGraph.nd rfl (Or.inl rfl)) (by decide) (by rintro ds j _ ⟨scs, _, _, rfl⟩; exact ltb rfl) ?_) ?_)
  · exact wk_eq (wk_eq (wk_eq (wk_eq (wk_eq (wk_eq (wk_no (wk_no (wk_no (wk_no (wk_no wk_nil))))))))))
  · rintro ds j d _ ⟨n, hn1, hn4, rfl⟩ hd ⟨scs, hl, hok, rfl⟩
    have hj : j < n := by
      have := (List.getElem?_eq_some_iff.mp hd).1
      rw [rngD_length] at this
      exact this
    refine sb_cons (ss_setC (i := 8) (Ψ := Pk True (fun d e => e = d) (pl.map PyData.int)) (ps_l1 (i := 7) (own := [("_law_one", 7)]) rfl scLGraph.nd rfl rfl (sw_true rfl rfl rfl (by decide +kernel)) (blkOk_by (N := nLGraph) (sc := defScope (topS 52)) (by decide +kernel)) (fun _ _ _ _ _ => pg_name (i := 7) scLGraph.nd rfl (Or.inl rfl)))
      (slc1 (T := True) (B := fun _ => True) (gi_tup (gv 4)) (by decide) (ltb rfl) ?_ (by decide) (fun _ => trivial) (fun d hd s0 H0 C cl fp => ⟨sts_one (st_cmp (Φb := (· = .int 1)) op_eq (by rintro _ _ ⟨k, _, rfl⟩ rfl; exact ⟨_, trivial, rd_eqI⟩) (sj_next (n := 2) D1 (hr.mono (by decide)) (sj_pure g_int) (by decide) (by decide) rfl) (sj_pure g_int) (nomark _)), sj_pure (gv 7)⟩))) ?_
    · rw [List.length_map]
      have h1 := hpl.2
      have h2 := hpl.1
      exact Nat.le_trans (up_len h2 h1) (by decide)
    · rintro _ ⟨es, hp, rfl⟩
      obtain ⟨bs, rfl, hs, _⟩ := pk_sub (f := PyData.int) (g := PyData.int) (π := fun b : Int => b) (C := fun _ => True) hp _ rfl (by rintro r _ d rfl; exact ⟨r, rfl, rfl, trivial⟩)
      rw [List.map_id'] at hs
      refine sb_one ((ss_nx (gs_app (i := 5) (d := eR (bs.take 3)) rfl (GE.v (GE.to (g_tupOf M.tuple (gl_cut (n := 3) (gv 8) (gv 2)).ge) (by rw [← List.map_take]))) (by rw [List.length_map]; omega) rfl)).imp (fun r e => ?_) (fun _ h => h))
      subst e
      refine ⟨_, ?_, rfl, scs ++ [bs.take 3], by rw [List.length_append, hl]; rfl, fun s hs' => ?_, rfl⟩
      · rw [List.map_append]
        exact wk_eq (wk_eq (wk_eq (wk_eq (wk_eq (wk_eq (wk_no (wk_no (wk_no (wk_eq (wk_eq wk_nil))))))))))
      · rcases List.mem_append.mp hs' with z | z
        · exact hok s z
        · rw [List.mem_singleton.mp z]
          exact pool_scope hpl hs
  · rintro _ ⟨ds, ⟨n, hn1, hn4, rfl⟩, scs, hl, hok, rfl⟩
    rw [rngD_length] at hl
    refine sb_frz 5 rfl (sb_nx (gs_setL (i := 9) (GEL.v (gl_lst a_nil)) scLGraph.nd rfl (Or.inl rfl)) (sb_cons (ss_for1 (i := 7) (Ψ := (· = rngD 0 n)) (fun ds j ρ' => ∃ prs : List (List Int), (∀ e ∈ prs, PairOk n j e) ∧ prs.Pairwise lexP ∧ prs.length ≤ j * n ∧ ρ' = GrSt m v pl (.im (.list (scs.map eR))) (.ow (prs.map eR))) PassesOwn.never rfl
      (sgi_pure (GI.to (gi_range1 M.range (GE.to (g_lenL M.len (gv 5)) (by rw [List.length_map, hl])) (by omega) (by omega)) (by rw [Int.toNat_natCast])))
      (by rintro _ rfl; exact ⟨_, wk_eq (wk_eq (wk_eq (wk_eq (wk_eq (wk_eq (wk_no (wk_no (wk_no (wk_eq (wk_no wk_nil)))))))))), rfl, [], fun e he => absurd he (by simp), List.Pairwise.nil, Nat.zero_le _, rfl⟩) (pg_name (i := 7) scLGraph.nd rfl (Or.inr rfl)) (by decide) (by rintro ds j _ ⟨prs, _, _, _, rfl⟩; exact ltb rfl) ?_) ?_))
    · rintro _ j d _ rfl hd ⟨prs, h1, h2, h3, rfl⟩
      have hj : j < n := by
        have := (List.getElem?_eq_some_iff.mp hd).1
        rw [rngD_length] at this
        exact this
      have ed : d = .int (j : Int) := by
        rw [rngD_at hj] at hd
        rw [← Option.some.inj hd, Int.zero_add]
      subst ed
      have hjn : j * n ≤ 4 * 4 := Nat.mul_le_mul (by omega) (by omega)
      refine sb_one ((ss_ext (i := 9) (Ψ := Pk True (fun d e => e = .tuple [.int (j : Int), d]) ((List.range (n - (j + 1))).map fun (k : Nat) => PyData.int ((j : Int) + 1 + (k : Int)))) rfl (sgl1 (i := 10) (own := [("_law_other", 10)]) (T := True) (B := fun _ => True) rfl scLGraph.nd
          (GI.to (gi_range2 M.range (g_op op_add rd_add (gv 7) g_int) (GE.to (g_lenL M.len (gv 5)) (by rw [List.length_map, hl])) (by omega) (by omega) (by omega) (by omega)) (by
            unfold rngD
            have : ((n : Int) - ((j : Int) + 1)).toNat = n - (j + 1) := by omega
            rw [this]))
          (blkOk_by (N := nLGraph) (sc := defScope (topS 52)) (by decide +kernel)) (by decide) (ltb rfl) (by rw [List.length_map, List.length_range]; omega) (by decide) (fun _ => trivial) (fun _ _ _ _ _ => pg_name (i := 10) scLGraph.nd rfl (Or.inl rfl))
          (fun d hd s0 H0 C cl fp => ⟨sts_one (st_cmp (Φb := (· = .int 1)) op_eq (by rintro _ _ ⟨k, _, rfl⟩ rfl; exact ⟨_, trivial, rd_eqI⟩) (sj_next (n := 2) D1 (hr.mono (by decide)) (sj_pure g_int) (by decide) (by decide) rfl) (sj_pure g_int) (nomark _)), sj_pure (g_tup (a_cons (gv 7) (a_cons (gv 10) a_nil)))⟩)) (fun es hp => ?_) rfl).imp (fun r e => ?_) (fun _ h => h))
      · have := hp.le
        rw [List.length_map, List.length_range] at this
        rw [List.length_map]
        omega
      · obtain ⟨es, hp, rfl⟩ := e
        obtain ⟨bs, rfl, hs, _⟩ := pk_sub (g := fun (b : Nat) => eR [(j : Int), (j : Int) + 1 + (b : Int)]) (π := fun b : Nat => b) (C := fun _ => True) hp _ rfl (by rintro r _ d rfl; exact ⟨r, rfl, rfl, trivial⟩)
        rw [List.map_id'] at hs
        obtain ⟨q1, q2, q3⟩ := pairs_up h1 h2 hs hj
        refine ⟨_, ?_, rfl, prs ++ pairsAt j bs, q1, q2, ?_, rfl⟩
        · unfold pairsAt
          rw [List.map_append, List.map_map]
          exact wk_eq (wk_eq (wk_eq (wk_eq (wk_eq (wk_eq (wk_eq (wk_no (wk_eq (wk_eq (wk_eq wk_nil))))))))))
        · rw [Nat.add_mul, Nat.one_mul]
          omega
    · rintro _ ⟨_, rfl, prs, h1, h2, h3, rfl⟩
      rw [rngD_length] at h1 h3
      have hnn : n * n ≤ 4 * 4 := Nat.mul_le_mul hn4 hn4
      refine sb_one ((ss_rt (gs_ret (g_tup (a_cons (gv 3) (a_cons (g_tupOf M.tuple (gv 5)) (a_cons (g_tupOf M.tuple (gv 9)) a_nil)))))).imp (fun _ h => h) (fun d e => ⟨rfl, ⟨v, scs, prs⟩, ?_, by show scs.length ≤ 4; omega, e⟩))
      refine ⟨hv.1, hv.2, by show 1 ≤ scs.length; omega, by show scs.length ≤ 5; omega, hok, fun e he => ?_, h2, by show prs.length ≤ 1000; omega⟩
      obtain ⟨a, b, rfl, a0, a1, a2, a3⟩ := h1 e he
      exact ⟨a, b, rfl, a0, a2, by show b ≤ (scs.length : Int) - 1; omega⟩
abbrev nLTabs : List Str := ["_law_stream_here", "_law_graph_here", "_law_scope"]
abbrev pLTabs : List Str := ["_law_stream_here", "_law_graph_here"]
theorem scLTabs : FnScope nLTabs pLTabs (defScope (topS 53)) := ⟨rfl, rfl, rfl, by decide +kernel, rfl, by decide +kernel, by decide +kernel⟩
def RLTabs : List PyData → PyData → Prop := fun ds d => ∃ g ts, GrOk g ∧ ds = [eG g] ∧ TsOk g ts ∧ d = eTs ts
theorem empty_tbl (v : Int) (s : List Int) : TblOk v s [] := ⟨fun p hp => absurd hp (by simp), fun p hp => absurd hp (by simp), List.Pairwise.nil, Nat.zero_le _⟩
theorem df_law_tables (T : Fd K mg "_law_tables" pLTabs (topS 53)) (M : Nm mg) (D1 : DfS P w K mg base "_law_table" pLTable 3 RLTable) : DfS P w K mg base "_law_tables" pLTabs 4 RLTabs := by
  refine DfS.of T scLTabs (by rintro _ _ ⟨_, _, _, rfl, _⟩; rfl) ?_
  rintro f cdv A outer s' H E hr m ds ⟨d, g, ts0, hg, rfl, _, _⟩
  have hv : g.v = (g.v.toNat : Int) := by have := hg.v2; omega
  have hv3 : g.v.toNat ≤ 3 := by have := hg.v3; omega
  refine sb_one ((ss_ret (sj_callTy (Ψ := fun ds => ∃ es, Pk False (fun d e => ∃ sc t, d = eR sc ∧ TblOk g.v sc t ∧ e = eT t) (g.sc.map eR) es ∧ ds = [.list es]) (Φ := fun d => ∃ ts, TsOk g ts ∧ d = eTs ts) call_tuple_of (by
      rintro _ ⟨es, hp, rfl⟩
      obtain ⟨bs, rfl, hl, hc⟩ := pk_all (f := eR) (g := eT) (C := fun sc t => TblOk g.v sc t) hp _ rfl (by
        rintro r _ d ⟨sc, t, e1, ht, rfl⟩
        have : r = sc := eR_inj e1
        subst this
        exact ⟨t, rfl, ht⟩)
      exact ⟨_, ⟨bs, ⟨hl, hc⟩, rfl⟩, rd_tupL⟩) M.tuple boot_tuple
    (sa_cons ((sgl1 (i := 2) (own := [("_law_scope", 2)]) (T := False) (B := (· = true)) (Φ := fun d e => ∃ sc t, d = eR sc ∧ TblOk g.v sc t ∧ e = eT t) (items := g.sc.map eR) rfl scLTabs.nd
        (gi_tup (g_ixT (n := 1) rfl (gv 1 (d := gD g)) g_int)) (blkOk_by (N := nLTabs) (sc := defScope (topS 53)) (by decide +kernel)) (by decide) (ltb rfl) (by rw [List.length_map]; have := hg.n5; omega) (by decide) (fun z => by cases z) (fun _ _ _ _ _ => pg_name (i := 2) scLTabs.nd rfl (Or.inl rfl)) (fun d hd s0 H0 C cl fp => ⟨sts_nil, ?_⟩)).sj) sa_nil (by rintro _ _ ⟨es, hp, rfl⟩ rfl; exact ⟨es, hp, rfl⟩)))).imp (fun _ h => h) (fun d hd => ?_))
  · obtain ⟨sc, hm, rfl⟩ := List.mem_map.mp hd
    have hs := (hg.sc sc hm).len
    refine sj_call (Ψ := (· = [.int g.v, eR sc])) D1 hr (sa_pure (a_cons (g_ixT (n := 0) rfl (gv 1 (d := gD g)) g_int) (a_cons (gv 2) a_nil))) (by
      rintro _ rfl
      refine ⟨⟨_, g.v.toNat, sc, [], hv3, hs, by rw [← hv], empty_tbl _ _, rfl⟩, ?_⟩
      rintro d ⟨v', sc', t, _, _, e1, ht, rfl⟩
      injection e1 with e1 e2
      injection e2 with e2 _
      injection e1 with e1
      have : sc = sc' := eR_inj e2
      subst this
      rw [← e1] at ht
      exact ⟨sc, t, rfl, ht, rfl⟩) rfl
  · obtain ⟨t, ht, rfl⟩ := hd
    exact ⟨g, t, hg, rfl, ht, rfl⟩
end
end TT
namespace TT
open PySem PySem.Spec PyProof.Rows L2
abbrev sInit : Stmt := inClass (topS 3) 0
abbrev nInit : List Str := ["self", "why"]
theorem scInit : FnScope nInit nInit (defScope sInit) := ⟨rfl, rfl, rfl, by decide +kernel, rfl, by decide +kernel, by decide +kernel⟩
/-- what is known of the class, at C, and of its maker, at fI -/
structure Npx (K : PySem.W.Frag) (mg : Str → Option Value) (C fI : Addr) : Prop where
  oex : OexC K C
  xf : XfC K C
  gC : mg "NotPossible" = some (.ref C)
  no : PySem.W.findIn K (.ref C) "why" = some none
  iC : PySem.W.findIn K (.ref C) "__init__" = some (some (.ref fI))
  tI : PySem.W.typeIn K (.ref fI) = some (.type "function")
  te : PySem.W.exmOne K (.ref C) (.ref C) = some true
  fn : ∃ fd, Fun K "__init__" "NotPossible.__init__" sInit fI fd ∧ Binds K fd nInit []
theorem if_true_of {c : Bool} {A B : Prop} (hc : c = true) (h : A) : if c = true then A else B := by
  rw [if_pos hc]
  exact h
theorem if_false_of {c : Bool} {A B : Prop} (hc : c = false) (h : B) : if c = true then A else B := by
  rw [hc, if_neg Bool.false_ne_true]
  exact h
def spInit (K : PySem.W.Frag) (C : Addr) : Sp := fun vs H Q _ => ∃ (a : Addr) (y : V), vs = [.ref a, y] ∧ H a = some (exo a C none) ∧ ∀ dx, H dx = none → dx ≠ a → Q .non (upd (upd H dx (exd dx [("why", y)])) a (exo a C (some dx)))
section
variable {P : Program} {w : World} {K : PySem.W.Frag} {mg : Str → Option Value} {base : Heap} {C fI : Addr}
theorem ok_init (N : Npx K mg C fI) : ∃ fd, Binds K fd nInit [] ∧ FnOk P w K mg base CX0 1 fI fd nInit (spInit K C) := by
  obtain ⟨fd, F, b⟩ := N.fn
  refine ⟨fd, b, F.ok scInit (fun vs H Q E h => ?_) (fun cdv A outer s H vs Q E hr h => ⟨_, pss_one (ps_ost (pv 0) (pv 1)), ?_⟩)⟩
  · obtain ⟨a, y, rfl, _⟩ := h
    rfl
  · obtain ⟨a, y, rfl, ha, q⟩ := h
    exact ⟨y, rfl, .ref a, rfl, a, C, rfl, N.oex, N.no, .inl ⟨ha, q⟩⟩
abbrev nSureV : List Str := ["graph", "tables", "rows", "row", "cost"]
abbrev pSureV : List Str := ["graph", "tables"]
theorem scSureV : FnScope nSureV pSureV (defScope (topS 36)) := ⟨rfl, rfl, rfl, by decide +kernel, rfl, by decide +kernel, by decide +kernel⟩
abbrev solR (g : Gr) (ts : List Tbl) : List (List Int) := (sols g ts).map (·.1)
def spSure (C : Addr) (K : PySem.W.Frag) : Sp := fun vs H Q E => ∃ O g ts, Trk O H ∧ DpAll K (hidL O H) vs [eG g, eTs ts] ∧ GrOk g ∧ TsOk g ts ∧
  (sols g ts = [] → ∀ (d : Addr) H', Same H H' → H' d = some (.xd [("why", .str "solutions")]) → E (.ref C) (some d) H') ∧
  (sols g ts ≠ [] → ∀ v H', Same H H' → Dp K (hidL O H') v (eSh (shared (solR g ts) (vars g.sc))) → Q v H')
theorem ok_sure (N : Npx K mg C fI) (T : Fd K mg "sure_values" pSureV (topS 36)) (M : Nm mg) (D1 : Df P w K mg base "check_tables" ["graph", "tables"] 6 (RNone RGT)) (D2 : Df P w K mg base "solutions_of" nOf 4 ROf) (D3 : Df P w K mg base "shared_values" ["rows", "some"] 1 RShared) (D4 : DfN P w K mg base "variables_of" ["graph"] 2 RVarsOf) :
    ∃ f fd, mg "sure_values" = some (.ref f) ∧ PySem.W.keepIn K (.ref f) = true ∧ Binds K fd pSureV [] ∧ FnOk P w K mg base (L2.CX P w) 7 f fd pSureV (spSure C K) := by
  obtain ⟨f, fd, F, hm, hb⟩ := T.ex
  refine ⟨f, fd, hm, F.kp, hb, F.okX scSureV (fun vs H Q E h => ?_) (fun cdv A outer s H vs Q E hr h => ⟨_, sPs_ok, ?_⟩)⟩
  · obtain ⟨O, g, ts, _, hd, _⟩ := h
    exact hd.length
  · obtain ⟨O, g, ts, tO, hd, hg, ht, hE, hQ⟩ := h
    have hl := sols_len (ts := ts) hg
    obtain ⟨fdI, bI, FI⟩ := ok_init (P := P) (w := w) (base := base) N
    refine (pss_cons sP_ok sPs_ok).se ((gs_expr (ρ := entry 5 [eG g, eTs ts]) (g_call D1 hr ⟨⟨g, ts, hg, ht, rfl⟩, rfl⟩ (a_cons (gv 0) (a_cons (gv 1) a_nil)))).run O H _ H tO (SI.entry hd (leb rfl)) _ fun σ1 H1 I1 => ?_)
    refine (pss_cons sP_ok sPs_ok).se ((gs_setCi (i := 2) (ds := (solR g ts).map eR) (ps_l2 (i := 3) (j := 4) (own := [("row", 3), ("cost", 4)]) rfl scSureV.nd rfl rfl (sw_true rfl rfl rfl (by decide +kernel)) (blkOk_by (N := nSureV) (sc := defScope (topS 36)) (by decide +kernel))
      (fun _ _ _ _ _ => pg_tup rfl (pgs_cons (pg_name (i := 3) scSureV.nd rfl (Or.inl rfl)) (pgs_cons (pg_name (i := 4) scSureV.nd rfl (Or.inl rfl)) pgs_nil))))
      (GLC.to (glc_m2 (items := (sols g ts).map fun p => (eR p.1, PyData.int p.2)) (fun a _ => a) (GI.to (gi_list (g_call D2 (hr.mono (by decide)) ⟨g, ts, hg, ht, rfl, rfl⟩ (a_cons (gv 0) (a_cons (gv 1) a_nil)))) (by rw [List.map_map]; rfl)) (by rw [List.length_map]; omega) (fun d hd s0 H0 C cl fp => gv 3)) (by unfold solR; rw [List.map_map, List.map_map]; rfl))).run O H _ _ tO I1 _ fun σ2 H2 I2 => ?_)
    obtain ⟨os, I2⟩ := I2
    refine (pss_cons sP_ok sPs_ok).se ((ps_if sT_ok sPs_ok sPs_ok).se ((t_cmp op_eq rd_eqI (g_lenL M.len (gv 2 (d := .list ((solR g ts).map eR)))) g_int (nomark _)).run O σ2 H2 (tO.mono I2.same) (I2.sd tO) _ fun H3 s3 => ?_))
    have I3 := I2.step s3
    by_cases hne : sols g ts = []
    · refine if_true_of (show decide ((((solR g ts).map eR).length : Int) = 0) = true by unfold solR; rw [hne]; rfl) ?_
      refine L2.PSs.se (pss_one (ps_raise rfl (takes_of rfl rfl rfl rfl) (by exact (pmk_oex N.oex N.iC N.tI FI (hr.mono (by decide)) bI .nil pass0 rfl N.gC (pa_cons pe_str pa_nil))))) ?_
      refine ⟨leb rfl, fun a ha => ⟨a, _, rfl, upd_same, fun dx hdx hne' => ⟨rfl, dx, [("why", .str "solutions")], upd_same, ?_, ?_, ?_⟩⟩⟩
      · rw [upd_ne hne', upd_same]
      · rw [upd_ne hne'] at hdx
        exact hdx
      · rw [upd_ne hne'] at hdx
        refine hE hne dx _ (fun b o e => ?_) upd_same
        have e3 := I3.same _ _ e
        have nb : b ≠ dx := ne_of_none e3 hdx
        have na : b ≠ a := ne_of_none e3 ha
        rw [upd_ne nb, del_ne na, upd_ne na, upd_ne nb, upd_ne na]
        exact e3
    · refine if_false_of (show decide ((((solR g ts).map eR).length : Int) = 0) = false from decide_eq_false (by
        unfold solR
        rw [List.length_map, List.length_map]
        have : 0 < (sols g ts).length := List.length_pos_iff.mpr hne
        omega)) ?_
      refine pss_nil.se ?_
      refine (gb_one (gs_ret (g_call D3 (hr.mono (by decide)) ⟨solR g ts, vars g.sc, fun e => hne (List.map_eq_nil_iff.mp e), fun r hr => ?_, by have := vars_len hg; omega, by unfold solR; rw [List.length_map]; omega, rfl, rfl⟩ (a_cons (gv 2) (a_cons (GN.ge (gn_call D4 (hr.mono (by decide)) ⟨g, hg, rfl, rfl⟩ (a_cons (gv 0) a_nil))) a_nil))))).run O H _ _ tO ⟨os, I3⟩ _ fun v H' s dv => hQ hne v H' s dv
      obtain ⟨p, hp, rfl⟩ := List.mem_map.mp hr
      exact sols_row hp
abbrev nLTold : List Str := ["_law_graph_here", "_law_tables_here", "problem"]
abbrev pLTold : List Str := ["_law_graph_here", "_law_tables_here"]
theorem scLTold : FnScope nLTold pLTold (defScope (topS 58)) := ⟨rfl, rfl, rfl, by decide +kernel, rfl, by decide +kernel, by decide +kernel⟩
def eTold (g : Gr) (ts : List Tbl) : PyData := if sols g ts = [] then .list [.str "solutions"] else eSh (shared (solR g ts) (vars g.sc))
def RLTold : List PyData → PyData → Prop := fun ds d => ∃ g ts, GrOk g ∧ TsOk g ts ∧ ds = [eG g, eTs ts] ∧ d = eTold g ts
theorem df_law_told (N : Npx K mg C fI) (T : Fd K mg "_law_told" pLTold (topS 58)) (G : ∃ f fd, mg "sure_values" = some (.ref f) ∧ PySem.W.keepIn K (.ref f) = true ∧ Binds K fd pSureV [] ∧ FnOk P w K mg base (L2.CX P w) 7 f fd pSureV (spSure C K)) : Df P w K mg base "_law_told" pLTold 8 RLTold := by
  obtain ⟨f, fd, F, hm, hb⟩ := T.ex
  obtain ⟨f2, fd2, hm2, hk2, hb2, F2⟩ := G
  refine ⟨f, fd, hm, F.kp, hb, F.ok scLTold (fun vs H Q E h => ?_) (fun cdv A outer s H vs Q E hr h => ⟨_, pss_one (ps_try_as (i := 2) (tb := fun W => tRet (tCallS (spSure C K) (WE W) (tCons (tVar 0) (tCons (tVar 1) tNil)))) (ts := fun a cls d => tRet (tLst (tCons (tXf a cls d C "why" (tVar 2)) tNil))) (Wout := fun _ _ _ _ => False) rfl rfl scLTold.nd rfl rfl ⟨rfl, by decide, Or.inl N.gC⟩ takes0
          (fun W pn xe tk _ => pss_one (ps_ret (by exact (pe_callS F2 hr rfl hm2 hk2 hb2 (fun σ => passAt tk σ) (by exact (pa_cons (pv 0) (pa_cons (pv 1) pa_nil)))))))
          (fun a oe cls d pn hz hf => pss_one (ps_ret (pe_lst (pa_cons (pe_xf N.xf N.no hz hf (pv 2)) pa_nil))))), ?_⟩)⟩
  · obtain ⟨O, ds, d, _, hd, ⟨g, ts, _, _, rfl, _⟩, _⟩ := h
    exact hd.length
  · obtain ⟨O, ds, d, tO, hd, ⟨g, ts, hg, ht, rfl, rfl⟩, q⟩ := h
    have hd0 := hd
    cases hd with
    | @cons v1 _ _ _ d1 hd2 =>
      cases hd2 with
      | @cons v2 _ _ _ d2 hd3 =>
        cases hd3
        refine ⟨_, rfl, _, rfl, O, g, ts, tO, hd0, hg, ht, fun he d H' s hx => ?_, fun hne v H' s dv => ?_⟩
        · refine ⟨true, N.te, fun _ a ha => ?_, fun z => Bool.noConfusion z⟩
          refine ⟨.ref a, rfl, rfl, rfl, d, _, .str "solutions", rfl, hx, rfl, small_n (leb rfl), fun p hp => ?_⟩
          refine q _ _ (s.trans (same_new hp)) ?_
          unfold eTold
          rw [if_pos he]
          exact .lst (.of (hid_at ((tO.mono s).out hp) upd_same)) (.cons (.str _) .nil)
        · refine q v H' s ?_
          unfold eTold
          rw [if_neg hne]
          exact dv
end
end TT
namespace TT
open PySem PySem.Spec PyProof.Rows L2
theorem idx_up {l : List Int} (h : l.Pairwise (· < ·)) {k : Nat} (hk : k < l.length) : l.idxOf l[k] = k := by
  induction l generalizing k with
  | nil => simp at hk
  | cons x l ih =>
    rw [List.pairwise_cons] at h
    cases k with
    | zero => simp
    | succ k =>
      have hk' : k < l.length := by simpa using hk
      have hx := h.1 _ (List.getElem_mem hk')
      rw [List.getElem_cons_succ, List.idxOf_cons]
      have : (x == l[k]) = false := by
        rw [beq_eq_false_iff_ne]
        omega
      rw [this, cond_false, ih h.2 hk']
def havK (g : Gr) (ts : List Tbl) (k : Nat) (v : Int) : List (List Int × Int) := (sols g ts).filter fun p => decide (p.1.getD k 0 = v)
theorem hav_eq {g : Gr} {ts : List Tbl} {k : Nat} (hk : k < (vars g.sc).length) (v : Int) : hav g ts (vars g.sc)[k] v = havK g ts k v := by
  unfold hav havK
  rw [idx_up (vars_up g.sc) hk]
theorem poss_eq {g : Gr} {ts : List Tbl} {k : Nat} (hk : k < (vars g.sc).length) : poss g ts (vars g.sc)[k] = ((List.range g.v.toNat).filter fun (z : Nat) => (solR g ts).any fun r => decide (r.getD k 0 = (z : Int))).map fun (z : Nat) => (z : Int) := by
  unfold poss
  congr 1
  refine List.filter_congr fun z _ => ?_
  rw [hav_eq hk]
  unfold havK solR
  rw [List.any_map]
  rw [Bool.eq_iff_iff, decide_eq_true_iff, List.any_eq_true, List.length_pos_iff_exists_mem]
  constructor
  · rintro ⟨p, hp⟩
    obtain ⟨h1, h2⟩ := List.mem_filter.mp hp
    exact ⟨p, h1, h2⟩
  · rintro ⟨p, h1, h2⟩
    exact ⟨p, List.mem_filter.mpr ⟨h1, h2⟩⟩
theorem others_nil {g : Gr} {ts : List Tbl} {k : Nat} (hk : k < (vars g.sc).length) (v : Int) : others g ts (vars g.sc)[k] v = [] ↔ (havK g ts k v).length = (sols g ts).length := by
  unfold others havR
  rw [hav_eq hk]
  unfold havK
  rw [List.filter_eq_nil_iff]
  constructor
  · intro h
    have : (sols g ts).filter (fun p => decide (p.1.getD k 0 = v)) = sols g ts := by
      rw [List.filter_eq_self]
      intro p hp
      have h1 := h p.1 (List.mem_map.mpr ⟨p, hp, rfl⟩)
      rw [Bool.not_eq_true, Bool.not_eq_false', List.any_eq_true] at h1
      obtain ⟨z, hz, e⟩ := h1
      obtain ⟨q, hq, rfl⟩ := List.mem_map.mp hz
      rw [← of_decide_eq_true e]
      exact (List.mem_filter.mp hq).2
    rw [this]
  · intro h r hr
    have hf := List.filter_eq_self.mp ((List.filter_sublist (p := fun p : List Int × Int => decide (p.1.getD k 0 = v)) (l := sols g ts)).eq_of_length h)
    obtain ⟨p, hp, rfl⟩ := List.mem_map.mp hr
    rw [Bool.not_eq_true, Bool.not_eq_false', List.any_eq_true]
    exact ⟨p.1, List.mem_map.mpr ⟨p, List.mem_filter.mpr ⟨hp, hf p hp⟩, rfl⟩, decide_eq_true rfl⟩
def lword (g : Gr) (ts : List Tbl) (k : Nat) (v : Int) : Str := if havK g ts k v = [] then "never" else if (havK g ts k v).length = (sols g ts).length then "always" else "sometimes"
theorem word_eq {g : Gr} {ts : List Tbl} {k : Nat} (hk : k < (vars g.sc).length) (v : Int) : word (havR g ts (vars g.sc)[k] v) (others g ts (vars g.sc)[k] v) = lword g ts k v := by
  have ho := others_nil (ts := ts) hk v
  unfold lword
  by_cases h : havK g ts k v = []
  · rw [if_pos h]
    unfold havR
    rw [hav_eq hk, h]
    rfl
  · rw [if_neg h]
    have hr : ∃ a as, havR g ts (vars g.sc)[k] v = a :: as := by
      unfold havR
      rw [hav_eq hk]
      cases q : havK g ts k v with
      | nil => exact absurd q h
      | cons a as => exact ⟨_, _, rfl⟩
    obtain ⟨a, as, e⟩ := hr
    rw [e]
    cases q : others g ts (vars g.sc)[k] v with
    | nil => rw [if_pos (ho.mp q)]; rfl
    | cons b bs =>
      rw [if_neg fun z => by rw [ho.mpr z] at q; cases q]
      rfl
/-! ### a value as a further table -/
def more (g : Gr) (x : Int) : Gr := ⟨g.v, g.sc ++ [[x]], g.ed⟩
def moreT (ts : List Tbl) (v : Int) : List Tbl := ts ++ [[([v], 0)]]
theorem more_vars {g : Gr} {x : Int} (hx : x ∈ vars g.sc) : vars (more g x).sc = vars g.sc := by
  have hl : x ∈ varsL g.sc := by
    rw [vars_mem] at hx
    obtain ⟨s, hs, h⟩ := hx
    unfold varsL
    rw [addSc_mem]
    exact .inr ⟨s, hs, h⟩
  unfold vars
  have : varsL (more g x).sc = varsL g.sc := by
    show (g.sc ++ [[x]]).foldl (fun ks s => s.foldl addK ks) [] = varsL g.sc
    rw [List.foldl_append]
    show addK (varsL g.sc) x = varsL g.sc
    unfold addK
    rw [if_pos hl]
  rw [this]
theorem more_ok {g : Gr} (hg : GrOk g) (h4 : g.sc.length ≤ 4) {x : Int} (hx : x ∈ vars g.sc) : GrOk (more g x) := by
  have hr := vars_rng hg hx
  refine ⟨hg.v2, hg.v3, ?_, ?_, fun s hs => ?_, fun e he => ?_, hg.up, hg.el⟩
  · show 1 ≤ (g.sc ++ [[x]]).length
    rw [List.length_append]
    exact Nat.le_add_left _ _
  · show (g.sc ++ [[x]]).length ≤ 5
    rw [List.length_append]
    show g.sc.length + 1 ≤ 5
    omega
  · rcases List.mem_append.mp hs with z | z
    · exact hg.sc s z
    · rw [List.mem_singleton.mp z]
      refine ⟨fun y hy => ?_, List.pairwise_singleton _ _, by show 1 ≤ 3; decide⟩
      rw [List.mem_singleton.mp hy]
      exact hr
  · obtain ⟨a, b, rfl, a0, a1, a2⟩ := (hg.ed e he).ex
    refine ⟨a, b, rfl, a0, a1, ?_⟩
    show b ≤ (((g.sc ++ [[x]]).length : Nat) : Int) - 1
    rw [List.length_append]
    show b ≤ ((g.sc.length + 1 : Nat) : Int) - 1
    omega
theorem moreT_ok {g : Gr} {ts : List Tbl} (ht : TsOk g ts) {x v : Int} (h0 : 0 ≤ v) (h1 : v ≤ g.v - 1) : TsOk (more g x) (moreT ts v) := by
  refine ⟨?_, fun p hp => ?_⟩
  · show (ts ++ [[([v], 0)]]).length = (g.sc ++ [[x]]).length
    rw [List.length_append, List.length_append, ht.len]
    rfl
  · have hz : (g.sc ++ [[x]]).zip (ts ++ [[([v], 0)]]) = g.sc.zip ts ++ [([x], [([v], (0 : Int))])] := List.zip_append ht.len.symm
    have hp' : p ∈ (g.sc ++ [[x]]).zip (ts ++ [[([v], 0)]]) := hp
    rw [hz] at hp'
    rcases List.mem_append.mp hp' with z | z
    · exact ht.ok p z
    · rw [List.mem_singleton.mp z]
      refine ⟨fun q hq => ?_, fun q hq => ?_, List.pairwise_singleton _ _, by show 1 ≤ 1000; decide⟩
      · rw [List.mem_singleton.mp hq]
        refine ⟨rfl, fun y hy => ?_⟩
        rw [List.mem_singleton.mp hy]
        exact ⟨h0, h1⟩
      · rw [List.mem_singleton.mp hq]
        exact ⟨Int.le_refl _, show (0 : Int) ≤ 100 by decide⟩
theorem part_one : ∀ {vs row : List Int} {k : Nat} (hk : k < vs.length), vs.Pairwise (· < ·) → row.length = vs.length → partOf vs row [vs[k]] = [row.getD k 0]
  | [], _, k, hk, _, _ => by simp at hk
  | s :: vs, [], k, hk, _, hl => by cases hl
  | s :: vs, r :: row, 0, hk, hp, hl => by
    rw [List.pairwise_cons] at hp
    unfold partOf
    rw [List.zip_cons_cons, List.filter_cons]
    have e1 : decide (s ∈ [(s :: vs)[0]]) = true := by simp
    rw [if_pos e1]
    have : (vs.zip row).filter (fun p => decide (p.1 ∈ [(s :: vs)[0]])) = [] := by
      rw [List.filter_eq_nil_iff]
      intro p hp2 hd
      have h1 := of_decide_eq_true hd
      have h2 := hp.1 p.1 (List.of_mem_zip hp2).1
      simp at h1
      omega
    rw [this]
    rfl
  | s :: vs, r :: row, k + 1, hk, hp, hl => by
    rw [List.pairwise_cons] at hp
    have hk' : k < vs.length := by simpa using hk
    have ih := part_one (row := row) hk' hp.2 (by simpa using hl)
    have hs := hp.1 _ (List.getElem_mem hk')
    unfold partOf at ih ⊢
    rw [List.zip_cons_cons, List.filter_cons, List.getElem_cons_succ]
    have e1 : ¬ decide (s ∈ [vs[k]]) = true := by
      simp
      omega
    rw [if_neg e1, ih]
    simp
theorem more_acc {g : Gr} {ts : List Tbl} (ht : TsOk g ts) {k : Nat} (hk : k < (vars g.sc).length) {v : Int} {r : List Int} (hr : r.length = (vars g.sc).length) :
    accAll (more g (vars g.sc)[k]) (moreT ts v) r = (accAll g ts r && decide (r.getD k 0 = v)) ∧ (r.getD k 0 = v → priceTo (more g (vars g.sc)[k]) (moreT ts v) r (g.sc.length + 1) = priceTo g ts r g.sc.length) := by
  have hx : (vars g.sc)[k] ∈ vars g.sc := List.getElem_mem hk
  have hv := more_vars hx
  have hlen : (more g (vars g.sc)[k]).sc.length = g.sc.length + 1 := by
    show (g.sc ++ [[(vars g.sc)[k]]]).length = _
    rw [List.length_append]
    rfl
  have low : ∀ i, i < g.sc.length → partAt (more g (vars g.sc)[k]) r i = partAt g r i ∧ (moreT ts v).getD i [] = ts.getD i [] := by
    intro i hi
    refine ⟨?_, ?_⟩
    · unfold partAt
      rw [hv]
      have : (more g (vars g.sc)[k]).sc.getD i [] = g.sc.getD i [] := by
        show (g.sc ++ [[(vars g.sc)[k]]]).getD i [] = _
        rw [List.getD_eq_getElem?_getD, List.getD_eq_getElem?_getD, List.getElem?_append_left hi]
      rw [this]
    · unfold moreT
      rw [List.getD_eq_getElem?_getD, List.getD_eq_getElem?_getD, List.getElem?_append_left (by rw [ht.len]; exact hi)]
  have top1 : partAt (more g (vars g.sc)[k]) r g.sc.length = [r.getD k 0] := by
    unfold partAt
    rw [hv]
    have : (more g (vars g.sc)[k]).sc.getD g.sc.length [] = [(vars g.sc)[k]] := by
      show (g.sc ++ [[(vars g.sc)[k]]]).getD g.sc.length [] = _
      rw [List.getD_eq_getElem?_getD, List.getElem?_append_right (Nat.le_refl _), Nat.sub_self]
      rfl
    rw [this]
    exact part_one hk (vars_up g.sc) hr
  have top2 : (moreT ts v).getD g.sc.length [] = [([v], 0)] := by
    unfold moreT
    rw [List.getD_eq_getElem?_getD, ← ht.len, List.getElem?_append_right (Nat.le_refl _), Nat.sub_self]
    rfl
  refine ⟨?_, fun e => ?_⟩
  · unfold accAll
    rw [hlen, List.range_succ, List.all_append]
    congr 1
    · rw [Bool.eq_iff_iff, List.all_eq_true, List.all_eq_true]
      refine forall_congr' fun i => ?_
      refine imp_congr_right fun hi => ?_
      have := low i (List.mem_range.mp hi)
      unfold accAt
      rw [this.1, this.2]
    · rw [List.all_cons, List.all_nil, Bool.and_true]
      unfold accAt
      rw [top1, top2, List.any_cons, List.any_nil, Bool.or_false, Bool.eq_iff_iff, decide_eq_true_iff, decide_eq_true_iff]
      constructor
      · intro h
        injection h with h
        exact h.symm
      · intro h
        rw [h]
  · unfold priceTo
    rw [List.range_succ, List.map_append, List.sum_append]
    have e1 : (List.range g.sc.length).map (priceAt (more g (vars g.sc)[k]) (moreT ts v) r) = (List.range g.sc.length).map (priceAt g ts r) := by
      refine List.map_congr_left fun i hi => ?_
      have := low i (List.mem_range.mp hi)
      unfold priceAt
      rw [this.1, this.2]
    have e2 : ([g.sc.length].map (priceAt (more g (vars g.sc)[k]) (moreT ts v) r)).sum = 0 := by
      rw [List.map_cons, List.map_nil]
      unfold priceAt
      rw [top1, top2, e, List.filter_cons, if_pos (decide_eq_true rfl)]
      rfl
    rw [e1, e2, Int.add_zero]
theorem more_sols {g : Gr} {ts : List Tbl} (ht : TsOk g ts) {k : Nat} (hk : k < (vars g.sc).length) (v : Int) : sols (more g (vars g.sc)[k]) (moreT ts v) = havK g ts k v := by
  have hv := more_vars (List.getElem_mem hk)
  have hlen : (more g (vars g.sc)[k]).sc.length = g.sc.length + 1 := by
    show (g.sc ++ [[(vars g.sc)[k]]]).length = _
    rw [List.length_append]
    rfl
  unfold havK sols
  rw [hv, hlen, List.filter_map, List.filter_filter]
  show ((rowsOf g.v.toNat (vars g.sc).length).filter _).map _ = _
  have e1 : (rowsOf g.v.toNat (vars g.sc).length).filter (accAll (more g (vars g.sc)[k]) (moreT ts v)) = (rowsOf g.v.toNat (vars g.sc).length).filter (fun r => (((fun p : List Int × Int => decide (p.1.getD k 0 = v)) ∘ fun r => (r, priceTo g ts r g.sc.length)) r) && accAll g ts r) := by
    refine List.filter_congr fun r hr => ?_
    rw [(more_acc ht hk (rowsOf_len hr)).1, Bool.and_comm]
    rfl
  rw [e1]
  refine List.map_congr_left fun r hr => ?_
  obtain ⟨h1, h2⟩ := List.mem_filter.mp hr
  rw [Bool.and_eq_true] at h2
  rw [(more_acc (v := v) ht hk (rowsOf_len h1)).2 (of_decide_eq_true h2.1)]
theorem more_hav {g : Gr} {ts : List Tbl} (ht : TsOk g ts) {k : Nat} (hk : k < (vars g.sc).length) (v : Int) : hav (more g (vars g.sc)[k]) (moreT ts v) (vars g.sc)[k] v = havK g ts k v := by
  unfold hav
  rw [more_vars (List.getElem_mem hk), idx_up (vars_up g.sc) hk, more_sols ht hk]
  unfold havK
  rw [List.filter_filter]
  refine List.filter_congr fun p _ => Bool.and_self _
/-! ### tables that lose rows -/
def Less (ts ts' : List Tbl) : Prop := ts'.length = ts.length ∧ ∀ p ∈ ts.zip ts', p.2.Sublist p.1
theorem less_at {ts ts' : List Tbl} (h : Less ts ts') (i : Nat) : (ts'.getD i []).Sublist (ts.getD i []) := by
  by_cases hi : i < ts.length
  · have hi' : i < ts'.length := by rw [h.1]; exact hi
    rw [getD_at hi, getD_at hi']
    refine h.2 (ts[i], ts'[i]) ?_
    rw [List.mem_iff_getElem?]
    exact ⟨i, by rw [List.getElem?_zip_eq_some]; exact ⟨List.getElem?_eq_getElem hi, List.getElem?_eq_getElem hi'⟩⟩
  · have hi' : ¬ i < ts'.length := by rw [h.1]; exact hi
    rw [List.getD_eq_getElem?_getD, List.getElem?_eq_none (by omega)]
    exact List.nil_sublist _
theorem less_ok {g : Gr} {ts ts' : List Tbl} (ht : TsOk g ts) (h : Less ts ts') : TsOk g ts' := by
  refine ⟨h.1.trans ht.len, fun p hp => ?_⟩
  obtain ⟨i, hi⟩ := List.mem_iff_getElem?.mp hp
  rw [List.getElem?_zip_eq_some] at hi
  obtain ⟨h1, h2⟩ := hi
  have i1 := (List.getElem?_eq_some_iff.mp h1).1
  have i2 : i < ts.length := by rw [ht.len]; exact i1
  have sub := less_at h i
  have e2 : ts'.getD i [] = p.2 := by rw [List.getD_eq_getElem?_getD, h2]; rfl
  rw [e2, getD_at i2] at sub
  have T := ht.ok (p.1, ts[i]) (by
    rw [List.mem_iff_getElem?]
    exact ⟨i, by rw [List.getElem?_zip_eq_some]; exact ⟨h1, List.getElem?_eq_getElem i2⟩⟩)
  exact ⟨fun q hq => T.rows q (sub.subset hq), fun q hq => T.cost q (sub.subset hq), T.up.sublist (sub.map _), Nat.le_trans sub.length_le T.len⟩
theorem less_row {g : Gr} {ts ts' : List Tbl} (h : Less ts ts') {r : List Int} (hr : r ∈ solR g ts') : r ∈ solR g ts := by
  obtain ⟨p, hp, rfl⟩ := List.mem_map.mp hr
  obtain ⟨r, hr1, rfl⟩ := List.mem_map.mp hp
  obtain ⟨h1, h2⟩ := List.mem_filter.mp hr1
  have h3 : accAll g ts r = true := by
    unfold accAll at h2 ⊢
    rw [List.all_eq_true] at h2 ⊢
    intro i hi
    have h4 := h2 i hi
    unfold accAt at h4 ⊢
    rw [List.any_eq_true] at h4 ⊢
    obtain ⟨q, hq, e⟩ := h4
    exact ⟨q, (less_at h i).subset hq, e⟩
  exact List.mem_map.mpr ⟨_, List.mem_map.mpr ⟨r, List.mem_filter.mpr ⟨h1, h3⟩, rfl⟩, rfl⟩
theorem less_never {g : Gr} {ts ts' : List Tbl} (h : Less ts ts') {k : Nat} (hk : k < (vars g.sc).length) {v : Int} (hl : ∀ r ∈ solR g ts, r.getD k 0 ≠ v) (bs : List (List Int)) : word (havR g ts' (vars g.sc)[k] v) bs = "never" := by
  have : havR g ts' (vars g.sc)[k] v = [] := by
    unfold havR
    rw [hav_eq hk, List.map_eq_nil_iff]
    unfold havK
    rw [List.filter_eq_nil_iff]
    intro p hp e
    exact hl p.1 (less_row h (List.mem_map.mpr ⟨p, hp, rfl⟩)) (of_decide_eq_true e)
  rw [this]
  rfl
/-! ### data that _law_equal goes through -/
theorem ok_eR {ns : List Int} (n : Nat) (h : ns.length ≤ 1000) : okD (n + 1) (eR ns) = true := by
  show (decide ((ns.map PyData.int).length ≤ 1000) && (ns.map PyData.int).all (okD n)) = true
  rw [List.length_map, decide_eq_true h, List.all_map, Bool.true_and, List.all_eq_true]
  intro x _
  cases n <;> rfl
theorem ok_eSh {l : List (Int × Int)} (h : l.length ≤ 1000) : okD 2 (eSh l) = true := by
  show (decide ((l.map eq1).length ≤ 1000) && (l.map eq1).all (okD 1)) = true
  rw [List.length_map, decide_eq_true h, List.all_map, Bool.true_and, List.all_eq_true]
  intro x _
  rfl
theorem shared_len (rows : List (List Int)) (some : List Int) : (shared rows some).length ≤ some.length := by
  unfold shared
  rw [List.length_map]
  exact Nat.le_trans (List.length_filter_le _ _) (by rw [List.length_range]; exact Nat.le_refl _)
theorem ok_told {g : Gr} {ts : List Tbl} (hg : GrOk g) : okD 2 (eTold g ts) = true := by
  unfold eTold
  split
  · rfl
  · exact ok_eSh (Nat.le_trans (shared_len _ _) (Nat.le_trans (vars_len hg) (by decide)))
theorem ok_what (l : List (List Int × Int)) : okD 2 (eWhat l) = true := by
  unfold eWhat
  split <;> rfl
theorem ok_imp {g : Gr} {ts : List Tbl} (hg : GrOk g) (x v : Int) : okD 2 (eImp g ts x v) = true := by
  unfold eImp
  split
  · rfl
  · exact ok_eSh (Nat.le_trans (shared_len _ _) (Nat.le_trans (vars_len hg) (by decide)))
theorem ok_three {a b : PyData} {x : Str} (ha : okD 2 a = true) (hb : okD 2 b = true) : okD 3 (.list [a, b, .str x]) = true := by
  show (decide (3 ≤ 1000) && (okD 2 a && (okD 2 b && (true && true)))) = true
  rw [ha, hb]
  rfl
end TT
namespace TT
open PySem PySem.Spec PyProof.Rows L2
section
variable {X : Cx} {e : Expr} {ρ : Rho} {ds : List PyData} {pos p p2 : Pos}
theorem t_tru (h : GE X e ρ (.list ds)) (he : ∀ whole, isTrue e X.env whole = (do let v ← whole; standAt e.pos; holding [v] (truthy v)) := by intro _; rfl) : GT X e ρ (!ds.isEmpty) :=
  ⟨fun O σ H tO sd Q q => (pt_truth sE_ok he).se (h.run O σ H tO sd _ fun v H' s dv => by
    cases dv with
    | @lst a xs _ h1 h2 =>
      refine ⟨!ds.isEmpty, .inl ⟨xs, hid_sub.seq h1, ?_⟩, q H' s⟩
      have := h2.length
      cases xs <;> cases ds <;> first | rfl | (simp at this))⟩
end
/-! ### parts of the text -/
def asgV : Stmt → Expr
  | .Assign _ e _ => e
  | _ => .Constant .none 0 ⟨0, 0, 0, 0⟩
def arg1 : Expr → Expr
  | .Call _ (a :: _) _ _ => a
  | e => e
def lcS : Expr → Scope
  | .ListComp _ _ s _ => s
  | _ => { kind := .function, names := [], isGenerator := false, isCoroutine := false, more := [] }
/-! ### the row's k-th value -/
def rowAt (k : Nat) : PyData → Int
  | .tuple r => (match r.getD k .none with | .int y => y | _ => 0)
  | _ => 0
theorem rowAt_eR {k : Nat} {r : List Int} (h : k < r.length) : rowAt k (eR r) = r.getD k 0 := by
  show (match (r.map PyData.int).getD k .none with | .int y => y | _ => 0) = _
  rw [List.getD_eq_getElem?_getD (l := r.map PyData.int), List.getElem?_map, List.getElem?_eq_getElem h, getD_at h]
  rfl
def hasV (g : Gr) (ts : List Tbl) (k : Nat) : PyData → Bool
  | .int z => (solR g ts).any fun r => decide (r.getD k 0 = z)
  | _ => false
theorem solR_row {g : Gr} {ts : List Tbl} {r : List Int} (h : r ∈ solR g ts) : r.length = (vars g.sc).length := by
  obtain ⟨p, hp, rfl⟩ := List.mem_map.mp h
  exact sols_row hp
theorem solR_len {g : Gr} {ts : List Tbl} (hg : GrOk g) : (solR g ts).length ≤ 729 := by
  unfold solR
  rw [List.length_map]
  exact sols_len hg
theorem havK_len {g : Gr} {ts : List Tbl} {k : Nat} {v : Int} (hg : GrOk g) : (havK g ts k v).length ≤ 729 := Nat.le_trans (List.length_filter_le _ _) (sols_len hg)
theorem rows_inj : ∀ {a b : List (List Int)}, a.map eR = b.map eR → a = b
  | [], [], _ => rfl
  | [], _ :: _, h => by cases h
  | _ :: _, [], h => by cases h
  | x :: a, y :: b, h => by
    rw [List.map_cons, List.map_cons] at h
    injection h with h1 h2
    rw [eR_inj h1, rows_inj h2]
theorem eG_inj {a b : Gr} (h : eG a = eG b) : a = b := by
  obtain ⟨v, sc, ed⟩ := a
  obtain ⟨v', sc', ed'⟩ := b
  injection h with h
  injection h with h1 h
  injection h with h2 h
  injection h with h3 _
  injection h1 with h1
  injection h2 with h2
  injection h3 with h3
  have h1' : v = v' := h1
  have h2' : sc = sc' := rows_inj h2
  have h3' : ed = ed' := rows_inj h3
  rw [h1', h2', h3']
theorem vals_eq {g : Gr} {ts : List Tbl} {k : Nat} (hk : k < (vars g.sc).length) : PyData.tuple (((rngD 0 g.v.toNat).filter (hasV g ts k)).map id) = eR (poss g ts (vars g.sc)[k]) := by
  rw [poss_eq hk]
  unfold rngD
  rw [List.filter_map, List.map_id]
  have e : (hasV g ts k ∘ fun (z : Nat) => PyData.int (0 + (z : Int))) = fun (z : Nat) => (solR g ts).any fun r => decide (r.getD k 0 = (z : Int)) := by
    funext z
    show ((solR g ts).any fun r => decide (r.getD k 0 = (0 + (z : Int)))) = _
    rw [Int.zero_add]
  rw [e]
  show PyData.tuple _ = PyData.tuple ((((List.range g.v.toNat).filter _).map fun (z : Nat) => (z : Int)).map PyData.int)
  rw [List.map_map]
  congr 1
  refine List.map_congr_left fun z _ => ?_
  show PyData.int (0 + (z : Int)) = PyData.int (z : Int)
  rw [Int.zero_add]
theorem poss_len {g : Gr} {ts : List Tbl} {x : Int} (hg : GrOk g) : (poss g ts x).length ≤ 1000 := by
  unfold poss
  rw [List.length_map]
  have h := List.length_filter_le (fun (k : Nat) => decide (0 < (hav g ts x (k : Int)).length)) (List.range g.v.toNat)
  rw [List.length_range] at h
  have := hg.v3
  omega
/-! ### the context -/
abbrev nLaw : List Str := ["_law_script", "_law_stream_here", "_law_graph_here", "_law_tables_here", "_law_some", "_law_found", "_law_rows_here", "_law_k", "_law_value", "_law_values", "_law_having", "_law_due", "_law_pairs", "_law_word", "_law_told_here", "_law_more", "_law_fewer", "_law_lost", "_law_row", "_law_cost", "_law_pair", "_law_table_here"]
abbrev pLaw : List Str := ["_law_script"]
theorem scLaw : FnScope nLaw pLaw (defScope (topS 59)) := ⟨rfl, rfl, rfl, by decide +kernel, rfl, by decide +kernel, by decide +kernel⟩
abbrev lawX (P : Program) (w : World) (K : PySem.W.Frag) (mg : Str → Option Value) (base : Heap) (f : Addr) (cdv : Value) (A : Around) (outer : List Env) (s' : Shared) (H : Hp) (E : XK) : Cx := (cxOf CX0 P w K mg base nLaw "law" (defScope (topS 59)) f cdv A outer s' H E).nox
structure LawD (P : Program) (w : World) (K : PySem.W.Frag) (mg : Str → Option Value) (base : Heap) : Prop where
  eq : ∀ n, Df P w K mg base "_law_equal" pEq (n + 2) (REq n)
  nx : DfS P w K mg base "_law_next" pNext 1 RNext
  gr : DfS P w K mg base "_law_graph" pLGraph 3 RLGraph
  tb : DfS P w K mg base "_law_tables" pLTabs 4 RLTabs
  va : Df P w K mg base "_law_variables" pLVars 1 RLVars
  so : Df P w K mg base "_law_solutions" pLSols 2 RBy
  ev : Df P w K mg base "_law_every" nEvery 1 REvery
  su : Df P w K mg base "_law_sure" pSure 1 RSure
  to : Df P w K mg base "_law_told" pLTold 8 RLTold
  po : Df P w K mg base "possible_values" nCV 8 RPoss
  wh : Df P w K mg base "what_if" nQ 9 RWhat
  im : Df P w K mg base "implied" nQ 9 RImp
  ve : Df P w K mg base "verdict" nQ 9 RVerd
abbrev Lst (S : Addr) (g : Gr) (ts : List Tbl) (rest : Rs) : Rs := .no :: .ad S :: .im (eG g) :: .im (eTs ts) :: .im (eR (vars g.sc)) :: .im (eSols (sols g ts)) :: .im (.list ((solR g ts).map eR)) :: rest
abbrev lawB : List Stmt := defBody (topS 59)
abbrev lawF : List Stmt := forBody (nth lawB 7)
section
variable {P : Program} {w : World} {K : PySem.W.Frag} {mg : Str → Option Value} {base : Heap} {f : Addr} {cdv : Value} {A : Around} {outer : List Env} {s' : Shared} {H : Hp} {E : XK}
variable {S : Addr} {g : Gr} {ts : List Tbl} {k : Nat}
/-- tuple([value for value in range(graph[0]) if any([row[k] == value for row in rows])]) -/
theorem law_vals (M : Nm mg) (hg : GrOk g) (hk : k < (vars g.sc).length) :
    GE (lawX P w K mg base f cdv A outer s' H E) (asgV (nth lawF 0)) (datN (Lst S g ts [.im (.int (0 + (k : Int))), .no, .no, .no, .no, .no, .no, .no, .no, .no, .no, .no, .no, .no, .no])) (eR (poss g ts (vars g.sc)[k])) := by
  have hv3 := hg.v3
  have hv2 := hg.v2
  have hl := solR_len (ts := ts) hg
  refine GE.to (g_tupOf M.tuple (GEL.ge (gel_lc1 (i := 8) (items := rngD 0 g.v.toNat) (hasV g ts k) id rfl scLaw.nd (gi_range1 M.range (g_ixT atI0 (gv 2 (d := gD g)) g_int) (by omega) (by omega))
      (blkOk_by (own := [("_law_value", 8)]) (N := nLaw) (sc := defScope (topS 59)) (by decide +kernel)) (by decide) (ltb rfl) (by rw [rngD_length]; omega) (fun _ _ _ _ _ => pg_name (i := 8) scLaw.nd rfl (Or.inr rfl)) (fun d hd s0 H0 C cl fp => ?_)))) (vals_eq hk)
  obtain ⟨z, hz, rfl⟩ := mem_rng hd
  refine ⟨gts_one (t_val (g_anyB (items := solR g ts) (b := fun r => decide (r.getD k 0 = 0 + (z : Int))) rfl M.any (GEL.to (gel_m1 (i := 18) (items := (solR g ts).map eR) (fun d => .bool (decide (rowAt k d = 0 + (z : Int)))) rfl scLaw.nd (gi_list (gv 6 (d := .list ((solR g ts).map eR))))
      (blkOk_by (own := [("_law_row", 18)]) (N := nLaw) (sc := { kind := .function, names := [(PySem.Str.ofString ".0", .local), (PySem.Str.ofString "_law_value", .cell), (PySem.Str.ofString "any", .globalImplicit), (PySem.Str.ofString "_law_k", .cell), (PySem.Str.ofString "_law_rows_here", .cell)], isGenerator := false, isCoroutine := false, more := [] }) (by decide +kernel)) (by rw [List.length_map]; omega) (fun _ _ _ _ _ => pg_name (i := 18) scLaw.nd rfl (Or.inl rfl)) (fun d hd s1 H1 C1 cl1 fp1 => ?_)) ?_))), fun _ => gv 8⟩
  · obtain ⟨r, hr, rfl⟩ := List.mem_map.mp hd
    have hrk : k < r.length := by rw [solR_row hr]; exact hk
    refine GE.to (g_cmp op_eq rd_eqI (g_ixT (atI_ints (Int.zero_add _) hrk) (gv 18) (gv 7)) (gv 8) (nomark _)) ?_
    rw [rowAt_eR hrk, getD_at hrk]
  · rw [List.map_map]
    refine List.map_congr_left fun r hr => ?_
    have hrk : k < r.length := by rw [solR_row hr]; exact hk
    show PyData.bool (decide (rowAt k (eR r) = _)) = _
    rw [rowAt_eR hrk]
end
end TT
namespace TT
open PySem PySem.Spec PyProof.Rows L2
section
variable {P : Program} {w : World} {K : PySem.W.Frag} {mg : Str → Option Value} {base : Heap} {f : Addr} {cdv : Value} {A : Around} {outer : List Env} {s' : Shared} {H : Hp} {E : XK}
variable {m : Smk} {g : Gr} {ts : List Tbl} {k : Nat}
abbrev nos (n : Nat) : Rs := List.replicate n .no
theorem tru_map {α : Type} {l : List α} {f : α → PyData} : (!(l.map f).isEmpty) = !l.isEmpty := by cases l <;> rfl
/-- one turn of the first loop -/
theorem law_turn (M : Nm mg) (D : LawD P w K mg base) (hr : Room 9 (lawX P w K mg base f cdv A outer s' H E).A) (hg : GrOk g) (h4 : g.sc.length ≤ 4) (ht : TsOk g ts) (hk : k < (vars g.sc).length) :
    SB (lawX P w K mg base f cdv A outer s' H E) m 1 lawF (Lst m.S g ts [.im (.int (0 + (k : Int))), .no, .no, .no, .no, .no, .no, .no, .no, .no, .no, .no, .no, .no, .no])
      (fun ρ2 => ∃ ρ3, Wk ρ2 ρ3 ∧ lkS ρ3 1 = .ad m.S ∧ ρ3 = Lst m.S g ts [.no, .no, .no, .no, .no, .no, .no, .no, .no, .no, .no, .no, .no, .no, .no]) (fun d => d = .bool true) := by
  have hv3 := hg.v3
  have hv2 := hg.v2
  have hvn : g.v = ((g.v.toNat : Nat) : Int) := by omega
  have hx : (vars g.sc)[k] ∈ vars g.sc := List.getElem_mem hk
  have hsl := sols_len (ts := ts) hg
  refine sb_nx (gs_set (i := 9) (GE.v (law_vals M hg hk)) scLaw.nd rfl (Or.inl rfl)) ?_
  refine sb_nx (gs_ifF (GT.to (t_not (t_val (k := true) (g_call (D.eq 1) (hr.mono (by decide)) ⟨eR (poss g ts (vars g.sc)[k]), ok_eR 0 (poss_len hg), rfl, rfl⟩ (a_cons (g_call D.po (hr.mono (by decide)) ⟨g, ts, (vars g.sc)[k], hg, ht, hx, rfl, rfl⟩ (a_cons (gv 2) (a_cons (gv 3) (a_cons (g_ixT (atI_ints (Int.zero_add _) hk) (gv 4) (gv 7)) a_nil)))) (a_cons (gv 9) a_nil))))) rfl) gb_nil) ?_
  refine sb_cons (ss_set (i := 8) (sj_next (n := g.v.toNat) D.nx (hr.mono (by decide)) (sj_pure (GE.to (g_ixT atI0 (gv 2 (d := gD g)) g_int) (congrArg PyData.int hvn))) (by omega) (by omega) rfl) scLaw.nd rfl (Or.inr rfl)) ?_
  rintro _ ⟨_, ⟨v, hv, rfl⟩, rfl⟩
  have hq : QOk g ts (vars g.sc)[k] (v : Int) := ⟨hg, ht, hx, by omega, by omega⟩
  have hh := hav_eq (ts := ts) hk (v : Int)
  have hhl := havK_len (ts := ts) (k := k) (v := (v : Int)) hg
  have hrow : ∀ p ∈ havK g ts k (v : Int), p.1.length = (vars g.sc).length := fun p hp => sols_row (List.mem_filter.mp hp).1
  -- having
  refine sb_nx (gs_setCi (i := 10) (ds := (havK g ts k (v : Int)).map eP) (ps_l2 (i := 18) (j := 19) (own := [("_law_row", 18), ("_law_cost", 19)]) rfl scLaw.nd rfl rfl (sw_true rfl rfl rfl (by decide +kernel)) (blkOk_by (N := nLaw) (sc := defScope (topS 59)) (by decide +kernel))
      (fun _ _ _ _ _ => pg_tup rfl (pgs_cons (pg_name (i := 18) scLaw.nd rfl (Or.inl rfl)) (pgs_cons (pg_name (i := 19) scLaw.nd rfl (Or.inl rfl)) pgs_nil))))
      (GLC.to (glc2 (items := (sols g ts).map fun p => (eR p.1, PyData.int p.2)) (fun a _ => decide (rowAt k a = (v : Int))) (fun a b => .tuple [a, b]) (GI.to (gi_list (gv 5 (d := .list ((sols g ts).map eP)))) (by rw [List.map_map]; rfl)) (by decide) (by decide) (ltb rfl) (ltb rfl) (by rw [List.length_map]; omega) (fun d hd s0 H0 C cl fp => ?_)) ?_)) ?_
  · obtain ⟨p, hp, rfl⟩ := List.mem_map.mp hd
    have hrk : k < p.1.length := by rw [sols_row hp]; exact hk
    refine ⟨gts_one (GT.to (t_cmp op_eq rd_eqI (g_ixT (atI_ints (Int.zero_add _) hrk) (gv 18) (gv 7)) (gv 8) (nomark _)) ?_), fun _ => g_tup (a_cons (gv 18) (a_cons (gv 19) a_nil))⟩
    show _ = decide (rowAt k (eR p.1) = (v : Int))
    rw [rowAt_eR hrk, getD_at hrk]
  · rw [List.filter_map, List.map_map]
    unfold havK
    have e : ∀ p ∈ sols g ts, ((fun d : PyData × PyData => decide (rowAt k d.1 = (v : Int))) ∘ fun p : List Int × Int => (eR p.1, PyData.int p.2)) p = decide (p.1.getD k 0 = (v : Int)) := by
      intro p hp
      have hrk : k < p.1.length := by rw [sols_row hp]; exact hk
      show decide (rowAt k (eR p.1) = (v : Int)) = _
      rw [rowAt_eR hrk]
    rw [List.filter_congr e]
    rfl
  -- due
  refine sb_nx (gs_set (i := 11) (d := eWhat (hav g ts (vars g.sc)[k] (v : Int))) (GE.v ?_) scLaw.nd rfl (Or.inl rfl)) ?_
  · rw [hh]
    by_cases hne : havK g ts k (v : Int) = []
    · refine GE.to (g_ifF (GT.to (t_tru (gv 10 (d := .list ((havK g ts k (v : Int)).map eP)))) (by rw [hne]; rfl)) g_non) ?_
      unfold eWhat
      rw [if_pos hne]
    · refine GE.to (g_ifT (GT.to (t_tru (gv 10 (d := .list ((havK g ts k (v : Int)).map eP)))) ?_)
        (g_tup (a_cons (g_lenL M.len (gv 10 (d := .list ((havK g ts k (v : Int)).map eP)))) (a_cons (g_min (ns := (havK g ts k (v : Int)).map (·.2)) rfl M.min ?_ (GEL.ge (GEL.to (gel_m2 (i := 18) (j := 19) (items := (havK g ts k (v : Int)).map fun p => (eR p.1, PyData.int p.2)) (fun _ b => b) rfl scLaw.nd
          (GI.to (gi_list (gv 10 (d := .list ((havK g ts k (v : Int)).map eP)))) (by rw [List.map_map]; rfl))
          (blkOk_by (own := [("_law_row", 18), ("_law_cost", 19)]) (N := nLaw) (sc := defScope (topS 59)) (by decide +kernel)) (by rw [List.length_map]; omega)
          (fun _ _ _ _ _ => pg_tup rfl (pgs_cons (pg_name (i := 18) scLaw.nd rfl (Or.inl rfl)) (pgs_cons (pg_name (i := 19) scLaw.nd rfl (Or.inl rfl)) pgs_nil))) (fun d hd s0 H0 C cl fp => gv 19)) ?_))) a_nil)))) ?_
      · rw [tru_map]
        cases q : havK g ts k (v : Int) with
        | nil => exact absurd q hne
        | cons _ _ => rfl
      · intro e
        exact hne (List.map_eq_nil_iff.mp e)
      · rw [List.map_map, List.map_map]
        rfl
      · unfold eWhat
        rw [if_neg hne, List.length_map]
  -- pairs
  refine sb_nx (gs_set (i := 12) (d := eImp g ts (vars g.sc)[k] (v : Int)) (GE.v ?_) scLaw.nd rfl (Or.inl rfl)) ?_
  · by_cases hne : havK g ts k (v : Int) = []
    · refine GE.to (g_ifF (GT.to (t_tru (gv 10 (d := .list ((havK g ts k (v : Int)).map eP)))) (by rw [hne]; rfl)) g_non) ?_
      unfold eImp
      rw [hh, if_pos hne]
    · refine GE.to (g_ifT (GT.to (t_tru (gv 10 (d := .list ((havK g ts k (v : Int)).map eP)))) ?_)
        (g_call D.su (hr.mono (by decide)) ⟨(havK g ts k (v : Int)).map (·.1), vars g.sc, ?_, fun r hr => ?_, by have := vars_len hg; omega, by rw [List.length_map]; omega, rfl, rfl⟩ (a_cons (gv 4) (a_cons (GEL.ge (GEL.to (gel_m2 (i := 18) (j := 19) (items := (havK g ts k (v : Int)).map fun p => (eR p.1, PyData.int p.2)) (fun a _ => a) rfl scLaw.nd
          (GI.to (gi_list (gv 10 (d := .list ((havK g ts k (v : Int)).map eP)))) (by rw [List.map_map]; rfl))
          (blkOk_by (own := [("_law_row", 18), ("_law_cost", 19)]) (N := nLaw) (sc := defScope (topS 59)) (by decide +kernel)) (by rw [List.length_map]; omega)
          (fun _ _ _ _ _ => pg_tup rfl (pgs_cons (pg_name (i := 18) scLaw.nd rfl (Or.inl rfl)) (pgs_cons (pg_name (i := 19) scLaw.nd rfl (Or.inl rfl)) pgs_nil))) (fun d hd s0 H0 C cl fp => gv 18)) ?_)) a_nil)))) ?_
      · rw [tru_map]
        cases q : havK g ts k (v : Int) with
        | nil => exact absurd q hne
        | cons _ _ => rfl
      · intro e
        exact hne (List.map_eq_nil_iff.mp e)
      · obtain ⟨p, hp, rfl⟩ := List.mem_map.mp hr
        exact hrow p hp
      · rw [List.map_map, List.map_map]
        rfl
      · unfold eImp havR
        rw [hh, if_neg hne]
  -- word
  refine sb_nx (gs_set (i := 13) (d := .str (word (havR g ts (vars g.sc)[k] (v : Int)) (others g ts (vars g.sc)[k] (v : Int)))) (GE.v ?_) scLaw.nd rfl (Or.inl rfl)) ?_
  · rw [word_eq hk]
    unfold lword
    by_cases hne : havK g ts k (v : Int) = []
    · rw [if_pos hne]
      exact g_ifT (GT.to (t_not (t_tru (gv 10 (d := .list ((havK g ts k (v : Int)).map eP))))) (by rw [hne]; rfl)) g_str
    · rw [if_neg hne]
      refine g_ifF (GT.to (t_not (t_tru (gv 10 (d := .list ((havK g ts k (v : Int)).map eP))))) ?_) ?_
      · rw [tru_map]
        cases q : havK g ts k (v : Int) with
        | nil => exact absurd q hne
        | cons _ _ => rfl
      · by_cases he : (havK g ts k (v : Int)).length = (sols g ts).length
        · rw [if_pos he]
          exact g_ifT (GT.to (t_cmp op_eq rd_eqI (g_lenL M.len (gv 10 (d := .list ((havK g ts k (v : Int)).map eP)))) (g_lenL M.len (gv 5 (d := .list ((sols g ts).map eP)))) (nomark _)) (by rw [List.length_map, List.length_map, he]; exact decide_eq_true rfl)) g_str
        · rw [if_neg he]
          exact g_ifF (GT.to (t_cmp op_eq rd_eqI (g_lenL M.len (gv 10 (d := .list ((havK g ts k (v : Int)).map eP)))) (g_lenL M.len (gv 5 (d := .list ((sols g ts).map eP)))) (nomark _)) (by rw [List.length_map, List.length_map]; exact decide_eq_false (by omega))) g_str
  -- told
  refine sb_nx (gs_set (i := 14) (GE.v (GEL.ge (gl_lst (a_cons (g_call D.wh hr ⟨g, ts, _, (v : Int), hq, rfl, rfl⟩ (a_cons (gv 2) (a_cons (gv 3) (a_cons (g_ixT (atI_ints (Int.zero_add _) hk) (gv 4) (gv 7)) (a_cons (gv 8) a_nil)))))
    (a_cons (g_call D.im hr ⟨g, ts, _, (v : Int), hq, rfl, rfl⟩ (a_cons (gv 2) (a_cons (gv 3) (a_cons (g_ixT (atI_ints (Int.zero_add _) hk) (gv 4) (gv 7)) (a_cons (gv 8) a_nil)))))
    (a_cons (g_call D.ve hr ⟨g, ts, _, (v : Int), hq, rfl, rfl⟩ (a_cons (gv 2) (a_cons (gv 3) (a_cons (g_ixT (atI_ints (Int.zero_add _) hk) (gv 4) (gv 7)) (a_cons (gv 8) a_nil))))) a_nil)))))) scLaw.nd rfl (Or.inl rfl)) ?_
  refine sb_nx (gs_ifF (GT.to (t_not (t_val (k := true) (g_call (D.eq 3) (hr.mono (by decide)) ⟨_, ok_three (ok_what _) (ok_imp hg _ _), rfl, rfl⟩ (a_cons (gv 14) (a_cons (GEL.ge (gl_lst (a_cons (gv 11) (a_cons (gv 12) (a_cons (gv 13) a_nil))))) a_nil))))) rfl) gb_nil) ?_
  -- more
  refine sb_one ((ss_nx (gs_ifT (GT.to (t_cmp op_lt rd_lt (g_len M.len (g_ixT atI1 (gv 2 (d := gD g)) g_int)) g_int (nomark _)) (by rw [List.length_map]; exact decide_eq_true (by omega)))
    (gb_cons (gs_set (i := 15) (d := eG (more g (vars g.sc)[k])) (GE.v (GE.to (g_tup (a_cons (g_ixT atI0 (gv 2 (d := gD g)) g_int) (a_cons (g_op op_catA (rd_cat ?_) (g_ixT atI1 (gv 2 (d := gD g)) g_int) (g_tup (a_cons (g_tup (a_cons (g_ixT (atI_ints (Int.zero_add _) hk) (gv 4) (gv 7)) a_nil)) a_nil))) (a_cons (g_ixT atI2 (gv 2 (d := gD g)) g_int) a_nil)))) ?_)) scLaw.nd rfl (Or.inl rfl))
      (gb_one (gs_ifF (GT.to (t_not (t_val (k := true) (g_call (D.eq 2) (hr.mono (by decide)) ⟨eWhat (hav g ts (vars g.sc)[k] (v : Int)), ok_what _, rfl, rfl⟩ (a_cons (GE.to (g_call D.wh hr ⟨more g (vars g.sc)[k], moreT ts (v : Int), (vars g.sc)[k], (v : Int), ⟨more_ok hg h4 hx, moreT_ok ht hq.v0 hq.v1, by rw [more_vars hx]; exact hx, hq.v0, hq.v1⟩, rfl, rfl⟩
        (a_cons (gv 15) (a_cons (GE.to (g_op op_catA (rd_cat ?_) (gv 3 (d := .tuple (ts.map eT))) (g_tup (a_cons (g_tup (a_cons (g_tup (a_cons (g_tup (a_cons (gv 8) a_nil)) (a_cons g_int a_nil))) a_nil)) a_nil))) ?_) (a_cons (g_ixT (atI_ints (Int.zero_add _) hk) (gv 4) (gv 7)) (a_cons (gv 8) a_nil))))) ?_) (a_cons (gv 11) a_nil))))) rfl) gb_nil))))).imp (fun r e => ?_) (fun _ h => h))
  · rw [List.length_map]
    show g.sc.length + 1 ≤ 100000
    omega
  · show PyData.tuple [.int g.v, .tuple (g.sc.map eR ++ [eR [(vars g.sc)[k]]]), .tuple (g.ed.map eR)] = PyData.tuple [.int g.v, .tuple ((g.sc ++ [[(vars g.sc)[k]]]).map eR), .tuple (g.ed.map eR)]
    rw [List.map_append]
    rfl
  · rw [List.length_map, ht.len]
    show g.sc.length + 1 ≤ 100000
    omega
  · show PyData.tuple (ts.map eT ++ [eT [([(v : Int)], 0)]]) = PyData.tuple ((ts ++ [[([(v : Int)], 0)]]).map eT)
    rw [List.map_append]
    rfl
  · rw [more_hav ht hk, hh]
  · subst e
    refine ⟨_, ?_, rfl, rfl⟩
    exact wk_eq (wk_eq (wk_eq (wk_eq (wk_eq (wk_eq (wk_eq (wk_no (wk_no (wk_no (wk_no (wk_no (wk_no (wk_no (wk_no (wk_no (wk_eq (wk_eq (wk_eq (wk_eq (wk_eq (wk_eq wk_nil)))))))))))))))))))))
end
end TT
namespace TT
open PySem PySem.Spec PyProof.Rows L2
theorem eP_inj {a b : List Int × Int} (h : eP a = eP b) : a = b := by
  obtain ⟨r, c⟩ := a
  obtain ⟨r', c'⟩ := b
  injection h with h
  injection h with h1 h
  injection h with h2 _
  injection h2 with h2
  have h1' : r = r' := eR_inj h1
  have h2' : c = c' := h2
  rw [h1', h2']
section
variable {P : Program} {w : World} {K : PySem.W.Frag} {mg : Str → Option Value} {base : Heap} {f : Addr} {cdv : Value} {A : Around} {outer : List Env} {s' : Shared} {H : Hp} {E : XK}
variable {m : Smk} {g : Gr} {ts ts' : List Tbl} {k : Nat}
theorem law_fewer (M : Nm mg) (D : LawD P w K mg base) (hr : Room 9 (lawX P w K mg base f cdv A outer s' H E).A) (hg : GrOk g) (ht : TsOk g ts) :
    SS (lawX P w K mg base f cdv A outer s' H E) m 1 (nth lawB 8) (Lst m.S g ts [.no, .no, .no, .no, .no, .no, .no, .no, .no, .no, .no, .no, .no, .no, .no])
      (fun r => ∃ ts', Less ts ts' ∧ r = Lst m.S g ts [.no, .no, .no, .no, .no, .no, .no, .no, .no, .im (eTs ts'), .no, .no, .no, .no, .no]) (fun d => d = .bool true) := by
  refine (ss_set (i := 16) (Φ := fun d => ∃ ts', Less ts ts' ∧ d = eTs ts') (sj_callTy (Ψ := fun ds => ∃ es, Pk False (fun d e => ∀ t : Tbl, d = eT t → ∃ t' : Tbl, t'.Sublist t ∧ e = eT t') (ts.map eT) es ∧ ds = [.list es]) call_tuple_of (by
      rintro _ ⟨es, hp, rfl⟩
      obtain ⟨bs, rfl, hl, hc⟩ := pk_all (f := eT) (g := eT) (C := fun t t' => t'.Sublist t) hp _ rfl (by
        rintro t _ d h
        obtain ⟨t', h1, h2⟩ := h t rfl
        exact ⟨t', h2, h1⟩)
      exact ⟨_, ⟨bs, ⟨hl, hc⟩, rfl⟩, rd_tupL⟩) M.tuple boot_tuple
    (sa_cons ((sgl1 (i := 21) (own := [("_law_table_here", 21)]) (T := False) (B := (· = true)) (Φ := fun d e => ∀ t : Tbl, d = eT t → ∃ t' : Tbl, t'.Sublist t ∧ e = eT t') (items := ts.map eT) rfl scLaw.nd
        (gi_tup (gv 3 (d := .tuple (ts.map eT)))) (blkOk_by (N := nLaw) (sc := defScope (topS 59)) (by decide +kernel)) (by decide) (ltb rfl) (by rw [List.length_map, ht.len]; have := hg.n5; omega) (by decide) (fun z => by cases z) (fun _ _ _ _ _ => pg_name (i := 21) scLaw.nd rfl (Or.inl rfl)) (fun d hd s0 H0 C cl fp => ⟨sts_nil, ?_⟩)).sj) sa_nil (by rintro _ _ ⟨es, hp, rfl⟩ rfl; exact ⟨es, hp, rfl⟩))) scLaw.nd rfl (Or.inl rfl)).imp (by rintro _ ⟨_, ⟨ts', h, rfl⟩, rfl⟩; exact ⟨ts', h, rfl⟩) (fun _ h => h)
  obtain ⟨t0, hm, rfl⟩ := List.mem_map.mp hd
  have hlen : t0.length ≤ 1000 := by
    obtain ⟨j, hj, rfl⟩ := List.mem_iff_getElem.mp hm
    exact tbl_len ht (by rw [← ht.len]; exact hj) hj
  refine sj_callTy (Ψ := fun ds => ∃ es, Pk True (fun d e => e = d) (t0.map eP) es ∧ ds = [.list es]) call_tuple_of (by
      rintro _ ⟨es, hp, rfl⟩
      refine ⟨_, fun t ht => ?_, rd_tupL⟩
      injection ht with ht
      obtain ⟨bs, rfl, hs, _⟩ := pk_sub (f := eP) (g := eP) (π := fun b : List Int × Int => b) (C := fun _ => True) hp t ht (by rintro r _ d rfl; exact ⟨r, rfl, rfl, trivial⟩)
      rw [List.map_id'] at hs
      exact ⟨bs, hs, rfl⟩) M.tuple boot_tuple
    (sa_cons ((sgl1 (i := 20) (own := [("_law_pair", 20)]) (T := True) (B := fun _ => True) (Φ := fun d e => e = d) (items := t0.map eP) rfl scLaw.nd
        (gi_tup (gv 21 (d := .tuple (t0.map eP)))) (blkOk_by (N := nLaw) (sc := { kind := .function, names := [(PySem.Str.ofString ".0", .local), (PySem.Str.ofString "_law_table_here", .local), (PySem.Str.ofString "tuple", .globalImplicit), (PySem.Str.ofString "_law_stream_here", .cell)], isGenerator := false, isCoroutine := false, more := [] }) (by decide +kernel)) (by decide) (ltb rfl) (by rw [List.length_map]; omega) (by decide) (fun _ => trivial) (fun _ _ _ _ _ => pg_name (i := 20) scLaw.nd rfl (Or.inl rfl)) (fun d hd s1 H1 C1 cl1 fp1 => ⟨?_, sj_pure (gv 20)⟩)).sj) sa_nil (by rintro _ _ ⟨es, hp, rfl⟩ rfl; exact ⟨es, hp, rfl⟩))
  exact sts_one (st_cmp (Φb := (· = .int 0)) op_gt (by rintro _ _ ⟨k, _, rfl⟩ rfl; exact ⟨_, trivial, rd_gt⟩) (sj_next (n := 3) D.nx (hr.mono (by decide)) (sj_pure g_int) (by decide) (by decide) rfl) (sj_pure g_int) (nomark _))
abbrev lawG : List Stmt := forBody (nth lawB 9)
theorem law_lost (M : Nm mg) (D : LawD P w K mg base) (hr : Room 9 (lawX P w K mg base f cdv A outer s' H E).A) (hg : GrOk g) (ht : TsOk g ts) (hl : Less ts ts') :
    GS (lawX P w K mg base f cdv A outer s' H E) (nth lawB 9) (Lst m.S g ts [.no, .no, .no, .no, .no, .no, .no, .no, .no, .im (eTs ts'), .no, .no, .no, .no, .no])
      (.nx (Lst m.S g ts [.no, .no, .no, .no, .no, .no, .no, .no, .no, .im (eTs ts'), .no, .no, .no, .no, .no])) := by
  have hv3 := hg.v3
  have hv2 := hg.v2
  have hvl := vars_len hg
  have hsl := solR_len (ts := ts) hg
  have ht' := less_ok ht hl
  refine gs_for1 (i := 7) (items := rngD 0 ((vars g.sc).length : Int).toNat) (fun _ => Lst m.S g ts [.no, .no, .no, .no, .no, .no, .no, .no, .no, .im (eTs ts'), .no, .no, .no, .no, .no]) PassesOwn.never rfl
    (gi_range1 M.range (GE.to (g_len M.len (gv 4)) (by rw [List.length_map])) (by omega) (by omega)) (Wk.refl _) (pg_name (i := 7) scLaw.nd rfl (Or.inr rfl)) (fun _ => ltb rfl) (fun j d hd => ?_)
  rw [Int.toNat_natCast] at hd
  obtain ⟨hk, rfl⟩ := rng_get hd
  have hx : (vars g.sc)[j] ∈ vars g.sc := List.getElem_mem hk
  refine ⟨_, gb_one (gs_for1 (i := 8) (items := rngD 0 g.v.toNat) (fun _ => Lst m.S g ts [.im (.int (0 + (j : Int))), .no, .no, .no, .no, .no, .no, .no, .no, .im (eTs ts'), .no, .no, .no, .no, .no]) PassesOwn.never rfl
    (gi_range1 M.range (g_ixT atI0 (gv 2 (d := gD g)) g_int) (by omega) (by omega)) (Wk.refl _) (pg_name (i := 8) scLaw.nd rfl (Or.inr rfl)) (fun _ => ltb rfl) (fun z d hd => ?_)), ?_⟩
  · obtain ⟨hz, rfl⟩ := rng_get hd
    have hq : QOk g ts' (vars g.sc)[j] (0 + (z : Int)) := ⟨hg, ht', hx, by omega, by omega⟩
    have hlost : GE (lawX P w K mg base f cdv A outer s' H E) (asgV (nth (forBody (nth lawG 0)) 0)) (datN (Lst m.S g ts [.im (.int (0 + (j : Int))), .im (.int (0 + (z : Int))), .no, .no, .no, .no, .no, .no, .no, .im (eTs ts'), .no, .no, .no, .no, .no])) (.bool ((solR g ts).all fun r => !decide (r.getD j 0 = 0 + (z : Int)))) := by
      refine g_allB (items := solR g ts) (b := fun r => !decide (r.getD j 0 = 0 + (z : Int))) rfl M.all (GEL.to (gel_m1 (i := 18) (items := (solR g ts).map eR) (fun d => .bool (!decide (rowAt j d = 0 + (z : Int)))) rfl scLaw.nd (gi_list (gv 6 (d := .list ((solR g ts).map eR))))
        (blkOk_by (own := [("_law_row", 18)]) (N := nLaw) (sc := defScope (topS 59)) (by decide +kernel)) (by rw [List.length_map]; omega) (fun _ _ _ _ _ => pg_name (i := 18) scLaw.nd rfl (Or.inl rfl)) (fun d hd s1 H1 C1 cl1 fp1 => ?_)) ?_)
      · obtain ⟨r, hr, rfl⟩ := List.mem_map.mp hd
        have hrk : j < r.length := by rw [solR_row hr]; exact hk
        refine GE.to (g_cmp op_ne rd_neI (g_ixT (atI_ints (Int.zero_add _) hrk) (gv 18) (gv 7)) (gv 8) (nomark _)) ?_
        rw [rowAt_eR hrk, getD_at hrk]
      · rw [List.map_map]
        refine List.map_congr_left fun r hr => ?_
        have hrk : j < r.length := by rw [solR_row hr]; exact hk
        show PyData.bool (!decide (rowAt j (eR r) = _)) = _
        rw [rowAt_eR hrk]
    cases hb : (solR g ts).all fun r => !decide (r.getD j 0 = 0 + (z : Int)) with
    | false =>
      rw [hb] at hlost
      exact ⟨_, gb_cons (gs_set (i := 17) (GE.v hlost) scLaw.nd rfl (Or.inl rfl)) (gb_one (gs_ifF (GT.to (t_w (w_and (l := false) (t_val (gv 17 (d := .bool false))) fun q => by cases q)) rfl) gb_nil)),
        wk_eq (wk_eq (wk_eq (wk_eq (wk_eq (wk_eq (wk_eq (wk_eq (wk_no (wk_eq (wk_eq (wk_eq (wk_eq (wk_eq (wk_eq (wk_eq (wk_eq (wk_no (wk_eq (wk_eq (wk_eq (wk_eq wk_nil)))))))))))))))))))))⟩
    | true =>
      rw [hb] at hlost
      have hne : ∀ r ∈ solR g ts, r.getD j 0 ≠ 0 + (z : Int) := fun r hr e => by
        have := List.all_eq_true.mp hb r hr
        rw [decide_eq_true e] at this
        cases this
      exact ⟨_, gb_cons (gs_set (i := 17) (GE.v hlost) scLaw.nd rfl (Or.inl rfl)) (gb_one (gs_ifF (GT.to (t_w (w_and (t_val (gv 17 (d := .bool true))) fun _ => w_and1 (t_not (t_val (k := true) (g_call (D.eq 0) (hr.mono (by decide)) ⟨.str "never", rfl, rfl, rfl⟩
          (a_cons (GE.to (g_call D.ve hr ⟨g, ts', _, 0 + (z : Int), hq, rfl, rfl⟩ (a_cons (gv 2) (a_cons (gv 16) (a_cons (g_ixT (atI_ints (Int.zero_add _) hk) (gv 4) (gv 7)) (a_cons (gv 8) a_nil))))) (by rw [less_never hl hk hne])) (a_cons g_str a_nil))))))) rfl) gb_nil)),
        wk_eq (wk_eq (wk_eq (wk_eq (wk_eq (wk_eq (wk_eq (wk_eq (wk_no (wk_eq (wk_eq (wk_eq (wk_eq (wk_eq (wk_eq (wk_eq (wk_eq (wk_no (wk_eq (wk_eq (wk_eq (wk_eq wk_nil)))))))))))))))))))))⟩
  · exact wk_eq (wk_eq (wk_eq (wk_eq (wk_eq (wk_eq (wk_eq (wk_no (wk_eq (wk_eq (wk_eq (wk_eq (wk_eq (wk_eq (wk_eq (wk_eq (wk_eq (wk_eq (wk_eq (wk_eq (wk_eq (wk_eq wk_nil)))))))))))))))))))))
end
end TT
namespace TT
open PySem PySem.Spec PyProof.Rows L2
def spStream (K : PySem.W.Frag) : Sp := fun vs H Q _ => ∃ (a : Addr) (ns : List Int), vs = [.ref a] ∧ SqL K H a (ns.map V.int) ∧
  ∀ (S L : Addr) H', Same H H' → L ≠ S → H' S = some (.lst [.ref L, .int 0, .int 0]) → H' L = some (.lst (ns.map V.int)) → Q (.ref S) H'
def spLaw (K : PySem.W.Frag) : Sp := fun vs H Q _ => ∃ (a : Addr) (ns : List Int), vs = [.ref a] ∧ SqL K H a (ns.map V.int) ∧ ns.length ≤ 63 ∧ ∀ H', Q (.bl true) H'
theorem lkS_nos : ∀ n i : Nat, lkS (List.replicate n .no) i = .no
  | 0, _ => rfl
  | _ + 1, 0 => rfl
  | n + 1, i + 1 => lkS_nos n i
section
variable {P : Program} {w : World} {K : PySem.W.Frag} {mg : Str → Option Value} {base : Heap}
theorem scStream : FnScope pLaw pLaw (defScope (topS 44)) := ⟨rfl, rfl, rfl, by decide +kernel, rfl, by decide +kernel, by decide +kernel⟩
theorem ok_stream (T : Fd K mg "_law_stream" pLaw (topS 44)) (M : Nm mg) : ∃ f fd, mg "_law_stream" = some (.ref f) ∧ PySem.W.keepIn K (.ref f) = true ∧ Binds K fd pLaw [] ∧ FnOk P w K mg base CX0 1 f fd pLaw (spStream K) := by
  obtain ⟨f, fd, F, hm, hb⟩ := T.ex
  refine ⟨f, fd, hm, F.kp, hb, F.ok scStream (fun vs H Q E h => ?_) (fun cdv A outer s' H vs Q E hr h => ⟨_, pss_one (ps_ret (pe_lst (pa_cons (pe_callTy call_list_of rfl M.list boot_list (pa_cons (pv 0) pa_nil) (by decide)) (pa_cons pe_int (pa_cons pe_int pa_nil))))), ?_⟩)⟩
  · obtain ⟨a, ns, rfl, _⟩ := h
    rfl
  · obtain ⟨a, ns, rfl, hS, q⟩ := h
    refine ⟨.ref a, rfl, a, _, rfl, .inl hS, fun L hL => ⟨small_n (leb rfl), fun S hS' => ?_⟩⟩
    have hne : L ≠ S := fun z => by
      rw [z, upd_same] at hS'
      cases hS'
    refine q S L _ ((same_new hL).trans (same_new hS')) hne upd_same ?_
    rw [upd_ne hne, upd_same]
theorem nodes_call {X : Cx} {ρ : Rho} {g : Gr} {e : Expr} {k : Nat} {p pos : Pos} (D : Df X.prog X.w X.K X.mg X.base "_law_every" nEvery k REvery) (hr : Room k X.A) (hg : GrOk g) (h : GE X e ρ (eG g)) (hgl : Gl X "_law_every" := by rfl)
    (he : starEach (e :: []) X.env = (false, eval e X.env) :: starEach [] X.env := by rfl) (hpl : (backTo pos (starEach [] X.env)).any (·.1) = false := by rfl) : GE X (.Call (.Name "_law_every" p) [e] [] pos) ρ (nodesD g.sc.length) :=
  g_call D hr ⟨g, hg, rfl, rfl⟩ (a_cons h a_nil he) hgl (by decide) he hpl
theorem law_rest (M : Nm mg) (D : LawD P w K mg base) {f : Addr} {cdv : Value} {A : Around} {outer : List Env} {s' : Shared} {H : Hp} {E : XK} (hr : Room 9 (lawX P w K mg base f cdv A outer s' H E).A) (m : Smk) :
    SB (lawX P w K mg base f cdv A outer s' H E) m 1 (lawB.drop 1) (.no :: .ad m.S :: List.replicate 20 .no) (fun _ => False) (fun d => d = .bool true) := by
  refine sb_cons (ss_set (i := 2) (Φ := fun d => ∃ g, GrOk g ∧ g.sc.length ≤ 4 ∧ d = eG g) (sj_call (Ψ := (· = [.int 4, .int 3])) D.gr (hr.mono (by decide)) (sa_pure (a_cons g_int (a_cons g_int a_nil))) (by
    rintro _ rfl
    refine ⟨⟨_, rfl, ⟨2, [[]], []⟩, ⟨by decide, by decide, by decide, by decide, ?_, by simp, List.Pairwise.nil, by decide⟩, by decide, rfl⟩, ?_⟩
    · intro s hs
      rw [List.mem_singleton.mp hs]
      exact ⟨by simp, List.Pairwise.nil, by decide⟩
    · rintro d ⟨_, g, h1, h2, rfl⟩
      exact ⟨g, h1, h2, rfl⟩) rfl) scLaw.nd rfl (Or.inl rfl)) ?_
  rintro _ ⟨_, ⟨g, hg, h4, rfl⟩, rfl⟩
  have hv3 := hg.v3
  have hv2 := hg.v2
  have hvl := vars_len hg
  refine sb_cons (ss_set (i := 3) (Φ := fun d => ∃ ts, TsOk g ts ∧ d = eTs ts) (sj_call (Ψ := (· = [eG g])) D.tb (hr.mono (by decide)) (sa_pure (a_cons (gv 2) a_nil)) (by
    rintro _ rfl
    refine ⟨⟨_, g, g.sc.map fun _ => [], hg, rfl, ⟨by rw [List.length_map], fun p hp => ?_⟩, rfl⟩, ?_⟩
    · have : p.2 = [] := by
        have := (List.of_mem_zip hp).2
        obtain ⟨_, _, h⟩ := List.mem_map.mp this
        exact h.symm
      rw [this]
      exact empty_tbl _ _
    · rintro d ⟨g', ts, _, e, h, rfl⟩
      injection e with e _
      have : g = g' := eG_inj e
      subst this
      exact ⟨ts, h, rfl⟩) rfl) scLaw.nd rfl (Or.inl rfl)) ?_
  rintro _ ⟨_, ⟨ts, ht, rfl⟩, rfl⟩
  have hsl := sols_len (ts := ts) hg
  refine sb_nx (gs_set (i := 4) (GE.v (g_call D.va (hr.mono (by decide)) ⟨g, hg, rfl, rfl⟩ (a_cons (gv 2) (a_cons (nodes_call D.ev (hr.mono (by decide)) hg (gv 2)) a_nil)))) scLaw.nd rfl (Or.inl rfl)) ?_
  refine sb_nx (gs_set (i := 5) (GE.v (g_call D.so (hr.mono (by decide)) ⟨g, ts, hg, ht, rfl, rfl⟩ (a_cons (gv 2) (a_cons (gv 3) (a_cons (nodes_call D.ev (hr.mono (by decide)) hg (gv 2)) a_nil))))) scLaw.nd rfl (Or.inl rfl)) ?_
  refine sb_nx (gs_setL (i := 6) (GEL.v (GEL.to (ds' := (solR g ts).map eR) (gel_m2 (i := 18) (j := 19) (items := (sols g ts).map fun p => (eR p.1, PyData.int p.2)) (fun a _ => a) rfl scLaw.nd
      (GI.to (gi_list (gv 5 (d := .list ((sols g ts).map eP)))) (by rw [List.map_map]; rfl))
      (blkOk_by (own := [("_law_row", 18), ("_law_cost", 19)]) (N := nLaw) (sc := defScope (topS 59)) (by decide +kernel)) (by rw [List.length_map]; omega)
      (fun _ _ _ _ _ => pg_tup rfl (pgs_cons (pg_name (i := 18) scLaw.nd rfl (Or.inl rfl)) (pgs_cons (pg_name (i := 19) scLaw.nd rfl (Or.inl rfl)) pgs_nil))) (fun d hd s0 H0 C cl fp => gv 18)) (by unfold solR; rw [List.map_map, List.map_map]; rfl))) scLaw.nd rfl (Or.inr rfl)) (sb_frz 6 rfl ?_)
  refine sb_nx (gs_ifF (GT.to (t_not (t_val (k := true) (g_call (D.eq 2) (hr.mono (by decide)) ⟨eTold g ts, ok_told hg, rfl, rfl⟩ (a_cons (g_call D.to (hr.mono (by decide)) ⟨g, ts, hg, ht, rfl, rfl⟩ (a_cons (gv 2) (a_cons (gv 3) a_nil))) (a_cons ?_ a_nil))))) rfl) gb_nil) ?_
  · by_cases hne : sols g ts = []
    · refine GE.to (g_ifF (GT.to (t_tru (gv 6 (d := .list ((solR g ts).map eR)))) (by unfold solR; rw [hne]; rfl)) (GEL.ge (gl_lst (a_cons g_str a_nil)))) ?_
      unfold eTold
      rw [if_pos hne]
    · refine GE.to (g_ifT (GT.to (t_tru (gv 6 (d := .list ((solR g ts).map eR)))) ?_) (g_call D.su (hr.mono (by decide)) ⟨solR g ts, vars g.sc, fun e => hne (List.map_eq_nil_iff.mp e), fun r hr => solR_row hr, by omega, by have := solR_len (ts := ts) hg; omega, rfl, rfl⟩ (a_cons (gv 4) (a_cons (gv 6) a_nil)))) ?_
      · rw [tru_map]
        unfold solR
        cases q : sols g ts with
        | nil => exact absurd q hne
        | cons _ _ => rfl
      · unfold eTold
        rw [if_neg hne]
  refine sb_cons ((ss_for1 (i := 7) (Ψ := (· = rngD 0 (vars g.sc).length)) (fun ds j ρ' => ρ' = Lst m.S g ts [.no, .no, .no, .no, .no, .no, .no, .no, .no, .no, .no, .no, .no, .no, .no]) PassesOwn.never rfl
    (sgi_pure (GI.to (gi_range1 M.range (GE.to (g_len M.len (gv 4)) (by rw [List.length_map])) (by omega) (by omega)) (by rw [Int.toNat_natCast])))
    (fun ds _ => ⟨_, Wk.refl _, rfl, rfl⟩) (pg_name (i := 7) scLaw.nd rfl (Or.inr rfl)) (by decide) (by rintro ds j _ rfl; exact ltb rfl) ?_).imp (Ωn1 := fun r => r = Lst m.S g ts [.no, .no, .no, .no, .no, .no, .no, .no, .no, .no, .no, .no, .no, .no, .no]) (by rintro _ ⟨_, _, h⟩; exact h) (fun _ h => h)) ?_
  · rintro _ j d _ rfl hd rfl
    obtain ⟨hk, rfl⟩ := rng_get hd
    exact (law_turn M D hr hg h4 ht hk).imp (fun r h => h) (fun _ h => h)
  rintro _ rfl
  refine sb_cons (law_fewer M D hr hg ht) ?_
  rintro _ ⟨ts', hl, rfl⟩
  refine sb_nx (law_lost M D hr hg ht hl) ?_
  exact sb_one (ss_rt (gs_ret g_bl))
theorem ok_law (T : Fd K mg "law" pLaw (topS 59)) (T44 : Fd K mg "_law_stream" pLaw (topS 44)) (M : Nm mg) (D : LawD P w K mg base) : ∀ {f fd}, Fun K "law" "law" (topS 59) f fd → FnOk P w K mg base CX0 10 f fd pLaw (spLaw K) := by
  intro f fd F
  obtain ⟨f2, fd2, hm2, hk2, hb2, F2⟩ := ok_stream (P := P) (w := w) (base := base) T44 M
  refine F.ok scLaw (fun vs H Q E h => ?_) (fun cdv A outer s' H vs Q E hr h => ⟨_, sPs_ok, ?_⟩)
  · obtain ⟨a, ns, rfl, _⟩ := h
    rfl
  · obtain ⟨a, ns, rfl, hS, hl, q⟩ := h
    refine L2.PSs.se (pss_cons (ps_set (i := 1) scLaw.nd rfl (Or.inr rfl) (by exact (pe_call F2 (hr.mono (by decide)) rfl hm2 hk2 hb2 .nil pass0 (by exact (pa_cons (pv 0) pa_nil))))) sPs_ok) ?_
    refine ⟨.ref a, rfl, a, ns, rfl, hS, fun S L H' s hne hx hy => ?_⟩
    refine (law_rest M D hr ⟨S, L, ns⟩).run [S] H' _ H' ⟨[], ⟨hid_sub, fun a ha => absurd ha (by simp), rfl, fun i => ?_, fun i j p hij hi hj e1 e2 => ?_⟩, List.mem_singleton.mpr rfl, fun b hb e => ?_, fun a ha => absurd ha (by simp), fun a ha => absurd ha (by simp), Sk.refl _ _, .of (hid_at (by simpa using hne) hy), ⟨0, 0, hx⟩, rfl⟩ _ (fun _ _ _ o => o.elim) (fun v H2 d o _ _ dv => ?_)
    · match i with
      | 0 => trivial
      | 1 => rfl
      | i + 2 =>
        show SlOk K [S] [] H' (lkS (List.replicate 20 .no) i) _
        rw [lkS_nos]
        trivial
    · match i, hi with
      | 0, hi => cases hi
      | 1, hi => cases hi
      | i + 2, hi =>
        have hi' : isOw (lkS (List.replicate 20 .no) i) = true := hi
        rw [lkS_nos] at hi'
        cases hi'
    · rw [List.mem_singleton.mp hb, hx] at e
      cases e
    · subst o
      cases dv
      exact q H2
end
end TT
namespace TT
open PySem PySem.Spec PyProof.Rows L2
theorem fd_mk {K : PySem.W.Frag} {h : Heap} {mg : Str → Option Value} (X : K.In h) (G : h.Ns mainGlobals mg) {x : Str} {ps : List Str} {s : Stmt} {f : Addr} {od an : Option Addr} {sl : Array (Option Value)} {oc kV dc pm cd ct : Value}
    (a : PySem.W.nsIn K mainGlobals x = some (some (.ref f))) (l : K.lookup f = some ⟨oc, od, .func (PySem.W.fnOf x x (defArgs s) (defBody s) (defScope s) .none kV dc pm an cd ct), sl⟩) (c : PySem.W.codeIn K cd x = true) (k : PySem.W.keepIn K (.ref f) = true)
    (hb : ∀ (kV doc pm : Value) (an : Option Addr) (cdv ct : Value) (us : List Value), us.length = ps.length → bindArgs (PySem.W.fnOf x x (defArgs s) (defBody s) (defScope s) .none kV doc pm an cdv ct) ⟨us, []⟩ = pure (ps.zip us)) : Fd K mg x ps s := by
  have F := fun_mk (x := x) (qual := x) (st := s) l c k
  exact ⟨f, _, F, PySem.W.mg_of X G a, F.binds hb⟩
theorem ns_of_dict {K : PySem.W.Frag} {x : Str} {oc : Value} {od : Option Addr} {sl : Array (Option Value)} {es} {n} {e} {v : Value} (l : K.lookup mainGlobals = some ⟨oc, od, .dict es n, sl⟩) (f : es.toList.find? (·.key.isStr x) = some e) (hv : e.val = v) : PySem.W.nsIn K mainGlobals x = some (some v) := by
  unfold PySem.W.nsIn
  rw [l]
  show (match es.toList.find? (·.key.isStr x) with | some e => some (some e.val) | none => _) = _
  rw [f, ← hv]
theorem own_named {K : PySem.W.Frag} {S : Addr} (h1 : PySem.W.subIn K (.ref S) (.type "BaseException") = some true) (h2 : PySem.W.isClsIn K S = true) (h3 : PySem.W.typeIn K (.ref S) = some (.type "type")) (h4 : PySem.W.subIn K (.ref S) (.ref S) = some true) :
    PySem.W.exmOne K (.ref S) (.ref S) = some true := by
  have two : ((PySem.W.clsIn K S).isSome && PySem.W.typeIn K (.ref S) == some (.type "type")) = true := by
    have := h2
    unfold PySem.W.isClsIn at this
    rw [this, h3]
    rfl
  show ite ((PySem.W.subIn K (.ref S) (.type "BaseException") == some true) = true) (ite (((PySem.W.clsIn K S).isSome && PySem.W.typeIn K (.ref S) == some (.type "type")) = true) (PySem.W.subIn K (.ref S) (.ref S)) none) none = some true
  rw [two, h1, h4]
  rfl
theorem npx_mk {K : PySem.W.Frag} {h : Heap} {mg : Str → Option Value} (X : K.In h) (G : h.Ns mainGlobals mg) {C Ct f1 : Addr} {nm q : Str} {N : Addr} {bs : List Value} {sn : List Str} {sub : List Value} {ab : Bool} {col : Option Bool} {dd : Option Addr} {m0 m1 m2 m3 m5 : Option Value}
    {od1 an1 : Option Addr} {sl1 : Array (Option Value)} {oc1 kV1 dc1 pm1 cd1 ct1 : Value}
    (aC : PySem.W.nsIn K mainGlobals "NotPossible" = some (some (.ref C)))
    (xL : K.lookup C = some (excClassObj nm q C N bs [.ref Ct, .type "ValueError", .type "Exception", .type "BaseException", .type "object"] true sn sub ab col dd m0 m1 m2 m3 m5 "ValueError.__new__"))
    (sa : PySem.W.findIn K (.ref C) "__setattr__" = some (some (.builtin "object.__setattr__"))) (ga : PySem.W.findIn K (.ref C) "__getattribute__" = some (some (.builtin "BaseException.__getattribute__"))) (gg : PySem.W.findIn K (.ref C) "__getattr__" = some none) (nb : PySem.W.findIn K (.ref C) "why" = some none)
    (a1 : PySem.W.findIn K (.ref C) "__init__" = some (some (.ref f1))) (t1 : PySem.W.typeIn K (.ref f1) = some (.type "function"))
    (l1 : K.lookup f1 = some ⟨oc1, od1, .func (PySem.W.fnOf "__init__" "NotPossible.__init__" (defArgs sInit) (defBody sInit) (defScope sInit) .none kV1 dc1 pm1 an1 cd1 ct1), sl1⟩) (c1 : PySem.W.codeIn K cd1 "NotPossible.__init__" = true) (k1 : PySem.W.keepIn K (.ref f1) = true)
    (kC : PySem.W.keepIn K (.ref C) = true) (eC : PySem.W.subIn K (.ref C) (.type "BaseException") = some true) (tC : PySem.W.typeIn K (.ref C) = some (.type "type")) (hC : PySem.W.hasDictIn K C = true) (iC : PySem.W.isClsIn K C = true) (sC : PySem.W.subIn K (.ref C) (.ref C) = some true) : ∃ C fI, Npx K mg C fI := by
  have F1 := fun_mk (x := "__init__") (qual := "NotPossible.__init__") (st := sInit) l1 c1 k1
  exact ⟨C, f1, ⟨⟨nm, q, N, bs, _, sn, sub, ab, col, dd, m0, m1, m2, m3, m5, xL, rfl⟩, sa, eC, tC, kC⟩, ⟨ga, gg, eC, hC⟩, PySem.W.mg_of X G aC, nb, a1, t1, own_named eC iC tC sC, _, F1, F1.binds fun _ _ _ _ _ _ us hl => match us, hl with | [_, _], _ => rfl⟩
theorem law_d {P : Program} {w : World} {K : PySem.W.Frag} {mg : Str → Option Value} {base : Heap} (M : Nm mg) (NP : ∃ C fI, Npx K mg C fI)
    (T8 : Fd K mg "is_whole" ["value", "low", "high"] (topS 8)) (T9 : Fd K mg "is_climbing" ["value"] (topS 9)) (T10 : Fd K mg "are_variables" ["value"] (topS 10)) (T11 : Fd K mg "is_scope" ["value"] (topS 11)) (T12 : Fd K mg "is_row" ["values", "some", "value"] (topS 12)) (T13 : Fd K mg "is_table" ["values", "scope", "value"] (topS 13))
    (T14 : Fd K mg "rows_of" ["values", "many"] (topS 14)) (T15 : Fd K mg "cut_to" ["row", "some", "kept"] (topS 15)) (T18 : Fd K mg "is_number" ["value", "low", "high"] (topS 18)) (T19 : Fd K mg "is_edge" ["value", "many"] (topS 19)) (T20 : Fd K mg "is_graph" ["value"] (topS 20)) (T21 : Fd K mg "are_tables" ["graph", "value"] (topS 21))
    (T22 : Fd K mg "variables_of" ["graph"] (topS 22)) (T23 : Fd K mg "scope_of" ["graph", "nodes"] (topS 23)) (T24 : Fd K mg "check_graph" ["graph"] (topS 24)) (T25 : Fd K mg "check_tables" ["graph", "tables"] (topS 25)) (T26 : Fd K mg "first_rejecting" ["graph", "tables", "nodes", "row"] (topS 26)) (T27 : Fd K mg "price_of" ["graph", "tables", "nodes", "row"] (topS 27))
    (T28 : Fd K mg "solutions_by" ["graph", "tables", "nodes"] (topS 28)) (T29 : Fd K mg "solutions_of" ["graph", "tables"] (topS 29)) (T31 : Fd K mg "check_variable" ["graph", "tables", "variable"] (topS 31)) (T32 : Fd K mg "check_question" ["graph", "tables", "variable", "value"] (topS 32)) (T33 : Fd K mg "having" ["graph", "tables", "variable", "value"] (topS 33))
    (T34 : Fd K mg "what_if" ["graph", "tables", "variable", "value"] (topS 34)) (T35 : Fd K mg "shared_values" ["rows", "some"] (topS 35)) (T36 : Fd K mg "sure_values" ["graph", "tables"] (topS 36)) (T37 : Fd K mg "implied" ["graph", "tables", "variable", "value"] (topS 37)) (T38 : Fd K mg "possible_values" ["graph", "tables", "variable"] (topS 38))
    (T40 : Fd K mg "told_by" ["graph", "tables", "variable", "value"] (topS 40)) (T41 : Fd K mg "word_of" ["own", "others"] (topS 41)) (T42 : Fd K mg "verdict" ["graph", "tables", "variable", "value"] (topS 42))
    (T45 : Fd K mg "_law_next" ["_law_stream_here", "_law_many"] (topS 45)) (T46 : Fd K mg "_law_is_integer" ["_law_actual"] (topS 46)) (T47 : Fd K mg "_law_equal" ["_law_actual", "_law_due"] (topS 47)) (T48 : Fd K mg "_law_pick" ["_law_stream_here", "_law_rows_here"] (topS 48)) (T49 : Fd K mg "_law_rows" ["_law_values", "_law_many"] (topS 49))
    (T50 : Fd K mg "_law_table" ["_law_stream_here", "_law_values", "_law_scope"] (topS 50)) (T51 : Fd K mg "_law_part" ["_law_some", "_law_row", "_law_kept"] (topS 51)) (T52 : Fd K mg "_law_graph" ["_law_stream_here", "_law_nodes", "_law_widest"] (topS 52)) (T53 : Fd K mg "_law_tables" ["_law_stream_here", "_law_graph_here"] (topS 53))
    (T54 : Fd K mg "_law_variables" ["_law_graph_here", "_law_nodes"] (topS 54)) (T55 : Fd K mg "_law_solutions" ["_law_graph_here", "_law_tables_here", "_law_nodes"] (topS 55)) (T56 : Fd K mg "_law_every" ["_law_graph_here"] (topS 56)) (T57 : Fd K mg "_law_sure" ["_law_some", "_law_rows_here"] (topS 57)) (T58 : Fd K mg "_law_told" ["_law_graph_here", "_law_tables_here"] (topS 58)) : LawD P w K mg base := by
  obtain ⟨C, fI, N⟩ := NP
  have d8 := df_is_whole (P := P) (w := w) (base := base) T8 M
  have d9 := df_is_climbing (P := P) (w := w) (base := base) T9 M
  have d10 := df_are_variables T10 M d8 d9
  have d11 := df_is_scope T11 M d10
  have d12 := df_is_row T12 M d8
  have d13 := df_is_table T13 M d8 d9 d12
  have d14 := df_rows_of (P := P) (w := w) (base := base) T14 M
  have d15 := df_cut_to (P := P) (w := w) (base := base) T15 M
  have d18 := df_is_number (P := P) (w := w) (base := base) T18 M
  have d19 := df_is_edge T19 M d18
  have d20 := df_is_graph T20 M d18 d11 d19
  have d21 := df_are_tables T21 M d13
  have d23 := df_scope_of (P := P) (w := w) (base := base) T23 M
  have d22 := df_variables_of T22 M d23
  have d24 := df_check_graph T24 d20
  have d25 := df_check_tables T25 d24 d21
  have d26 := df_first_rejecting T26 M d23 d15
  have d27 := df_price_of T27 M d23 d15
  have d28 := df_solutions_by T28 M d23 d14 d26 d27
  have d29 := df_solutions_of T29 M d28
  have d31 := df_check_variable T31 M d25 d8 d22
  have d32 := df_check_question T32 M d31 d8
  have d33 := df_having T33 M d22 d29
  have d34 := df_what_if T34 M d32 d33
  have d35 := df_shared_values (P := P) (w := w) (base := base) T35 M
  have d36 := ok_sure N T36 M d25 d29 d35 d22
  have d37 := df_implied T37 M d32 d33 d35 d22
  have d38 := df_possible_values T38 M d31 d33
  have d40 := df_told_by T40 M d33 d29
  have d41 := df_word_of (P := P) (w := w) (base := base) T41 M
  have d42 := df_verdict T42 M d32 d40 d41
  have d45 := df_law_next (P := P) (w := w) (base := base) T45 M
  have d46 := df_law_int (P := P) (w := w) (base := base) T46 M
  have d47 := df_law_equal T47 M d46
  have d48 := df_law_pick T48 M d45
  have d49 := df_law_rows (P := P) (w := w) (base := base) T49 M
  have d50 := df_law_table T50 M d45 d48 d49
  have d51 := df_law_part (P := P) (w := w) (base := base) T51 M
  have d52 := df_law_graph T52 M d45 d48
  have d53 := df_law_tables T53 M d50
  have d54 := df_law_variables (P := P) (w := w) (base := base) T54 M
  have d55 := df_law_solutions T55 M d54 d49 d51
  have d56 := df_law_every (P := P) (w := w) (base := base) T56 M
  have d57 := df_law_sure (P := P) (w := w) (base := base) T57 M
  have d58 := df_law_told N T58 d36
  exact ⟨d47, d45, d52, d53, d54, d55, d56, d57, d58, d38, d34, d37, d42⟩
theorem all_mk {P : Program} {w : World} {K : PySem.W.Frag} {h : Heap} {mg : Str → Option Value} {fa : Addr} (KX : K.In h) (G : h.Ns mainGlobals mg) (hmg : mg "law" = some (.ref fa)) (M : Nm mg)
    (D : ∀ base : Heap, LawD P w K mg base) (T44 : Fd K mg "_law_stream" ["_law_script"] (topS 44))
    {f : Addr} {od an : Option Addr} {sl : Array (Option Value)} {oc kV dc pm cd ct : Value}
    (a : PySem.W.nsIn K mainGlobals "law" = some (some (.ref f))) (l : K.lookup f = some ⟨oc, od, .func (PySem.W.fnOf "law" "law" (defArgs (topS 59)) (defBody (topS 59)) (defScope (topS 59)) .none kV dc pm an cd ct), sl⟩) (c : PySem.W.codeIn K cd "law" = true) (k : PySem.W.keepIn K (.ref f) = true) :
    ∃ fd : FuncData, (∀ (s : Shared) (u : Value), BindsTo s fd ⟨[u], []⟩ [("_law_script", u)]) ∧ ∀ base : Heap, K.In base → base.Ns mainGlobals mg → FnOk P w K mg base CX0 40 fa fd ["_law_script"] (spLaw K) := by
  have e := hmg.symm.trans (PySem.W.mg_of KX G a)
  cases e
  have F := fun_mk (x := "law") (qual := "law") (st := topS 59) l c k
  have T : Fd K mg "law" pLaw (topS 59) := ⟨_, _, F, hmg, F.binds fun _ _ _ _ _ _ us hl => match us, hl with | [_], _ => rfl⟩
  exact ⟨_, fun s u => .of_eq rfl, fun base _ _ => (ok_law T T44 M (D base) F).mono (by decide)⟩
end TT
namespace TT
open PySem PySem.Spec PyProof.Rows L2
theorem end_mk {P : Program} {w : World} {K : PySem.W.Frag} {h : Heap} {mg : Str → Option Value} {fa : Addr} (KX : K.In h) (G : h.Ns mainGlobals mg) (hmg : mg "law" = some (.ref fa)) (M : Nm mg) (NP : ∃ C fI, Npx K mg C fI)
    (T8 : Fd K mg "is_whole" ["value", "low", "high"] (topS 8)) (T9 : Fd K mg "is_climbing" ["value"] (topS 9)) (T10 : Fd K mg "are_variables" ["value"] (topS 10)) (T11 : Fd K mg "is_scope" ["value"] (topS 11)) (T12 : Fd K mg "is_row" ["values", "some", "value"] (topS 12)) (T13 : Fd K mg "is_table" ["values", "scope", "value"] (topS 13)) (T14 : Fd K mg "rows_of" ["values", "many"] (topS 14)) (T15 : Fd K mg "cut_to" ["row", "some", "kept"] (topS 15)) (T18 : Fd K mg "is_number" ["value", "low", "high"] (topS 18)) (T19 : Fd K mg "is_edge" ["value", "many"] (topS 19)) (T20 : Fd K mg "is_graph" ["value"] (topS 20)) (T21 : Fd K mg "are_tables" ["graph", "value"] (topS 21)) (T22 : Fd K mg "variables_of" ["graph"] (topS 22)) (T23 : Fd K mg "scope_of" ["graph", "nodes"] (topS 23)) (T24 : Fd K mg "check_graph" ["graph"] (topS 24)) (T25 : Fd K mg "check_tables" ["graph", "tables"] (topS 25)) (T26 : Fd K mg "first_rejecting" ["graph", "tables", "nodes", "row"] (topS 26)) (T27 : Fd K mg "price_of" ["graph", "tables", "nodes", "row"] (topS 27)) (T28 : Fd K mg "solutions_by" ["graph", "tables", "nodes"] (topS 28)) (T29 : Fd K mg "solutions_of" ["graph", "tables"] (topS 29)) (T31 : Fd K mg "check_variable" ["graph", "tables", "variable"] (topS 31)) (T32 : Fd K mg "check_question" ["graph", "tables", "variable", "value"] (topS 32)) (T33 : Fd K mg "having" ["graph", "tables", "variable", "value"] (topS 33)) (T34 : Fd K mg "what_if" ["graph", "tables", "variable", "value"] (topS 34)) (T35 : Fd K mg "shared_values" ["rows", "some"] (topS 35)) (T36 : Fd K mg "sure_values" ["graph", "tables"] (topS 36)) (T37 : Fd K mg "implied" ["graph", "tables", "variable", "value"] (topS 37)) (T38 : Fd K mg "possible_values" ["graph", "tables", "variable"] (topS 38)) (T40 : Fd K mg "told_by" ["graph", "tables", "variable", "value"] (topS 40)) (T41 : Fd K mg "word_of" ["own", "others"] (topS 41)) (T42 : Fd K mg "verdict" ["graph", "tables", "variable", "value"] (topS 42)) (T45 : Fd K mg "_law_next" ["_law_stream_here", "_law_many"] (topS 45)) (T46 : Fd K mg "_law_is_integer" ["_law_actual"] (topS 46)) (T47 : Fd K mg "_law_equal" ["_law_actual", "_law_due"] (topS 47)) (T48 : Fd K mg "_law_pick" ["_law_stream_here", "_law_rows_here"] (topS 48)) (T49 : Fd K mg "_law_rows" ["_law_values", "_law_many"] (topS 49)) (T50 : Fd K mg "_law_table" ["_law_stream_here", "_law_values", "_law_scope"] (topS 50)) (T51 : Fd K mg "_law_part" ["_law_some", "_law_row", "_law_kept"] (topS 51)) (T52 : Fd K mg "_law_graph" ["_law_stream_here", "_law_nodes", "_law_widest"] (topS 52)) (T53 : Fd K mg "_law_tables" ["_law_stream_here", "_law_graph_here"] (topS 53)) (T54 : Fd K mg "_law_variables" ["_law_graph_here", "_law_nodes"] (topS 54)) (T55 : Fd K mg "_law_solutions" ["_law_graph_here", "_law_tables_here", "_law_nodes"] (topS 55)) (T56 : Fd K mg "_law_every" ["_law_graph_here"] (topS 56)) (T57 : Fd K mg "_law_sure" ["_law_some", "_law_rows_here"] (topS 57)) (T58 : Fd K mg "_law_told" ["_law_graph_here", "_law_tables_here"] (topS 58))
    (T44 : Fd K mg "_law_stream" ["_law_script"] (topS 44)) {f : Addr} {od an : Option Addr} {sl : Array (Option Value)} {oc kV dc pm cd ct : Value}
    (a : PySem.W.nsIn K mainGlobals "law" = some (some (.ref f))) (l : K.lookup f = some ⟨oc, od, .func (PySem.W.fnOf "law" "law" (defArgs (topS 59)) (defBody (topS 59)) (defScope (topS 59)) .none kV dc pm an cd ct), sl⟩) (c : PySem.W.codeIn K cd "law" = true) (k : PySem.W.keepIn K (.ref f) = true) :
    ∃ fd : FuncData, (∀ (s : Shared) (u : Value), BindsTo s fd ⟨[u], []⟩ [("_law_script", u)]) ∧ ∀ base : Heap, K.In base → base.Ns mainGlobals mg → FnOk P w K mg base CX0 40 fa fd ["_law_script"] (spLaw K) :=
  all_mk KX G hmg M (fun base => law_d M NP T8 T9 T10 T11 T12 T13 T14 T15 T18 T19 T20 T21 T22 T23 T24 T25 T26 T27 T28 T29 T31 T32 T33 T34 T35 T36 T37 T38 T40 T41 T42 T45 T46 T47 T48 T49 T50 T51 T52 T53 T54 T55 T56 T57 T58) T44 a l c k
end TT
open PySem PySem.W PyProof.Rows
theorem PySem.Challenge.cw_tabletalk_k58_whole_questions_holds : PySem.Challenge.rw_tabletalk_k58_whole_questions.Holds := by
  w_on; o_law; k_head; (case hw => w_witness2)
  k_fill
  refine L2.walk_ofK (l := PySem.Challenge.rw_tabletalk_k58_whole_questions) (n := 63) (k := 40) (x := "_law_script") (CX := L2.CX0) (sp := TT.spLaw) rfl (by decide) rfl ⟨rfl, by decide, by decide⟩ (fun w h Y => PySem.W.kIn_of Y) ?F (fun K H a ns hl _ hS => ⟨a, ns, rfl, hS, hl, fun _ => rfl⟩) (fun _ _ _ _ h => h)
  case F =>
    intro w mg fa h KX G hmg
    refine' TT.end_mk KX G hmg ?mNm ?mNp ?T8 ?T9 ?T10 ?T11 ?T12 ?T13 ?T14 ?T15 ?T18 ?T19 ?T20 ?T21 ?T22 ?T23 ?T24 ?T25 ?T26 ?T27 ?T28 ?T29 ?T31 ?T32 ?T33 ?T34 ?T35 ?T36 ?T37 ?T38 ?T40 ?T41 ?T42 ?T45 ?T46 ?T47 ?T48 ?T49 ?T50 ?T51 ?T52 ?T53 ?T54 ?T55 ?T56 ?T57 ?T58 ?T44 ?a59 ?l59 ?c59 ?k59
    (case mNm => clear hmg; refine' TT.Nm.mk ?isi ?int ?bool ?str ?len ?all ?any ?range ?tuple ?list ?zip ?enum ?sorted ?min ?sum ?abs ?cV ?cW ?cC ?cN; (case isi => refine' PySem.W.mg_none_of KX G ?zisi; (case zisi => k_is)); (case int => refine' PySem.W.mg_none_of KX G ?zint; (case zint => k_is)); (case bool => refine' PySem.W.mg_none_of KX G ?zbool; (case zbool => k_is)); (case str => refine' PySem.W.mg_none_of KX G ?zstr; (case zstr => k_is)); (case len => refine' PySem.W.mg_none_of KX G ?zlen; (case zlen => k_is)); (case all => refine' PySem.W.mg_none_of KX G ?zall; (case zall => k_is)); (case any => refine' PySem.W.mg_none_of KX G ?zany; (case zany => k_is)); (case range => refine' PySem.W.mg_none_of KX G ?zrange; (case zrange => k_is)); (case tuple => refine' PySem.W.mg_none_of KX G ?ztuple; (case ztuple => k_is)); (case list => refine' PySem.W.mg_none_of KX G ?zlist; (case zlist => k_is)); (case zip => refine' PySem.W.mg_none_of KX G ?zzip; (case zzip => k_is)); (case enum => refine' PySem.W.mg_none_of KX G ?zenum; (case zenum => k_is)); (case sorted => refine' PySem.W.mg_none_of KX G ?zsorted; (case zsorted => k_is)); (case min => refine' PySem.W.mg_none_of KX G ?zmin; (case zmin => k_is)); (case sum => refine' PySem.W.mg_none_of KX G ?zsum; (case zsum => k_is)); (case abs => refine' PySem.W.mg_none_of KX G ?zabs; (case zabs => k_is)); (case cV => refine' ⟨_, PySem.W.mg_of KX G ?zcV⟩; (case zcV => refine' TT.ns_of_dict ?lkcV ?fdcV ?vvcV; (case lkcV => k_is); (case fdcV => rfl); (case vvcV => rfl))); (case cW => refine' ⟨_, PySem.W.mg_of KX G ?zcW⟩; (case zcW => refine' TT.ns_of_dict ?lkcW ?fdcW ?vvcW; (case lkcW => k_is); (case fdcW => rfl); (case vvcW => rfl))); (case cC => refine' ⟨_, PySem.W.mg_of KX G ?zcC⟩; (case zcC => refine' TT.ns_of_dict ?lkcC ?fdcC ?vvcC; (case lkcC => k_is); (case fdcC => rfl); (case vvcC => rfl))); (case cN => refine' ⟨_, PySem.W.mg_of KX G ?zcN⟩; (case zcN => refine' TT.ns_of_dict ?lkcN ?fdcN ?vvcN; (case lkcN => k_is); (case fdcN => rfl); (case vvcN => rfl))))
    (case mNp => refine' TT.npx_mk KX G ?aC ?xL ?sa ?ga ?gg ?nb ?a1 ?t1 ?l1 ?c1 ?k1 ?kC ?eC ?tC ?hC ?iC ?sC; (case aC => k_is); (case xL => k_is); (case sa => k_is); (case ga => k_is); (case gg => k_is); (case nb => k_is); (case a1 => k_is); (case t1 => k_is); (case l1 => k_is); (case c1 => k_is); (case k1 => k_is); (case kC => k_is); (case eC => k_is); (case tC => k_is); (case hC => k_is); (case iC => k_is); (case sC => first | rfl | k_is))
    (case T8 => refine' TT.fd_mk KX G ?a8 ?l8 ?c8 ?k8 (fun _ _ _ _ _ _ us hl => match us, hl with | [_, _, _], _ => rfl); (case a8 => k_is); (case l8 => k_is); (case c8 => k_is); (case k8 => k_is))
    (case T9 => refine' TT.fd_mk KX G ?a9 ?l9 ?c9 ?k9 (fun _ _ _ _ _ _ us hl => match us, hl with | [_], _ => rfl); (case a9 => k_is); (case l9 => k_is); (case c9 => k_is); (case k9 => k_is))
    (case T10 => refine' TT.fd_mk KX G ?a10 ?l10 ?c10 ?k10 (fun _ _ _ _ _ _ us hl => match us, hl with | [_], _ => rfl); (case a10 => k_is); (case l10 => k_is); (case c10 => k_is); (case k10 => k_is))
    (case T11 => refine' TT.fd_mk KX G ?a11 ?l11 ?c11 ?k11 (fun _ _ _ _ _ _ us hl => match us, hl with | [_], _ => rfl); (case a11 => k_is); (case l11 => k_is); (case c11 => k_is); (case k11 => k_is))
    (case T12 => refine' TT.fd_mk KX G ?a12 ?l12 ?c12 ?k12 (fun _ _ _ _ _ _ us hl => match us, hl with | [_, _, _], _ => rfl); (case a12 => k_is); (case l12 => k_is); (case c12 => k_is); (case k12 => k_is))
    (case T13 => refine' TT.fd_mk KX G ?a13 ?l13 ?c13 ?k13 (fun _ _ _ _ _ _ us hl => match us, hl with | [_, _, _], _ => rfl); (case a13 => k_is); (case l13 => k_is); (case c13 => k_is); (case k13 => k_is))
    (case T14 => refine' TT.fd_mk KX G ?a14 ?l14 ?c14 ?k14 (fun _ _ _ _ _ _ us hl => match us, hl with | [_, _], _ => rfl); (case a14 => k_is); (case l14 => k_is); (case c14 => k_is); (case k14 => k_is))
    (case T15 => refine' TT.fd_mk KX G ?a15 ?l15 ?c15 ?k15 (fun _ _ _ _ _ _ us hl => match us, hl with | [_, _, _], _ => rfl); (case a15 => k_is); (case l15 => k_is); (case c15 => k_is); (case k15 => k_is))
    (case T18 => refine' TT.fd_mk KX G ?a18 ?l18 ?c18 ?k18 (fun _ _ _ _ _ _ us hl => match us, hl with | [_, _, _], _ => rfl); (case a18 => k_is); (case l18 => k_is); (case c18 => k_is); (case k18 => k_is))
    (case T19 => refine' TT.fd_mk KX G ?a19 ?l19 ?c19 ?k19 (fun _ _ _ _ _ _ us hl => match us, hl with | [_, _], _ => rfl); (case a19 => k_is); (case l19 => k_is); (case c19 => k_is); (case k19 => k_is))
    (case T20 => refine' TT.fd_mk KX G ?a20 ?l20 ?c20 ?k20 (fun _ _ _ _ _ _ us hl => match us, hl with | [_], _ => rfl); (case a20 => k_is); (case l20 => k_is); (case c20 => k_is); (case k20 => k_is))
    (case T21 => refine' TT.fd_mk KX G ?a21 ?l21 ?c21 ?k21 (fun _ _ _ _ _ _ us hl => match us, hl with | [_, _], _ => rfl); (case a21 => k_is); (case l21 => k_is); (case c21 => k_is); (case k21 => k_is))
    (case T22 => refine' TT.fd_mk KX G ?a22 ?l22 ?c22 ?k22 (fun _ _ _ _ _ _ us hl => match us, hl with | [_], _ => rfl); (case a22 => k_is); (case l22 => k_is); (case c22 => k_is); (case k22 => k_is))
    (case T23 => refine' TT.fd_mk KX G ?a23 ?l23 ?c23 ?k23 (fun _ _ _ _ _ _ us hl => match us, hl with | [_, _], _ => rfl); (case a23 => k_is); (case l23 => k_is); (case c23 => k_is); (case k23 => k_is))
    (case T24 => refine' TT.fd_mk KX G ?a24 ?l24 ?c24 ?k24 (fun _ _ _ _ _ _ us hl => match us, hl with | [_], _ => rfl); (case a24 => k_is); (case l24 => k_is); (case c24 => k_is); (case k24 => k_is))
    (case T25 => refine' TT.fd_mk KX G ?a25 ?l25 ?c25 ?k25 (fun _ _ _ _ _ _ us hl => match us, hl with | [_, _], _ => rfl); (case a25 => k_is); (case l25 => k_is); (case c25 => k_is); (case k25 => k_is))
    (case T26 => refine' TT.fd_mk KX G ?a26 ?l26 ?c26 ?k26 (fun _ _ _ _ _ _ us hl => match us, hl with | [_, _, _, _], _ => rfl); (case a26 => k_is); (case l26 => k_is); (case c26 => k_is); (case k26 => k_is))
    (case T27 => refine' TT.fd_mk KX G ?a27 ?l27 ?c27 ?k27 (fun _ _ _ _ _ _ us hl => match us, hl with | [_, _, _, _], _ => rfl); (case a27 => k_is); (case l27 => k_is); (case c27 => k_is); (case k27 => k_is))
    (case T28 => refine' TT.fd_mk KX G ?a28 ?l28 ?c28 ?k28 (fun _ _ _ _ _ _ us hl => match us, hl with | [_, _, _], _ => rfl); (case a28 => k_is); (case l28 => k_is); (case c28 => k_is); (case k28 => k_is))
    (case T29 => refine' TT.fd_mk KX G ?a29 ?l29 ?c29 ?k29 (fun _ _ _ _ _ _ us hl => match us, hl with | [_, _], _ => rfl); (case a29 => k_is); (case l29 => k_is); (case c29 => k_is); (case k29 => k_is))
    (case T31 => refine' TT.fd_mk KX G ?a31 ?l31 ?c31 ?k31 (fun _ _ _ _ _ _ us hl => match us, hl with | [_, _, _], _ => rfl); (case a31 => k_is); (case l31 => k_is); (case c31 => k_is); (case k31 => k_is))
    (case T32 => refine' TT.fd_mk KX G ?a32 ?l32 ?c32 ?k32 (fun _ _ _ _ _ _ us hl => match us, hl with | [_, _, _, _], _ => rfl); (case a32 => k_is); (case l32 => k_is); (case c32 => k_is); (case k32 => k_is))
    (case T33 => refine' TT.fd_mk KX G ?a33 ?l33 ?c33 ?k33 (fun _ _ _ _ _ _ us hl => match us, hl with | [_, _, _, _], _ => rfl); (case a33 => k_is); (case l33 => k_is); (case c33 => k_is); (case k33 => k_is))
    (case T34 => refine' TT.fd_mk KX G ?a34 ?l34 ?c34 ?k34 (fun _ _ _ _ _ _ us hl => match us, hl with | [_, _, _, _], _ => rfl); (case a34 => k_is); (case l34 => k_is); (case c34 => k_is); (case k34 => k_is))
    (case T35 => refine' TT.fd_mk KX G ?a35 ?l35 ?c35 ?k35 (fun _ _ _ _ _ _ us hl => match us, hl with | [_, _], _ => rfl); (case a35 => k_is); (case l35 => k_is); (case c35 => k_is); (case k35 => k_is))
    (case T36 => refine' TT.fd_mk KX G ?a36 ?l36 ?c36 ?k36 (fun _ _ _ _ _ _ us hl => match us, hl with | [_, _], _ => rfl); (case a36 => k_is); (case l36 => k_is); (case c36 => k_is); (case k36 => k_is))
    (case T37 => refine' TT.fd_mk KX G ?a37 ?l37 ?c37 ?k37 (fun _ _ _ _ _ _ us hl => match us, hl with | [_, _, _, _], _ => rfl); (case a37 => k_is); (case l37 => k_is); (case c37 => k_is); (case k37 => k_is))
    (case T38 => refine' TT.fd_mk KX G ?a38 ?l38 ?c38 ?k38 (fun _ _ _ _ _ _ us hl => match us, hl with | [_, _, _], _ => rfl); (case a38 => k_is); (case l38 => k_is); (case c38 => k_is); (case k38 => k_is))
    (case T40 => refine' TT.fd_mk KX G ?a40 ?l40 ?c40 ?k40 (fun _ _ _ _ _ _ us hl => match us, hl with | [_, _, _, _], _ => rfl); (case a40 => k_is); (case l40 => k_is); (case c40 => k_is); (case k40 => k_is))
    (case T41 => refine' TT.fd_mk KX G ?a41 ?l41 ?c41 ?k41 (fun _ _ _ _ _ _ us hl => match us, hl with | [_, _], _ => rfl); (case a41 => k_is); (case l41 => k_is); (case c41 => k_is); (case k41 => k_is))
    (case T42 => refine' TT.fd_mk KX G ?a42 ?l42 ?c42 ?k42 (fun _ _ _ _ _ _ us hl => match us, hl with | [_, _, _, _], _ => rfl); (case a42 => k_is); (case l42 => k_is); (case c42 => k_is); (case k42 => k_is))
    (case T45 => refine' TT.fd_mk KX G ?a45 ?l45 ?c45 ?k45 (fun _ _ _ _ _ _ us hl => match us, hl with | [_, _], _ => rfl); (case a45 => k_is); (case l45 => k_is); (case c45 => k_is); (case k45 => k_is))
    (case T46 => refine' TT.fd_mk KX G ?a46 ?l46 ?c46 ?k46 (fun _ _ _ _ _ _ us hl => match us, hl with | [_], _ => rfl); (case a46 => k_is); (case l46 => k_is); (case c46 => k_is); (case k46 => k_is))
    (case T47 => refine' TT.fd_mk KX G ?a47 ?l47 ?c47 ?k47 (fun _ _ _ _ _ _ us hl => match us, hl with | [_, _], _ => rfl); (case a47 => k_is); (case l47 => k_is); (case c47 => k_is); (case k47 => k_is))
    (case T48 => refine' TT.fd_mk KX G ?a48 ?l48 ?c48 ?k48 (fun _ _ _ _ _ _ us hl => match us, hl with | [_, _], _ => rfl); (case a48 => k_is); (case l48 => k_is); (case c48 => k_is); (case k48 => k_is))
    (case T49 => refine' TT.fd_mk KX G ?a49 ?l49 ?c49 ?k49 (fun _ _ _ _ _ _ us hl => match us, hl with | [_, _], _ => rfl); (case a49 => k_is); (case l49 => k_is); (case c49 => k_is); (case k49 => k_is))
    (case T50 => refine' TT.fd_mk KX G ?a50 ?l50 ?c50 ?k50 (fun _ _ _ _ _ _ us hl => match us, hl with | [_, _, _], _ => rfl); (case a50 => k_is); (case l50 => k_is); (case c50 => k_is); (case k50 => k_is))
    (case T51 => refine' TT.fd_mk KX G ?a51 ?l51 ?c51 ?k51 (fun _ _ _ _ _ _ us hl => match us, hl with | [_, _, _], _ => rfl); (case a51 => k_is); (case l51 => k_is); (case c51 => k_is); (case k51 => k_is))
    (case T52 => refine' TT.fd_mk KX G ?a52 ?l52 ?c52 ?k52 (fun _ _ _ _ _ _ us hl => match us, hl with | [_, _, _], _ => rfl); (case a52 => k_is); (case l52 => k_is); (case c52 => k_is); (case k52 => k_is))
    (case T53 => refine' TT.fd_mk KX G ?a53 ?l53 ?c53 ?k53 (fun _ _ _ _ _ _ us hl => match us, hl with | [_, _], _ => rfl); (case a53 => k_is); (case l53 => k_is); (case c53 => k_is); (case k53 => k_is))
    (case T54 => refine' TT.fd_mk KX G ?a54 ?l54 ?c54 ?k54 (fun _ _ _ _ _ _ us hl => match us, hl with | [_, _], _ => rfl); (case a54 => k_is); (case l54 => k_is); (case c54 => k_is); (case k54 => k_is))
    (case T55 => refine' TT.fd_mk KX G ?a55 ?l55 ?c55 ?k55 (fun _ _ _ _ _ _ us hl => match us, hl with | [_, _, _], _ => rfl); (case a55 => k_is); (case l55 => k_is); (case c55 => k_is); (case k55 => k_is))
    (case T56 => refine' TT.fd_mk KX G ?a56 ?l56 ?c56 ?k56 (fun _ _ _ _ _ _ us hl => match us, hl with | [_], _ => rfl); (case a56 => k_is); (case l56 => k_is); (case c56 => k_is); (case k56 => k_is))
    (case T57 => refine' TT.fd_mk KX G ?a57 ?l57 ?c57 ?k57 (fun _ _ _ _ _ _ us hl => match us, hl with | [_, _], _ => rfl); (case a57 => k_is); (case l57 => k_is); (case c57 => k_is); (case k57 => k_is))
    (case T58 => refine' TT.fd_mk KX G ?a58 ?l58 ?c58 ?k58 (fun _ _ _ _ _ _ us hl => match us, hl with | [_, _], _ => rfl); (case a58 => k_is); (case l58 => k_is); (case c58 => k_is); (case k58 => k_is))
    (case T44 => refine' TT.fd_mk KX G ?a44 ?l44 ?c44 ?k44 (fun _ _ _ _ _ _ us hl => match us, hl with | [_], _ => rfl); (case a44 => k_is); (case l44 => k_is); (case c44 => k_is); (case k44 => k_is))
    (case a59 => k_is); (case l59 => k_is); (case c59 => k_is); (case k59 => k_is)
