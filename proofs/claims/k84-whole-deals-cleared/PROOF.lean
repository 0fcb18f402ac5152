import PyProof.Rows.All
import Wide.All
import OpenK.AllK
import Wide.FinOn
import HandS.ForMost
import HandS.IsInst
import HandS.TupAny
import HandS.Deep
import HandS.Zip
import HandS.NoneIn
import HandS.Defaults
import HandS.Sort
import HandS.SortOrd
import HandS.SortRule
import HandS.SortInts
import HandS.Set
import HandS.Strs
import HandS.SetFor
import HandS.TupSets
import KE.GoesMore
import KE.GoesEnum
import HandS.Conv
import HandS.TupLe
import PySem.Challenge.RW_ringlots_k84_whole_deals_cleared
import HandS.Wide
import KE.KStateDown
import Lean
import HandS.WordsExc
import HandS.Head0
import HandS.Head1
import HandS.Head2
import HandS.HeadEnd
import HandS.HeadHook1
import HandS.HeadHook2
set_option Elab.async false
set_option linter.all false
set_option maxRecDepth 100000
set_option maxHeartbeats 0
/-! a layer over data: what stands at a value, as a tree; expressions and statements by what they do to such trees -/
namespace Rng
open PySem PySem.Spec PyProof.Rows L2
/-! ### trees at values -/
/-- the script of the law, which is no list of ours: where it stands; where it stands and what it holds -/
def dInt : PyData → V
  | .int i => .int i
  | _ => .non
def FrzT (H : Hp) : List (PyData × PyData) → V → Prop
  | [(.int n, .none)], v => v = .ref n.toNat
  | [(.int n, .list ds)], v => v = .ref n.toNat ∧ ∃ o, H n.toNat = some (.frz o (.lst (ds.map dInt)))
  | _, _ => False
theorem FrzT.mono {H H' : Hp} (s : Same H H') {kvs : List (PyData × PyData)} {v : V} (h : FrzT H kvs v) : FrzT H' kvs v := by
  unfold FrzT at h ⊢
  split at h
  · exact h
  · obtain ⟨h1, o, h2⟩ := h
    exact ⟨h1, o, s _ _ h2⟩
  · exact h.elim
mutual
def Rp (H : Hp) : PyData → V → Prop
  | .none, v => v = .non
  | .bool b, v => v = .bl b
  | .int i, v => v = .int i
  | .str x, v => v = .str x
  | .list ds, v => ∃ a vs, v = .ref a ∧ H a = some (.lst vs) ∧ RpAll H ds vs
  | .tuple ds, v => ∃ a vs, v = .ref a ∧ H a = some (.tup vs) ∧ RpAll H ds vs
  | .dict kvs, v => FrzT H kvs v
def RpAll (H : Hp) : List PyData → List V → Prop
  | [], vs => vs = []
  | d :: ds, vs => ∃ v r, vs = v :: r ∧ Rp H d v ∧ RpAll H ds r
end
mutual
theorem Rp.mono {H H' : Hp} (s : Same H H') : ∀ (d : PyData) (v : V), Rp H d v → Rp H' d v
  | .none, _, h => h
  | .bool _, _, h => h
  | .int _, _, h => h
  | .str _, _, h => h
  | .list ds, v, h => by
    obtain ⟨a, vs, e, ha, hs⟩ := h
    exact ⟨a, vs, e, s _ _ ha, RpAll.mono s ds vs hs⟩
  | .tuple ds, v, h => by
    obtain ⟨a, vs, e, ha, hs⟩ := h
    exact ⟨a, vs, e, s _ _ ha, RpAll.mono s ds vs hs⟩
  | .dict _, _, h => FrzT.mono s h
theorem RpAll.mono {H H' : Hp} (s : Same H H') : ∀ (ds : List PyData) (vs : List V), RpAll H ds vs → RpAll H' ds vs
  | [], _, h => h
  | d :: ds, vs, h => by
    obtain ⟨v, r, e, h1, h2⟩ := h
    exact ⟨v, r, e, Rp.mono s d v h1, RpAll.mono s ds r h2⟩
end
mutual
theorem Rp.dp {K : PySem.W.Frag} {H : Hp} : ∀ (d : PyData) (v : V), d.canLay0 = true → Rp H d v → Dp K H v d
  | .none, _, _, h => by cases h; exact .non
  | .bool _, _, _, h => by cases h; exact .bl _
  | .int _, _, _, h => by cases h; exact .int _
  | .str _, _, _, h => by cases h; exact .str _
  | .list ds, v, c, h => by
    obtain ⟨a, vs, rfl, ha, hs⟩ := h
    exact .lst (SqL.of ha) (RpAll.dp ds vs (by simpa [PyData.canLay0] using c) hs)
  | .tuple ds, v, c, h => by
    obtain ⟨a, vs, rfl, ha, hs⟩ := h
    exact .tup (SqT.of ha) (RpAll.dp ds vs (by simpa [PyData.canLay0] using c) hs)
  | .dict _, _, c, h => nomatch c
theorem RpAll.dp {K : PySem.W.Frag} {H : Hp} : ∀ (ds : List PyData) (vs : List V), PyData.canLayAll0 ds = true → RpAll H ds vs → DpAll K H vs ds
  | [], _, _, h => by cases h; exact .nil
  | d :: ds, vs, c, h => by
    obtain ⟨v, r, rfl, h1, h2⟩ := h
    have c' : d.canLay0 = true ∧ PyData.canLayAll0 ds = true := by simpa [PyData.canLayAll0] using c
    exact .cons (Rp.dp d v c'.1 h1) (RpAll.dp ds r c'.2 h2)
end
theorem shaped_can {d : PyData} (h : SeqAt.shaped d = true) : d.canLay0 = true := by
  unfold SeqAt.shaped at h
  rw [Bool.and_eq_true] at h
  exact h.1
section
variable {H : Hp}
theorem RpAll.length : ∀ {ds : List PyData} {vs : List V}, RpAll H ds vs → vs.length = ds.length
  | [], _, h => by cases h; rfl
  | d :: ds, vs, h => by
    obtain ⟨v, r, rfl, h1, h2⟩ := h
    rw [List.length_cons, List.length_cons, RpAll.length h2]
theorem RpAll.cons {d : PyData} {ds : List PyData} {v : V} {vs : List V} (h : Rp H d v) (t : RpAll H ds vs) : RpAll H (d :: ds) (v :: vs) := ⟨v, vs, rfl, h, t⟩
theorem RpAll.nil : RpAll H [] [] := rfl
theorem RpAll.get : ∀ {ds : List PyData} {vs : List V} {i : Nat} {v : V}, RpAll H ds vs → vs[i]? = some v → ∃ d, ds[i]? = some d ∧ Rp H d v
  | [], _, i, v, h, e => by cases h; simp at e
  | d :: ds, vs, 0, v, h, e => by
    obtain ⟨v', r, rfl, h1, h2⟩ := h
    simp at e
    subst e
    exact ⟨d, rfl, h1⟩
  | d :: ds, vs, i + 1, v, h, e => by
    obtain ⟨v', r, rfl, h1, h2⟩ := h
    have e2 : r[i]? = some v := by simpa using e
    obtain ⟨d', a, b⟩ := RpAll.get h2 e2
    exact ⟨d', by simpa using a, b⟩
theorem RpAll.at : ∀ {ds : List PyData} {vs : List V} {i : Nat} {d : PyData}, RpAll H ds vs → ds[i]? = some d → ∃ v, vs[i]? = some v ∧ Rp H d v
  | [], _, i, d, h, e => by simp at e
  | d' :: ds, vs, 0, d, h, e => by
    obtain ⟨v', r, rfl, h1, h2⟩ := h
    simp at e
    subst e
    exact ⟨v', rfl, h1⟩
  | d' :: ds, vs, i + 1, d, h, e => by
    obtain ⟨v', r, rfl, h1, h2⟩ := h
    have e2 : ds[i]? = some d := by simpa using e
    obtain ⟨v, a, b⟩ := RpAll.at h2 e2
    exact ⟨v, by simpa using a, b⟩
theorem RpAll.append : ∀ {ds es : List PyData} {vs us : List V}, RpAll H ds vs → RpAll H es us → RpAll H (ds ++ es) (vs ++ us)
  | [], es, vs, us, h, k => by cases h; exact k
  | d :: ds, es, vs, us, h, k => by
    obtain ⟨v, r, rfl, h1, h2⟩ := h
    exact ⟨v, r ++ us, rfl, h1, RpAll.append h2 k⟩
theorem RpAll.drop : ∀ (n : Nat) {ds : List PyData} {vs : List V}, RpAll H ds vs → RpAll H (ds.drop n) (vs.drop n)
  | 0, _, _, h => h
  | n + 1, [], vs, h => by cases h; exact rfl
  | n + 1, d :: ds, vs, h => by
    obtain ⟨v, r, rfl, h1, h2⟩ := h
    exact RpAll.drop n h2
theorem RpAll.take : ∀ (n : Nat) {ds : List PyData} {vs : List V}, RpAll H ds vs → RpAll H (ds.take n) (vs.take n)
  | 0, _, _, h => rfl
  | n + 1, [], vs, h => by cases h; exact rfl
  | n + 1, d :: ds, vs, h => by
    obtain ⟨v, r, rfl, h1, h2⟩ := h
    exact ⟨v, r.take n, rfl, h1, RpAll.take n h2⟩
theorem RpAll.ints : ∀ {ns : List Int} {vs : List V}, RpAll H (ns.map PyData.int) vs → vs = ns.map V.int
  | [], vs, h => h
  | n :: ns, vs, h => by
    obtain ⟨v, r, rfl, h1, h2⟩ := h
    have h1 : v = V.int n := h1
    rw [h1, RpAll.ints h2] <;> rfl
theorem RpAll.of_ints : ∀ (ns : List Int), RpAll H (ns.map PyData.int) (ns.map V.int)
  | [] => rfl
  | n :: ns => ⟨_, _, rfl, rfl, RpAll.of_ints ns⟩
theorem RpAll.bools : ∀ {ns : List Bool} {vs : List V}, RpAll H (ns.map PyData.bool) vs → vs = ns.map V.bl
  | [], vs, h => h
  | n :: ns, vs, h => by
    obtain ⟨v, r, rfl, h1, h2⟩ := h
    have h1 : v = V.bl n := h1
    rw [h1, RpAll.bools h2] <;> rfl
theorem RpAll.mem : ∀ {ds : List PyData} {vs : List V} {v : V}, RpAll H ds vs → v ∈ vs → ∃ d, d ∈ ds ∧ Rp H d v
  | [], _, v, h, m => by cases h; cases m
  | d :: ds, vs, v, h, m => by
    obtain ⟨v', r, rfl, h1, h2⟩ := h
    rcases List.mem_cons.mp m with e | m
    · subst e
      exact ⟨d, List.mem_cons_self, h1⟩
    · obtain ⟨d', a, b⟩ := RpAll.mem h2 m
      exact ⟨d', List.mem_cons_of_mem _ a, b⟩
theorem RpAll.eraseIdx : ∀ (i : Nat) {ds : List PyData} {vs : List V}, RpAll H ds vs → RpAll H (ds.eraseIdx i) (vs.eraseIdx i)
  | _, [], vs, h => by cases h; exact rfl
  | 0, d :: ds, vs, h => by
    obtain ⟨v, r, rfl, h1, h2⟩ := h
    exact h2
  | i + 1, d :: ds, vs, h => by
    obtain ⟨v, r, rfl, h1, h2⟩ := h
    exact ⟨v, r.eraseIdx i, rfl, h1, RpAll.eraseIdx i h2⟩
theorem RpAll.dropLast : ∀ {ds : List PyData} {vs : List V}, RpAll H ds vs → RpAll H ds.dropLast vs.dropLast := fun {ds vs} h => by
  rw [List.dropLast_eq_take, List.dropLast_eq_take, h.length]
  exact h.take _
end
/-! ### hot objects: those that others may change -/
abbrev Sg := L2.St
abbrev Hot := Addr → Bool
def cold (hot : Hot) (H : Hp) : Hp := fun a => if hot a = true then none else H a
def Alc (hot : Hot) (H : Hp) : Prop := ∀ a, hot a = true → H a ≠ none
abbrev noHot : Hot := fun _ => false
theorem Alc.no {H : Hp} : Alc noHot H := fun _ h => by cases h
theorem cold_no {H : Hp} : cold noHot H = H := by
  funext a
  unfold cold
  rw [if_neg Bool.false_ne_true]
theorem cold_same {hot : Hot} {H : Hp} : Same (cold hot H) H := fun a o e => by
  unfold cold at e
  by_cases h : hot a = true
  · rw [if_pos h] at e; cases e
  · rw [if_neg h] at e; exact e
theorem cold_at {hot : Hot} {H : Hp} {a : Addr} (h : hot a = false) : cold hot H a = H a := by
  unfold cold
  rw [if_neg (by rw [h]; decide)]
theorem cold_mono {hot : Hot} {H H' : Hp} (s : Same H H') : Same (cold hot H) (cold hot H') := fun a o e => by
  unfold cold at e ⊢
  by_cases h : hot a = true
  · rw [if_pos h] at e; cases e
  · rw [if_neg h] at e ⊢; exact s _ _ e
theorem Alc.mono {hot : Hot} {H H' : Hp} (s : Same H H') (h : Alc hot H) : Alc hot H' := fun a e n => h a e (s.free n)
theorem Alc.fresh {hot : Hot} {H : Hp} (h : Alc hot H) {p : Addr} (n : H p = none) : hot p = false := by
  cases e : hot p with
  | false => rfl
  | true => exact absurd n (h p e)
theorem same_new {H : Hp} {p : Addr} (h : H p = none) (o : HO) : Same H (upd H p o) := fun b u q => by rw [upd_ne (ne_of_none q h)]; exact q
theorem cold_new {hot : Hot} {H : Hp} (h : Alc hot H) {p : Addr} (n : H p = none) {o : HO} : cold hot (upd H p o) p = some o := by
  rw [cold_at (h.fresh n), upd_same]
theorem Rp.warm {hot : Hot} {H : Hp} {d : PyData} {v : V} (h : Rp (cold hot H) d v) : Rp H d v := Rp.mono cold_same d v h
/-! ### the names' trees -/
abbrev DEnv := List (Option PyData)
def Rs (H : Hp) (σ : Sg) (ρ : DEnv) : Prop := σ.length = ρ.length ∧ ∀ (i : Nat) (d : PyData), ρ[i]? = some (some d) → ∃ v, σ[i]? = some (some v) ∧ Rp H d v
theorem Rs.mono {H H' : Hp} {σ : Sg} {ρ : DEnv} (s : Same H H') (h : Rs H σ ρ) : Rs H' σ ρ := ⟨h.1, fun i d e => by
  obtain ⟨v, a, b⟩ := h.2 i d e
  exact ⟨v, a, Rp.mono s d v b⟩⟩
theorem Rs.set {H : Hp} {σ : Sg} {ρ : DEnv} (h : Rs H σ ρ) (i : Nat) {d : PyData} {v : V} (r : Rp H d v) : Rs H (σ.set i (some v)) (ρ.set i (some d)) := by
  refine ⟨by rw [List.length_set, List.length_set]; exact h.1, fun j e he => ?_⟩
  by_cases hj : i = j
  · subst hj
    by_cases hl : i < ρ.length
    · rw [List.getElem?_set_self hl] at he
      cases he
      exact ⟨v, List.getElem?_set_self (by rw [h.1]; exact hl), r⟩
    · rw [List.getElem?_eq_none (by rw [List.length_set]; omega)] at he
      cases he
  · rw [List.getElem?_set_ne hj] at he
    obtain ⟨v', a, b⟩ := h.2 j e he
    exact ⟨v', by rw [List.getElem?_set_ne hj]; exact a, b⟩
/-- forgotten names -/
def wipeD (ρ : DEnv) : List Nat → DEnv
  | [] => ρ
  | v :: vs => (wipeD ρ vs).set v none
theorem Rs.wipe {H : Hp} {σ : Sg} {ρ : DEnv} (h : Rs H σ ρ) : ∀ vs : List Nat, Rs H (wipe σ vs) (wipeD ρ vs)
  | [] => h
  | v :: vs => by
    have ih := Rs.wipe h vs
    unfold L2.wipe wipeD
    refine ⟨by rw [List.length_set, List.length_set]; exact ih.1, fun j e he => ?_⟩
    by_cases hj : v = j
    · subst hj
      by_cases hl : v < (wipeD ρ vs).length
      · rw [List.getElem?_set_self hl] at he; cases he
      · rw [List.getElem?_eq_none (by rw [List.length_set]; omega)] at he; cases he
    · rw [List.getElem?_set_ne hj] at he
      obtain ⟨v', a, b⟩ := ih.2 j e he
      exact ⟨v', by rw [List.getElem?_set_ne hj]; exact a, b⟩
theorem wipe_set {σ : Sg} {i : Nat} {x : Option V} : ∀ {vs : List Nat}, i ∈ vs → wipe (σ.set i x) vs = wipe σ vs
  | [], h => by cases h
  | v :: vs, h => by
    unfold L2.wipe
    by_cases hi : i ∈ vs
    · rw [wipe_set hi]
    · have e : i = v := by
        rcases List.mem_cons.mp h with e | e
        · exact e
        · exact absurd e hi
      subst e
      have key : ∀ (vs : List Nat), i ∉ vs → (wipe (σ.set i x) vs).set i none = (wipe σ vs).set i none := by
        intro vs
        induction vs with
        | nil =>
          intro _
          show (σ.set i x).set i none = σ.set i none
          rw [List.set_set]
        | cons w ws ih =>
          intro hn
          unfold L2.wipe
          have hw : w ≠ i := fun e => hn (by rw [e]; exact List.mem_cons_self)
          rw [List.set_comm _ _ hw, ih (fun m => hn (List.mem_cons_of_mem _ m)), List.set_comm _ _ (Ne.symm hw)]
      exact key vs hi
/-! ### expressions -/
theorem _root_.L2.PE.imp {X : Cx} {e : Expr} {t t' : TE} (h : PE X e t) (i : ∀ σ H Q, t' σ H Q → t σ H Q) : PE X e t' := ⟨fun pins s σ H Q I q => h.run pins s σ H Q I (i _ _ _ q)⟩
theorem _root_.L2.PT.imp {X : Cx} {e : Expr} {t t' : TT} (h : PT X e t) (i : ∀ σ H Q, t' σ H Q → t σ H Q) : PT X e t' := ⟨fun pins s σ H Q I q => h.run pins s σ H Q I (i _ _ _ q)⟩
theorem _root_.L2.PW.imp {X : Cx} {e : Expr} {t t' : TT} (h : PW X e t) (i : ∀ σ H Q, t' σ H Q → t σ H Q) : PW X e t' := ⟨fun wh pins s σ H Q I q => h.run wh pins s σ H Q I (i _ _ _ q)⟩
theorem _root_.L2.PA.imp {X : Cx} {es : List Expr} {t t' : TA} (h : PA X es t) (i : ∀ σ H Q, t' σ H Q → t σ H Q) : PA X es t' := ⟨fun pos pins s σ H Q I q => h.run pos pins s σ H Q I (i _ _ _ q)⟩
theorem _root_.L2.PS.imp {X : Cx} {st : Stmt} {t t' : TS} (h : PS X st t) (i : ∀ D σ H, t' D σ H → t D σ H) : PS X st t' := ⟨fun pins s σ H D I q => h.run pins s σ H D I (i _ _ _ q)⟩
theorem _root_.L2.PSs.imp {X : Cx} {st : List Stmt} {t t' : TS} (h : PSs X st t) (i : ∀ D σ H, t' D σ H → t D σ H) : PSs X st t' := ⟨fun pins s σ H D I q => h.run pins s σ H D I (i _ _ _ q)⟩
theorem _root_.L2.PI.imp {X : Cx} {tg it : Expr} {t t' : TI} (h : PI X tg it t) (i : ∀ σ H R, t' σ H R → t σ H R) : PI X tg it t' := ⟨fun pins s σ H R I q => h.run pins s σ H R I (i _ _ _ q)⟩
theorem _root_.L2.PG.imp {X : Cx} {tg : Expr} {t t' : TG} (h : PG X tg t) (i : ∀ v σ H Q, t' v σ H Q → t v σ H Q) : PG X tg t' := ⟨fun pins s σ H v u Q I r q => h.run pins s σ H v u Q I r (i _ _ _ _ q)⟩
theorem _root_.L2.PTs.imp {X : Cx} {cs : List Expr} {t t' : TT} (h : PTs X cs t) (i : ∀ σ H Q, t' σ H Q → t σ H Q) : PTs X cs t' := ⟨fun pins s σ H Q I q => h.run pins s σ H Q I (i _ _ _ q)⟩
/-- what is wanted of a value of that tree -/
def Kont (hot : Hot) (H : Hp) (d : PyData) (Q : VK) : Prop := ∀ v H', Same H H' → Rp (cold hot H') d v → Q v H'
theorem Kont.mono {hot : Hot} {H H' : Hp} {d : PyData} {Q : VK} (k : Kont hot H d Q) (s : Same H H') : Kont hot H' d Q := fun v H2 s2 r => k v H2 (s.trans s2) r
theorem Kont.now {hot : Hot} {H : Hp} {d : PyData} {Q : VK} (k : Kont hot H d Q) {v : V} (r : Rp (cold hot H) d v) : Q v H := k v H (Same.refl H) r
abbrev RD := DEnv → PyData → Prop
def tD (r : RD) : TE := fun σ H Q => ∃ hot ρ d, Alc hot H ∧ Rs (cold hot H) σ ρ ∧ r ρ d ∧ Kont hot H d Q
def DE (X : Cx) (e : Expr) (r : RD) : Prop := PE X e (tD r)
abbrev RB := DEnv → Bool → Prop
def tDT (r : RB) : TT := fun σ H Q => ∃ hot ρ b, Alc hot H ∧ Rs (cold hot H) σ ρ ∧ r ρ b ∧ ∀ H', Same H H' → Q b H'
def DT (X : Cx) (e : Expr) (r : RB) : Prop := PT X e (tDT r)
def DW (X : Cx) (e : Expr) (r : RB) : Prop := PW X e (tDT r)
abbrev RA := DEnv → List PyData → Prop
def tDA (r : RA) : TA := fun σ H Q => ∃ hot ρ ds, Alc hot H ∧ Rs (cold hot H) σ ρ ∧ r ρ ds ∧ ∀ vs H', Same H H' → RpAll (cold hot H') ds vs → Q vs H'
def DA (X : Cx) (es : List Expr) (r : RA) : Prop := PA X es (tDA r)
section
variable {X : Cx} {e a b c : Expr} {es : List Expr} {pos : Pos} {r ra rb rc : RD} {rs : RA} {t u : RB}
theorem de_var (i : Nat) {x : Str} (hN : X.N[i]? = some x := by rfl) (hv : Vis X.env.scope x := by first | exact Or.inl rfl | exact Or.inr (Or.inl rfl) | exact Or.inr (Or.inr rfl)) (hd : (x == ("__debug__" : Str)) = false := by decide)
    (hcd : (x == ("__classdict__" : Str)) = false := by decide) : DE X (.Name x pos) (fun ρ d => ρ[i]? = some (some d)) :=
  (pe_var hN hv hd hcd).imp fun σ H Q ⟨hot, ρ, d, al, rs, e, k⟩ => by
    obtain ⟨v, h1, h2⟩ := rs.2 i d e
    exact ⟨v, h1, k.now h2⟩
theorem de_int {i : Int} {j} : DE X (.Constant (.int i) j pos) (fun _ d => d = .int i) := (pe_int).imp fun σ H Q ⟨hot, ρ, d, al, rs, e, k⟩ => by
  subst e
  exact k.now rfl
theorem de_bl {i : Bool} {j} : DE X (.Constant (.bool i) j pos) (fun _ d => d = .bool i) := (pe_bl).imp fun σ H Q ⟨hot, ρ, d, al, rs, e, k⟩ => by
  subst e
  exact k.now rfl
theorem de_str {i : Str} {j} : DE X (.Constant (.str i) j pos) (fun _ d => d = .str i) := (pe_str).imp fun σ H Q ⟨hot, ρ, d, al, rs, e, k⟩ => by
  subst e
  exact k.now rfl
theorem de_gint {x : Str} {i : Int} (hg : Gl X x) (hm : ∃ tk, X.mg x = some (.int i tk)) (hd : (x == ("__debug__" : Str)) = false := by decide) : DE X (.Name x pos) (fun _ d => d = .int i) := by
  obtain ⟨tk, hm⟩ := hm
  exact (pe_glob (v := .int i) hg hm ⟨_, rfl⟩ hd).imp fun σ H Q ⟨hot, ρ, d, al, rs, e, k⟩ => by
    subst e
    exact k.now rfl
theorem de_gstr {x : Str} {i : Str} (hg : Gl X x) (hm : ∃ tk, X.mg x = some (.str i tk)) (hd : (x == ("__debug__" : Str)) = false := by decide) : DE X (.Name x pos) (fun _ d => d = .str i) := by
  obtain ⟨tk, hm⟩ := hm
  exact (pe_glob (v := .str i) hg hm ⟨_, rfl⟩ hd).imp fun σ H Q ⟨hot, ρ, d, al, rs, e, k⟩ => by
    subst e
    exact k.now rfl
/-- two expressions in a row, over trees -/
theorem tD_bin {σ : Sg} {H : Hp} {hot : Hot} {ρ : DEnv} {d1 d2 : PyData} {R : V → V → Hp → Prop} (al : Alc hot H) (rs : Rs (cold hot H) σ ρ) (h1 : ra ρ d1) (h2 : rb ρ d2)
    (k : ∀ x y H', Same H H' → Rp (cold hot H') d1 x → Rp (cold hot H') d2 y → R x y H') : tD ra σ H fun x H1 => tD rb σ H1 fun y H2 => R x y H2 :=
  ⟨hot, ρ, d1, al, rs, h1, fun x H1 s1 r1 => ⟨hot, ρ, d2, al.mono s1, rs.mono (cold_mono s1), h2, fun y H2 s2 r2 => k x y H2 (s1.trans s2) (Rp.mono (cold_mono s2) _ _ r1) r2⟩⟩
/-- what an operation by values does to trees -/
def VOp (rr : R2) (R : PyData → PyData → PyData → Prop) : Prop := ∀ (hot : Hot) (H : Hp) (x y : V) (Q : VK) (d1 d2 d : PyData), Alc hot H → Rp (cold hot H) d1 x → Rp (cold hot H) d2 y → R d1 d2 d → Kont hot H d Q → rr x y H Q
theorem tD_op {rr : R2} {R : PyData → PyData → PyData → Prop} (v : VOp rr R) {σ : Sg} {H : Hp} {Q : VK} (h : tD (fun ρ d => ∃ d1 d2, ra ρ d1 ∧ rb ρ d2 ∧ R d1 d2 d) σ H Q) : tOp rr (tD ra) (tD rb) σ H Q := by
  obtain ⟨hot, ρ, d, al, rs, ⟨d1, d2, h1, h2, hR⟩, k⟩ := h
  exact tD_bin al rs h1 h2 fun x y H' s r1 r2 => v hot H' x y Q d1 d2 d (al.mono s) r1 r2 hR (k.mono s)
abbrev rOp (R : PyData → PyData → PyData → Prop) (ra rb : RD) : RD := fun ρ d => ∃ d1 d2, ra ρ d1 ∧ rb ρ d2 ∧ R d1 d2 d
theorem de_op {op : Operator} {rr : R2} {R : PyData → PyData → PyData → Prop} (ho : OpR X (binaryOp op) rr) (v : VOp rr R) (ha : DE X a ra) (hb : DE X b rb) : DE X (.BinOp a op b pos) (rOp R ra rb) := (pe_op ho ha hb).imp fun σ H Q h => tD_op v h
theorem de_cmp {op : CmpOp} {rr : R2} {R : PyData → PyData → PyData → Prop} (ho : OpR X (compareOp op) rr) (v : VOp rr R) (ha : DE X a ra) (hb : DE X b rb) (hm : behindInMarks op b = false) : DE X (.Compare a [op] [b] pos) (rOp R ra rb) := (pe_cmpR ho ha hb hm).imp fun σ H Q h => tD_op v h
theorem tD_test {te : TE} {σ : Sg} {H : Hp} {Q : Bool → Hp → Prop} (hte : ∀ σ H Q, tD r σ H Q → te σ H Q) (h : tDT (fun ρ b => r ρ (.bool b)) σ H Q) : tTest te σ H Q := by
  obtain ⟨hot, ρ, b, al, rs, hr, k⟩ := h
  refine hte _ _ _ ⟨hot, ρ, .bool b, al, rs, hr, fun v H' s rp => ?_⟩
  have e : v = V.bl b := rp
  exact ⟨b, e, k H' s⟩
theorem dt_cmp {op : CmpOp} {rr : R2} {R : PyData → PyData → PyData → Prop} (ho : OpR X (compareOp op) rr) (v : VOp rr R) (ha : DE X a ra) (hb : DE X b rb) (hm : behindInMarks op b = false) : DT X (.Compare a [op] [b] pos) (fun ρ k => rOp R ra rb ρ (.bool k)) :=
  (pt_cmpR ho ha hb hm).imp fun σ H Q h => tD_test (fun _ _ _ h => tD_op v h) h
theorem dt_val (h : DE X e r) (he : ∀ whole, isTrue e X.env whole = (do let v ← whole; standAt e.pos; holding [v] (truthy v)) := by intro _; rfl) : DT X e (fun ρ b => r ρ (.bool b)) :=
  (pt_val h he).imp fun σ H Q q => tD_test (fun _ _ _ h => h) q
/-- chains -/
abbrev rChain (R R' : PyData → PyData → PyData → Prop) (ra rb rc : RD) : RD := fun ρ d => ∃ d1 d2 k, ra ρ d1 ∧ rb ρ d2 ∧ R d1 d2 (.bool k) ∧ (if k = true then ∃ d3, rc ρ d3 ∧ R' d2 d3 d else d = .bool false)
theorem tD_chain {rr rr' : R2} {R R' : PyData → PyData → PyData → Prop} (v : VOp rr R) (v' : VOp rr' R') {σ : Sg} {H : Hp} {Q : VK} (h : tD (rChain R R' ra rb rc) σ H Q) : tChain rr rr' (tD ra) (tD rb) (tD rc) σ H Q := by
  obtain ⟨hot, ρ, d, al, rs, ⟨d1, d2, k, h1, h2, hR, h3⟩, kk⟩ := h
  refine tD_bin al rs h1 h2 fun x y H' s r1 r2 => v hot H' x y _ d1 d2 (.bool k) (al.mono s) r1 r2 hR fun z H2 s2 rz => ?_
  refine ⟨k, rz, ?_⟩
  cases k with
  | false =>
    rw [if_neg (by decide)] at h3 ⊢
    subst h3
    exact kk _ _ (s.trans s2) rfl
  | true =>
    rw [if_pos rfl] at h3 ⊢
    obtain ⟨d3, h3, hR'⟩ := h3
    refine ⟨hot, ρ, d3, al.mono (s.trans s2), rs.mono (cold_mono (s.trans s2)), h3, fun w H3 s3 r3 => ?_⟩
    exact v' hot H3 y w Q d2 d3 d (al.mono ((s.trans s2).trans s3)) (Rp.mono (cold_mono (s2.trans s3)) _ _ r2) r3 hR' (kk.mono ((s.trans s2).trans s3))
theorem de_chain {op op' : CmpOp} {rr rr' : R2} {R R' : PyData → PyData → PyData → Prop} (ho : OpR X (compareOp op) rr) (v : VOp rr R) (ho' : OpR X (compareOp op') rr') (v' : VOp rr' R') (ha : DE X a ra) (hb : DE X b rb) (hc : DE X c rc)
    (hm : lastMarks [op, op'] [b, c] = false := by with_unfolding_all rfl) : DE X (.Compare a [op, op'] [b, c] pos) (rChain R R' ra rb rc) := (pe_chain ho ho' ha hb hc hm).imp fun σ H Q h => tD_chain v v' h
theorem dt_chain {op op' : CmpOp} {rr rr' : R2} {R R' : PyData → PyData → PyData → Prop} (ho : OpR X (compareOp op) rr) (v : VOp rr R) (ho' : OpR X (compareOp op') rr') (v' : VOp rr' R') (ha : DE X a ra) (hb : DE X b rb) (hc : DE X c rc)
    (hm : lastMarks [op, op'] [b, c] = false := by with_unfolding_all rfl) : DT X (.Compare a [op, op'] [b, c] pos) (fun ρ k => rChain R R' ra rb rc ρ (.bool k)) := (pt_chain ho ho' ha hb hc hm).imp fun σ H Q h => tD_test (fun _ _ _ h => tD_chain v v' h) h
/-- and, or, not of truths, as values -/
theorem de_one {op} (h : DE X a ra) : DE X (.BoolOp op [a] pos) ra := pe_one h
theorem de_and {rest : List Expr} (ha : DE X a ra) (hb : DE X (.BoolOp .And (b :: rest) pos) rb) : DE X (.BoolOp .And (a :: b :: rest) pos) (fun ρ d => ∃ k, ra ρ (.bool k) ∧ if k = true then rb ρ d else d = .bool false) :=
  (pe_and ha hb).imp fun σ H Q ⟨hot, ρ, d, al, rs, ⟨k, h1, h2⟩, kk⟩ => by
    refine ⟨hot, ρ, .bool k, al, rs, h1, fun x H1 s1 r1 => ⟨k, r1, ?_⟩⟩
    cases k with
    | false =>
      rw [if_neg (by decide)] at h2 ⊢
      subst h2
      exact kk _ _ s1 rfl
    | true =>
      rw [if_pos rfl] at h2 ⊢
      exact ⟨hot, ρ, d, al.mono s1, rs.mono (cold_mono s1), h2, kk.mono s1⟩
theorem de_or {rest : List Expr} (ha : DE X a ra) (hb : DE X (.BoolOp .Or (b :: rest) pos) rb) : DE X (.BoolOp .Or (a :: b :: rest) pos) (fun ρ d => ∃ k, ra ρ (.bool k) ∧ if k = true then d = .bool true else rb ρ d) :=
  (pe_or ha hb).imp fun σ H Q ⟨hot, ρ, d, al, rs, ⟨k, h1, h2⟩, kk⟩ => by
    refine ⟨hot, ρ, .bool k, al, rs, h1, fun x H1 s1 r1 => ⟨k, r1, ?_⟩⟩
    cases k with
    | true =>
      rw [if_pos rfl] at h2 ⊢
      subst h2
      exact kk _ _ s1 rfl
    | false =>
      rw [if_neg (by decide)] at h2 ⊢
      exact ⟨hot, ρ, d, al.mono s1, rs.mono (cold_mono s1), h2, kk.mono s1⟩
theorem de_not (ha : DE X a ra) : DE X (.UnaryOp .Not a pos) (fun ρ d => ∃ k, ra ρ (.bool k) ∧ d = .bool (!k)) :=
  (pe_not ha).imp fun σ H Q ⟨hot, ρ, d, al, rs, ⟨k, h1, h2⟩, kk⟩ => by
    subst h2
    exact ⟨hot, ρ, .bool k, al, rs, h1, fun x H1 s1 r1 => ⟨k, r1, kk _ _ s1 rfl⟩⟩
theorem de_ifExp (hc : DT X c t) (ha : DE X a ra) (hb : DE X b rb) : DE X (.IfExp c a b pos) (fun ρ d => ∃ k, t ρ k ∧ if k = true then ra ρ d else rb ρ d) :=
  (pe_ifExp hc ha hb).imp fun σ H Q ⟨hot, ρ, d, al, rs, ⟨k, h1, h2⟩, kk⟩ => by
    refine ⟨hot, ρ, k, al, rs, h1, fun H1 s1 => ?_⟩
    cases k with
    | true => exact ⟨hot, ρ, d, al.mono s1, rs.mono (cold_mono s1), h2, kk.mono s1⟩
    | false => exact ⟨hot, ρ, d, al.mono s1, rs.mono (cold_mono s1), h2, kk.mono s1⟩
/-- tests -/
theorem dt_not (h : DT X a t) : DT X (.UnaryOp .Not a pos) (fun ρ b => t ρ (!b)) := (pt_not h).imp fun σ H Q ⟨hot, ρ, b, al, rs, h1, kk⟩ =>
  ⟨hot, ρ, !b, al, rs, h1, fun H' s => by
    show Q (!!b) H'
    rw [Bool.not_not]
    exact kk H' s⟩
theorem dw_and1 (h : DT X a t) : DW X (.BoolOp .And [a] pos) t := pw_and1 h
theorem dw_or1 (h : DT X a t) : DW X (.BoolOp .Or [a] pos) t := pw_or1 h
theorem dw_and {rest : List Expr} (ha : DT X a t) (hb : DW X (.BoolOp .And (b :: rest) pos) u) : DW X (.BoolOp .And (a :: b :: rest) pos) (fun ρ d => ∃ k, t ρ k ∧ if k = true then u ρ d else d = false) :=
  (pw_and ha hb).imp fun σ H Q ⟨hot, ρ, d, al, rs, ⟨k, h1, h2⟩, kk⟩ => by
    refine ⟨hot, ρ, k, al, rs, h1, fun H1 s1 => ?_⟩
    cases k with
    | false =>
      rw [if_neg (by decide)] at h2 ⊢
      subst h2
      exact kk _ s1
    | true =>
      rw [if_pos rfl] at h2 ⊢
      exact ⟨hot, ρ, d, al.mono s1, rs.mono (cold_mono s1), h2, fun H2 s2 => kk H2 (s1.trans s2)⟩
theorem dw_or {rest : List Expr} (ha : DT X a t) (hb : DW X (.BoolOp .Or (b :: rest) pos) u) : DW X (.BoolOp .Or (a :: b :: rest) pos) (fun ρ d => ∃ k, t ρ k ∧ if k = true then d = true else u ρ d) :=
  (pw_or ha hb).imp fun σ H Q ⟨hot, ρ, d, al, rs, ⟨k, h1, h2⟩, kk⟩ => by
    refine ⟨hot, ρ, k, al, rs, h1, fun H1 s1 => ?_⟩
    cases k with
    | true =>
      rw [if_pos rfl] at h2 ⊢
      subst h2
      exact kk _ s1
    | false =>
      rw [if_neg (by decide)] at h2 ⊢
      exact ⟨hot, ρ, d, al.mono s1, rs.mono (cold_mono s1), h2, fun H2 s2 => kk H2 (s1.trans s2)⟩
theorem DW.dt (h : DW X e t) : DT X e t := PW.pt h
/-- arguments, displays -/
theorem da_nil : DA X [] (fun _ ds => ds = []) := (pa_nil).imp fun σ H Q ⟨hot, ρ, ds, al, rs, e, k⟩ => by
  subst e
  exact k [] H (Same.refl H) rfl
theorem da_cons (ha : DE X e r) (hb : DA X es rs) (hs : starEach (e :: es) X.env = (false, eval e X.env) :: starEach es X.env := by rfl) : DA X (e :: es) (fun ρ ds => ∃ d es', r ρ d ∧ rs ρ es' ∧ ds = d :: es') :=
  (pa_cons ha hb hs).imp fun σ H Q ⟨hot, ρ, ds, al, rs, ⟨d, es', h1, h2, e⟩, k⟩ => by
    subst e
    refine ⟨hot, ρ, d, al, rs, h1, fun v H1 s1 r1 => ⟨hot, ρ, es', al.mono s1, rs.mono (cold_mono s1), h2, fun vs H2 s2 r2 => ?_⟩⟩
    exact k _ _ (s1.trans s2) ⟨v, vs, rfl, Rp.mono (cold_mono s2) _ _ r1, r2⟩
theorem de_tup {x1} (h : DA X es rs) : DE X (.Tuple es x1 pos) (fun ρ d => ∃ ds, rs ρ ds ∧ ds.length ≤ sizeLine ∧ d = .tuple ds) := (pe_tup h).imp fun σ H Q ⟨hot, ρ, d, al, rs, ⟨ds, h1, hz, e⟩, k⟩ => by
  subst e
  refine ⟨hot, ρ, ds, al, rs, h1, fun vs H1 s1 r1 => ⟨by rw [r1.length]; exact hz, fun p hp => ?_⟩⟩
  exact k _ _ (s1.trans (same_new hp _)) ⟨p, vs, rfl, cold_new (al.mono s1) hp, RpAll.mono (cold_mono (same_new hp _)) _ _ r1⟩
theorem de_lst (h : DA X es rs) : DE X (.List es pos) (fun ρ d => ∃ ds, rs ρ ds ∧ ds.length ≤ sizeLine ∧ d = .list ds) := (pe_lst h).imp fun σ H Q ⟨hot, ρ, d, al, rs, ⟨ds, h1, hz, e⟩, k⟩ => by
  subst e
  refine ⟨hot, ρ, ds, al, rs, h1, fun vs H1 s1 r1 => ⟨by rw [r1.length]; exact hz, fun p hp => ?_⟩⟩
  exact k _ _ (s1.trans (same_new hp _)) ⟨p, vs, rfl, cold_new (al.mono s1) hp, RpAll.mono (cold_mono (same_new hp _)) _ _ r1⟩
/-- calls of built-ins -/
def VCall (rr : List V → Hp → VK → Prop) (R : List PyData → PyData → Prop) : Prop := ∀ (hot : Hot) (H : Hp) (xs : List V) (Q : VK) (ds : List PyData) (d : PyData), Alc hot H → RpAll (cold hot H) ds xs → R ds d → Kont hot H d Q → rr xs H Q
theorem tD_call {rr : List V → Hp → VK → Prop} {R : List PyData → PyData → Prop} (v : VCall rr R) {σ : Sg} {H : Hp} {Q : VK} (h : tD (fun ρ d => ∃ ds, rs ρ ds ∧ R ds d) σ H Q) : tCB rr (tDA rs) σ H Q := by
  obtain ⟨hot, ρ, d, al, rs, ⟨ds, h1, hR⟩, k⟩ := h
  exact ⟨hot, ρ, ds, al, rs, h1, fun vs H1 s1 r1 => v hot H1 vs Q ds d (al.mono s1) r1 hR (k.mono s1)⟩
abbrev rCall (R : List PyData → PyData → Prop) (rs : RA) : RD := fun ρ d => ∃ ds, rs ρ ds ∧ R ds d
theorem de_callB {id : String} {x : Str} {p : Pos} {rr : List V → Hp → VK → Prop} {R : List PyData → PyData → Prop} (hc : CallR X (.builtin id) rr) (v : VCall rr R) (hg : Gl X x) (hm : X.mg x = none) (hv : bootBuiltins x = some (.builtin id)) (ha : DA X (e :: es) rs) (hn : x ≠ "__name__" := by decide) (hdb : (x == ("__debug__" : Str)) = false := by decide)
    (he : starEach (e :: es) X.env = (false, eval e X.env) :: starEach es X.env := by rfl) (hpl : (backTo pos (starEach es X.env)).any (·.1) = false := by rfl) : DE X (.Call (.Name x p) (e :: es) [] pos) (rCall R rs) :=
  (pe_callB hc hg hm hv ha hn hdb he hpl).imp fun σ H Q h => tD_call v h
theorem de_callTy {T : String} {x : Str} {p : Pos} {rr : List V → Hp → VK → Prop} {R : List PyData → PyData → Prop} (hc : CallR X (.type T) rr) (v : VCall rr R) (hg : Gl X x) (hm : X.mg x = none) (hv : bootBuiltins x = some (.type T)) (ha : DA X (e :: es) rs) (hn : x ≠ "__name__" := by decide) (hdb : (x == ("__debug__" : Str)) = false := by decide)
    (he : starEach (e :: es) X.env = (false, eval e X.env) :: starEach es X.env := by rfl) (hpl : (backTo pos (starEach es X.env)).any (·.1) = false := by rfl) : DE X (.Call (.Name x p) (e :: es) [] pos) (rCall R rs) :=
  (pe_callTy hc hg hm hv ha hn hdb he hpl).imp fun σ H Q h => tD_call v h
/-- calls of the text's own defs, by trees -/
def spR (R : List PyData → PyData → Prop) : Sp := fun vs H Q _ => ∃ hot ds d, Alc hot H ∧ RpAll (cold hot H) ds vs ∧ R ds d ∧ Kont hot H d Q
theorem de_call {CX : CXT} {k : Nat} {f : Addr} {fd : FuncData} {ps : List Str} {x : Str} {p : Pos} {R : List PyData → PyData → Prop} (F : FnOk X.prog X.w X.K X.mg X.base CX k f fd ps (spR R)) (hr : Room k X.A) (hg : Gl X x) (hm : X.mg x = some (.ref f)) (hk : PySem.W.keepIn X.K (.ref f) = true) (hb : Binds X.K fd ps []) (hx : Passes CX X E0)
    (ha : DA X (e :: es) rs) (hdb : (x == ("__debug__" : Str)) = false := by decide) (he : starEach (e :: es) X.env = (false, eval e X.env) :: starEach es X.env := by rfl) (hpl : (backTo pos (starEach es X.env)).any (·.1) = false := by rfl) :
    DE X (.Call (.Name x p) (e :: es) [] pos) (rCall R rs) := (pe_call F hr hg hm hk hb .nil hx ha hdb he hpl).imp fun σ H Q ⟨hot, ρ, d, al, rs, ⟨ds, h1, hR⟩, k⟩ =>
  ⟨hot, ρ, ds, al, rs, h1, fun vs H1 s1 r1 => by
    show spR R (vs ++ []) H1 Q E0
    rw [List.append_nil]
    exact ⟨hot, ds, d, al.mono s1, r1, hR, k.mono s1⟩⟩
/-- items -/
def at0 {α : Type} (xs : List α) (i : Int) : Option α := atI xs i
theorem rpAll_atI {H : Hp} {ds : List PyData} {vs : List V} {i : Int} {d : PyData} (h : RpAll H ds vs) (e : atI ds i = some d) : ∃ v, atI vs i = some v ∧ Rp H d v := by
  unfold atI at e ⊢
  rw [h.length]
  cases q : ixN ds.length i with
  | none => rw [q] at e; cases e
  | some j =>
    rw [q] at e
    obtain ⟨v, h1, h2⟩ := h.at (show ds[j]? = some d from e)
    exact ⟨v, h1, h2⟩
abbrev RIxL : PyData → PyData → PyData → Prop := fun d1 d2 d => ∃ ds i, d1 = .list ds ∧ d2 = .int i ∧ atI ds i = some d
abbrev RIxT : PyData → PyData → PyData → Prop := fun d1 d2 d => ∃ ds i, d1 = .tuple ds ∧ d2 = .int i ∧ atI ds i = some d
theorem vop_ixL {K : PySem.W.Frag} : VOp (rIxL K) RIxL := fun hot H x y Q d1 d2 d al r1 r2 ⟨ds, i, e1, e2, e3⟩ k => by
  subst e1 e2
  obtain ⟨a, vs, rfl, ha, hs⟩ := r1
  have e : y = V.int i := r2
  subst e
  obtain ⟨v, h1, h2⟩ := rpAll_atI hs e3
  exact ⟨a, vs, i, v, rfl, rfl, SqL.of (cold_same _ _ ha), h1, k.now h2⟩
theorem vop_ixT {K : PySem.W.Frag} : VOp (rIxT K) RIxT := fun hot H x y Q d1 d2 d al r1 r2 ⟨ds, i, e1, e2, e3⟩ k => by
  subst e1 e2
  obtain ⟨a, vs, rfl, ha, hs⟩ := r1
  have e : y = V.int i := r2
  subst e
  obtain ⟨v, h1, h2⟩ := rpAll_atI hs e3
  exact ⟨a, vs, i, v, rfl, rfl, SqT.of (cold_same _ _ ha), h1, k.now h2⟩
theorem de_ixL (ha : DE X a ra) (hb : DE X b rb) (hs : PlainIx b) : DE X (.Subscript a b pos) (rOp RIxL ra rb) := (pe_ix ix_list ha hb hs).imp fun σ H Q h => tD_op vop_ixL h
theorem de_ixT (ha : DE X a ra) (hb : DE X b rb) (hs : PlainIx b) : DE X (.Subscript a b pos) (rOp RIxT ra rb) := (pe_ix ix_tup ha hb hs).imp fun σ H Q h => tD_op vop_ixT h
end
end Rng
namespace Rng
open PySem PySem.Spec PyProof.Rows L2
/-! ### slices -/
abbrev ROp := DEnv → Option Int → Prop
def tDO (r : ROp) : TO := fun σ H Q => ∃ hot ρ o, Alc hot H ∧ Rs (cold hot H) σ ρ ∧ r ρ o ∧ ∀ H', Same H H' → Q o H'
def DO (X : Cx) (e : Option Expr) (r : ROp) : Prop := ∃ t, PO X e t ∧ ∀ σ H Q, tDO r σ H Q → t σ H Q
section
variable {X : Cx} {e a b c : Expr} {es : List Expr} {pos p2 : Pos} {r ra rb rc : RD} {rs : RA} {t u : RB} {lo hi : Option Expr} {rl rh : ROp}
theorem do_none : DO X none (fun _ o => o = none) := ⟨_, po_none, fun σ H Q ⟨hot, ρ, o, al, rs, e, k⟩ => by
  subst e
  exact k H (Same.refl H)⟩
theorem do_some (h : DE X e r) : DO X (some e) (fun ρ o => ∃ i, r ρ (.int i) ∧ o = some i) := ⟨_, po_some h, fun σ H Q ⟨hot, ρ, o, al, rs, ⟨i, h1, e⟩, k⟩ => by
  subst e
  exact ⟨hot, ρ, .int i, al, rs, h1, fun v H' s r => ⟨i, r, k H' s⟩⟩⟩
/-- the items of a part -/
def cutD (ds : List PyData) (lo hi : Option Int) : List PyData := (ds.drop (HT.sIx ds.length 0 lo)).take (HT.sIx ds.length ds.length hi - HT.sIx ds.length 0 lo)
theorem rp_cut {H : Hp} {ds : List PyData} {vs : List V} (h : RpAll H ds vs) (lo hi : Option Int) : RpAll H (cutD ds lo hi) (cutV vs lo hi) := by
  unfold cutD cutV
  rw [h.length]
  exact (h.drop _).take _
theorem tD_sl {rr : V → Option Int → Option Int → Hp → VK → Prop} {tl th : TO} (hl : ∀ σ H Q, tDO rl σ H Q → tl σ H Q) (hh : ∀ σ H Q, tDO rh σ H Q → th σ H Q) {R : PyData → Option Int → Option Int → PyData → Prop}
    (v : ∀ (hot : Hot) (H : Hp) (x : V) (Q : VK) (d1 d : PyData) (l u : Option Int), Alc hot H → Rp (cold hot H) d1 x → R d1 l u d → Kont hot H d Q → rr x l u H Q) {σ : Sg} {H : Hp} {Q : VK}
    (h : tD (fun ρ d => ∃ d1 l u, r ρ d1 ∧ rl ρ l ∧ rh ρ u ∧ R d1 l u d) σ H Q) : tSl rr (tD r) tl th σ H Q := by
  obtain ⟨hot, ρ, d, al, rs, ⟨d1, l, u, h1, h2, h3, hR⟩, k⟩ := h
  refine ⟨hot, ρ, d1, al, rs, h1, fun x H1 s1 r1 => hl _ _ _ ⟨hot, ρ, l, al.mono s1, rs.mono (cold_mono s1), h2, fun H2 s2 => hh _ _ _ ⟨hot, ρ, u, al.mono (s1.trans s2), rs.mono (cold_mono (s1.trans s2)), h3, fun H3 s3 => ?_⟩⟩⟩
  exact v hot H3 x Q d1 d l u (al.mono ((s1.trans s2).trans s3)) (Rp.mono (cold_mono (s2.trans s3)) _ _ r1) hR (k.mono ((s1.trans s2).trans s3))
theorem de_slL (he : DE X e r) (hl : DO X lo rl) (hu : DO X hi rh) : DE X (.Subscript e (.Slice lo hi none p2) pos) (fun ρ d => ∃ d1 l u, r ρ d1 ∧ rl ρ l ∧ rh ρ u ∧ ∃ ds, d1 = .list ds ∧ d = .list (cutD ds l u)) := by
  obtain ⟨tl, hl1, hl2⟩ := hl
  obtain ⟨th, hh1, hh2⟩ := hu
  refine (pe_slice sl_list he hl1 hh1).imp fun σ H Q h => tD_sl hl2 hh2 (fun hot H x Q d1 d l u al r1 ⟨ds, e1, e2⟩ k => ?_) h
  subst e1 e2
  obtain ⟨a, vs, rfl, ha, hs⟩ := r1
  exact ⟨a, vs, rfl, SqL.of (cold_same _ _ ha), fun p hp => k _ _ (same_new hp _) ⟨p, _, rfl, cold_new al hp, rp_cut (RpAll.mono (cold_mono (same_new hp _)) _ _ hs) l u⟩⟩
theorem de_slT (he : DE X e r) (hl : DO X lo rl) (hu : DO X hi rh) : DE X (.Subscript e (.Slice lo hi none p2) pos) (fun ρ d => ∃ d1 l u, r ρ d1 ∧ rl ρ l ∧ rh ρ u ∧ ∃ ds, d1 = .tuple ds ∧ d = .tuple (cutD ds l u)) := by
  obtain ⟨tl, hl1, hl2⟩ := hl
  obtain ⟨th, hh1, hh2⟩ := hu
  refine (pe_slice sl_tupA he hl1 hh1).imp fun σ H Q h => tD_sl hl2 hh2 (fun hot H x Q d1 d l u al r1 ⟨ds, e1, e2⟩ k => ?_) h
  subst e1 e2
  obtain ⟨a, vs, rfl, ha, hs⟩ := r1
  refine ⟨a, vs, rfl, SqT.of (cold_same _ _ ha), fun ⟨w1, w2⟩ => k.now ⟨a, vs, rfl, ha, ?_⟩, fun _ p hp => k _ _ (same_new hp _) ⟨p, _, rfl, cold_new al hp, rp_cut (RpAll.mono (cold_mono (same_new hp _)) _ _ hs) l u⟩⟩
  have q := rp_cut hs l u
  have e : cutV vs l u = vs := by
    unfold cutV
    rw [w1, w2]
    simp
  rw [e] at q
  exact q
end
/-! ### statements -/
structure DEnds where
  nx : DEnv → Prop
  rt : PyData → Prop
  bk : DEnv → Prop := fun _ => False
  ct : DEnv → Prop := fun _ => False
abbrev DTS := DEnds → DEnv → Prop
structure Link (hot : Hot) (H : Hp) (De : DEnds) (D : Ends) : Prop where
  nx : ∀ ρ σ H', De.nx ρ → Same H H' → Rs (cold hot H') σ ρ → D.nx σ H'
  rt : ∀ d v H', De.rt d → Same H H' → Rp (cold hot H') d v → D.rt v H'
  bk : ∀ ρ σ H', De.bk ρ → Same H H' → Rs (cold hot H') σ ρ → D.bk σ H'
  ct : ∀ ρ σ H', De.ct ρ → Same H H' → Rs (cold hot H') σ ρ → D.ct σ H'
theorem Link.mono {hot : Hot} {H H' : Hp} {De : DEnds} {D : Ends} (l : Link hot H De D) (s : Same H H') : Link hot H' De D :=
  ⟨fun ρ σ H2 a b c => l.nx ρ σ H2 a (s.trans b) c, fun d v H2 a b c => l.rt d v H2 a (s.trans b) c, fun ρ σ H2 a b c => l.bk ρ σ H2 a (s.trans b) c, fun ρ σ H2 a b c => l.ct ρ σ H2 a (s.trans b) c⟩
def tDS (t : DTS) : TS := fun D σ H => ∃ hot ρ De, Alc hot H ∧ Rs (cold hot H) σ ρ ∧ t De ρ ∧ Link hot H De D
def DS (X : Cx) (st : Stmt) (t : DTS) : Prop := PS X st (tDS t)
def DSs (X : Cx) (sts : List Stmt) (t : DTS) : Prop := PSs X sts (tDS t)
section
variable {X : Cx} {st : Stmt} {rest : List Stmt} {e c : Expr} {pos : Pos} {r : RD} {rt : RB} {t u : DTS}
theorem dss_nil : DSs X [] (fun De ρ => De.nx ρ) := pss_nil.imp fun D σ H ⟨hot, ρ, De, al, rs, h, l⟩ => l.nx ρ σ H h (Same.refl H) rs
theorem dss_cons (h1 : DS X st t) (h2 : DSs X rest u) : DSs X (st :: rest) (fun De ρ => t { De with nx := u De } ρ) :=
  (pss_cons h1 h2).imp fun D σ H ⟨hot, ρ, De, al, rs, h, l⟩ => ⟨hot, ρ, _, al, rs, h, ⟨fun ρ' σ' H' a s c => ⟨hot, ρ', De, al.mono s, c, a, l.mono s⟩, l.rt, l.bk, l.ct⟩⟩
theorem dss_one (h1 : DS X st t) : DSs X [st] t := pss_one h1
theorem ds_set {i : Nat} {x : Str} {pos' : Pos} (hN : X.N.Nodup) (hi : X.N[i]? = some x) (hx : Loc X.env.scope x) (he : DE X e r) (hs : swapsWith e (some (.Name x pos')) pos.line X.env = pure false := by rfl) (hf : X.fn x = true ∨ X.env.scope.names.lookup x = some .local := by first | exact .inl rfl | exact .inr rfl | assumption) :
    DS X (.Assign [.Name x pos'] e pos) (fun De ρ => ∃ d, r ρ d ∧ De.nx (ρ.set i (some d))) :=
  (ps_set hN hi hx he hs hf).imp fun D σ H ⟨hot, ρ, De, al, rs, ⟨d, h1, h2⟩, l⟩ => ⟨hot, ρ, d, al, rs, h1, fun v H' s r1 => l.nx _ _ H' h2 s ((rs.mono (cold_mono s)).set i r1)⟩
theorem ds_ret (he : DE X e r) : DS X (.Return (some e) pos) (fun De ρ => ∃ d, r ρ d ∧ De.rt d) :=
  (ps_ret he).imp fun D σ H ⟨hot, ρ, De, al, rs, ⟨d, h1, h2⟩, l⟩ => ⟨hot, ρ, d, al, rs, h1, fun v H' s r1 => l.rt d v H' h2 s r1⟩
theorem ds_expr (he : DE X e r) (hs : swapsWith e none pos.line X.env = pure false := by rfl) : DS X (.Expr e pos) (fun De ρ => ∃ d, r ρ d ∧ De.nx ρ) :=
  (ps_expr he hs).imp fun D σ H ⟨hot, ρ, De, al, rs, ⟨d, h1, h2⟩, l⟩ => ⟨hot, ρ, d, al, rs, h1, fun v H' s r1 => l.nx ρ σ H' h2 s (rs.mono (cold_mono s))⟩
theorem ds_if {a b : List Stmt} (hc : DT X c rt) (ha : DSs X a t) (hb : DSs X b u) : DS X (.If c a b pos) (fun De ρ => ∃ k, rt ρ k ∧ if k = true then t De ρ else u De ρ) :=
  (ps_if hc ha hb).imp fun D σ H ⟨hot, ρ, De, al, rs, ⟨k, h1, h2⟩, l⟩ => by
    refine ⟨hot, ρ, k, al, rs, h1, fun H' s => ?_⟩
    cases k with
    | true => exact ⟨hot, ρ, De, al.mono s, rs.mono (cold_mono s), h2, l.mono s⟩
    | false => exact ⟨hot, ρ, De, al.mono s, rs.mono (cold_mono s), h2, l.mono s⟩
theorem ds_never : DS X st (fun _ _ => False) := ps_never.imp fun D σ H ⟨_, _, _, _, _, h, _⟩ => h.elim
theorem dss_never {sts : List Stmt} : DSs X sts (fun _ _ => False) := pss_never.imp fun D σ H ⟨_, _, _, _, _, h, _⟩ => h.elim
theorem ds_par {i j : Nat} {x y : Str} {a b : Expr} {rs : RA} {px py pt : Pos} {kt k2 pt2} (hc : X.calm = true) (hN : X.N.Nodup) (hi : X.N[i]? = some x) (hj : X.N[j]? = some y) (hij : i ≠ j)
    (hx : X.env.scope.names.lookup x = some .local) (hy : X.env.scope.names.lookup y = some .local) (ha : DA X [a, b] rs)
    (hw : swappedStores [.Tuple [.Name x px, .Name y py] kt pt] (.Tuple [a, b] k2 pt2) X.env = pure (some [x, y]))
    (hs : swapsWithSole [.Tuple [.Name x px, .Name y py] kt pt] (.Tuple [a, b] k2 pt2) pos.line X.env = pure false := by rfl) :
    DS X (.Assign [.Tuple [.Name x px, .Name y py] kt pt] (.Tuple [a, b] k2 pt2) pos) (fun De ρ => ∃ d1 d2, rs ρ [d1, d2] ∧ De.nx ((ρ.set i (some d1)).set j (some d2))) :=
  (ps_par hc hN hi hj hij hx hy ha hw hs).imp fun D σ H ⟨hot, ρ, De, al, rs, ⟨d1, d2, h1, h2⟩, l⟩ => by
    refine ⟨hot, ρ, [d1, d2], al, rs, h1, fun vs H' s r1 => ?_⟩
    obtain ⟨v, vr, rfl, q1, v2, vr2, rfl, q2, e⟩ := r1
    have e : vr2 = [] := e
    subst e
    exact ⟨v, v2, rfl, l.nx _ _ H' h2 s (((rs.mono (cold_mono s)).set i q1).set j q2)⟩
end
/-! ### targets -/
abbrev DGt := PyData → DEnv → DEnv → Prop
/-- gs: the places stored -/
def gD (gs : List Nat) (g : DGt) : TG := fun v σ H Q => ∃ hot ρ d ρ', Alc hot H ∧ Rs (cold hot H) σ ρ ∧ Rp (cold hot H) d v ∧ g d ρ ρ' ∧ ∀ σ' H', Same H H' → (∀ vs : List Nat, (∀ k ∈ gs, k ∈ vs) → wipe σ' vs = wipe σ vs) → Rs (cold hot H') σ' ρ' → Q σ' H'
def DG (X : Cx) (tg : Expr) (gs : List Nat) (g : DGt) : Prop := PG X tg (gD gs g)
abbrev gN (i : Nat) : DGt := fun d ρ ρ' => ρ' = ρ.set i (some d)
section
variable {X : Cx} {pos : Pos}
theorem dg_name {i : Nat} {x : Str} (hN : X.N.Nodup) (hi : X.N[i]? = some x) (hx : Loc X.env.scope x) (hf : X.fn x = true ∨ X.env.scope.names.lookup x = some .local := by first | exact .inl rfl | exact .inr rfl | assumption) : DG X (.Name x pos) [i] (gN i) :=
  (pg_name hN hi hx hf).imp fun v σ H Q ⟨hot, ρ, d, ρ', al, rs, r, e, k⟩ => by
    subst e
    exact k _ H (Same.refl H) (fun vs hv => wipe_set (hv i (by simp))) (rs.set i r)
/-- two names from a pair -/
abbrev gN2 (i j : Nat) : DGt := fun d ρ ρ' => ∃ d1 d2, d = .tuple [d1, d2] ∧ ρ' = (ρ.set i (some d1)).set j (some d2)
theorem dg_two {i j : Nat} {x y : Str} {px py : Pos} {k : Nat} (hc : X.calm = true) (hN : X.N.Nodup) (hi : X.N[i]? = some x) (hj : X.N[j]? = some y) (hx : Loc X.env.scope x) (hy : Loc X.env.scope y)
    (hfx : X.fn x = true ∨ X.env.scope.names.lookup x = some .local := by first | exact .inl rfl | exact .inr rfl | assumption) (hfy : X.fn y = true ∨ X.env.scope.names.lookup y = some .local := by first | exact .inl rfl | exact .inr rfl | assumption) :
    DG X (.Tuple [.Name x px, .Name y py] k pos) [i, j] (gN2 i j) :=
  (pg_tup hc (pgs_cons (pg_name hN hi hx hfx) (pgs_cons (pg_name hN hj hy hfy) pgs_nil))).imp fun v σ H Q ⟨hot, ρ, d, ρ', al, rs, r, ⟨d1, d2, e1, e2⟩, kk⟩ => by
    subst e1 e2
    obtain ⟨a, vs, rfl, ha, hs⟩ := r
    obtain ⟨v1, r1, rfl, q1, v2, r2, rfl, q2, e⟩ := hs
    have e : r2 = [] := e
    subst e
    refine ⟨a, _, rfl, SqT.of (cold_same _ _ ha), rfl, v1, _, rfl, v2, _, rfl, rfl, ?_⟩
    refine kk _ H (Same.refl H) (fun vs hv => ?_) ((rs.set i q1).set j q2)
    rw [wipe_set (hv j (by simp)), wipe_set (hv i (by simp))]
/-- four names from a tuple of four -/
abbrev gN4 (i j k l : Nat) : DGt := fun d ρ ρ' => ∃ d1 d2 d3 d4, d = .tuple [d1, d2, d3, d4] ∧ ρ' = (((ρ.set i (some d1)).set j (some d2)).set k (some d3)).set l (some d4)
theorem dg_four {i j m l : Nat} {x y z w : Str} {px py pz pw : Pos} {k : Nat} (hc : X.calm = true) (hN : X.N.Nodup) (hi : X.N[i]? = some x) (hj : X.N[j]? = some y) (hm : X.N[m]? = some z) (hl : X.N[l]? = some w) (hx : Loc X.env.scope x) (hy : Loc X.env.scope y) (hz : Loc X.env.scope z) (hw : Loc X.env.scope w)
    (hfx : X.fn x = true ∨ X.env.scope.names.lookup x = some .local := by first | exact .inl rfl | exact .inr rfl | assumption) (hfy : X.fn y = true ∨ X.env.scope.names.lookup y = some .local := by first | exact .inl rfl | exact .inr rfl | assumption)
    (hfz : X.fn z = true ∨ X.env.scope.names.lookup z = some .local := by first | exact .inl rfl | exact .inr rfl | assumption) (hfw : X.fn w = true ∨ X.env.scope.names.lookup w = some .local := by first | exact .inl rfl | exact .inr rfl | assumption) :
    DG X (.Tuple [.Name x px, .Name y py, .Name z pz, .Name w pw] k pos) [i, j, m, l] (gN4 i j m l) :=
  (pg_tup hc (pgs_cons (pg_name hN hi hx hfx) (pgs_cons (pg_name hN hj hy hfy) (pgs_cons (pg_name hN hm hz hfz) (pgs_cons (pg_name hN hl hw hfw) pgs_nil))))).imp fun v σ H Q ⟨hot, ρ, d, ρ', al, rs, r, ⟨d1, d2, d3, d4, e1, e2⟩, kk⟩ => by
    subst e1 e2
    obtain ⟨a, vs, rfl, ha, hs⟩ := r
    obtain ⟨v1, r1, rfl, q1, v2, r2, rfl, q2, v3, r3, rfl, q3, v4, r4, rfl, q4, e⟩ := hs
    have e : r4 = [] := e
    subst e
    refine ⟨a, _, rfl, SqT.of (cold_same _ _ ha), rfl, v1, _, rfl, v2, _, rfl, v3, _, rfl, v4, _, rfl, rfl, ?_⟩
    refine kk _ H (Same.refl H) (fun vs hv => ?_) ((((rs.set i q1).set j q2).set m q3).set l q4)
    rw [wipe_set (hv l (by simp)), wipe_set (hv m (by simp)), wipe_set (hv j (by simp)), wipe_set (hv i (by simp))]
/-- target = value -/
theorem ds_asg {tg e : Expr} {r : RD} {gs : List Nat} {g : DGt} (he : DE X e r) (hg : DG X tg gs g) (hs : swapsWithSole [tg] e pos.line X.env = pure false := by rfl) (hw : swappedStores [tg] e X.env = pure none := by rfl)
    (h1 : (assignEach [tg] X.env).map (·.2) = [assign tg X.env] := by rfl) : DS X (.Assign [tg] e pos) (fun De ρ => ∃ d ρ', r ρ d ∧ g d ρ ρ' ∧ De.nx ρ') :=
  (ps_asg he hg hs hw h1).imp fun D σ H ⟨hot, ρ, De, al, rs, ⟨d, ρ', h1, h2, h3⟩, l⟩ =>
    ⟨hot, ρ, d, al, rs, h1, fun v H' s r1 => ⟨hot, ρ, d, ρ', al.mono s, rs.mono (cold_mono s), r1, h2, fun σ' H2 s2 _ rs' => l.nx ρ' σ' H2 h3 (s.trans s2) rs'⟩⟩
end
/-! ### what is walked -/
def Gv (hot : Hot) (J : It) (ds : List PyData) (H1 : Hp) : Prop := ∀ (hot' : Hot) (H2 : Hp), Same H1 H2 → Alc hot' H2 → (∀ a, hot a = true → hot' a = true) → (∀ a, hot' a = true → hot a = true ∨ H1 a = none) →
  (∀ (i : Nat) (d : PyData), ds[i]? = some d → J.go i H2 ∧ ∀ x H3, J.yld i H2 x H3 → Same H2 H3 ∧ Rp (cold hot' H3) d x) ∧ ∀ i : Nat, ds.length ≤ i → J.stop i H2
theorem Gv.mono {hot : Hot} {J : It} {ds : List PyData} {H1 H2 : Hp} (g : Gv hot J ds H1) (s : Same H1 H2) : Gv hot J ds H2 := fun hot' H3 s3 al a b =>
  g hot' H3 (s.trans s3) al a fun x hx => (b x hx).elim .inl fun n => .inr (s.free n)
abbrev RI := DEnv → List PyData → Prop
def iD (r : RI) : TI := fun σ H R => ∃ hot ρ ds, Alc hot H ∧ Rs (cold hot H) σ ρ ∧ r ρ ds ∧ ∀ J H', Same H H' → Gv hot J ds H' → R J H'
def DI (X : Cx) (tg it : Expr) (r : RI) : Prop := PI X tg it (iD r)
/-- what stands cold at H1 stands so later, under more hot objects that are new -/
theorem cold_more {hot hot' : Hot} {H1 H2 : Hp} (s : Same H1 H2) (b : ∀ a, hot' a = true → hot a = true ∨ H1 a = none) : Same (cold hot H1) (cold hot' H2) := fun a o e => by
  have e1 : H1 a = some o := cold_same _ _ e
  cases q : hot' a with
  | false =>
    rw [cold_at q]
    exact s _ _ e1
  | true =>
    rcases b a q with z | z
    · unfold cold at e
      rw [if_pos z] at e
      cases e
    · rw [z] at e1
      cases e1
section
variable {X : Cx} {tg e e2 : Expr} {r ra : RD} {rs : RA} {pos p tpos : Pos}
theorem gv_list {K : PySem.W.Frag} {hot : Hot} {H : Hp} {a : Addr} {vs : List V} {ds : List PyData} (ha : H a = some (.lst vs)) (hs : RpAll (cold hot H) ds vs) : Gv hot (Itl K a) ds H := fun hot' H2 s al c b => by
  refine ⟨fun i d hd => ?_, fun i hi => ⟨vs, SqL.of (s _ _ ha), by rw [hs.length]; exact hi⟩⟩
  obtain ⟨v, h1, h2⟩ := hs.at hd
  refine ⟨⟨vs, v, SqL.of (s _ _ ha), h1⟩, fun x H3 y => ?_⟩
  obtain ⟨e, y⟩ := y
  subst e
  have q := y vs (SqL.of (s _ _ ha))
  rw [h1] at q
  cases q
  exact ⟨Same.refl _, Rp.mono (cold_more s b) _ _ h2⟩
theorem gv_tup {K : PySem.W.Frag} {hot : Hot} {H : Hp} {a : Addr} {vs : List V} {ds : List PyData} (ha : H a = some (.tup vs)) (hs : RpAll (cold hot H) ds vs) : Gv hot (Itt K a) ds H := fun hot' H2 s al c b => by
  refine ⟨fun i d hd => ?_, fun i hi => ⟨vs, SqT.of (s _ _ ha), by rw [hs.length]; exact hi⟩⟩
  obtain ⟨v, h1, h2⟩ := hs.at hd
  refine ⟨⟨vs, v, SqT.of (s _ _ ha), h1⟩, fun x H3 y => ?_⟩
  obtain ⟨e, y⟩ := y
  subst e
  have q := y vs (SqT.of (s _ _ ha))
  rw [h1] at q
  cases q
  exact ⟨Same.refl _, Rp.mono (cold_more s b) _ _ h2⟩
theorem di_list (h : DE X e r) : DI X tg e (fun ρ ds => r ρ (.list ds)) := (pi_list h).imp fun σ H R ⟨hot, ρ, ds, al, rs, h1, k⟩ =>
  ⟨hot, ρ, .list ds, al, rs, h1, fun x H1 s1 r1 => by
    obtain ⟨a, vs, rfl, ha, hs⟩ := r1
    exact ⟨a, rfl, ⟨vs, SqL.of (cold_same _ _ ha)⟩, k _ H1 s1 (gv_list (cold_same _ _ ha) hs)⟩⟩
theorem di_tup (h : DE X e r) : DI X tg e (fun ρ ds => r ρ (.tuple ds)) := (pi_tup h).imp fun σ H R ⟨hot, ρ, ds, al, rs, h1, k⟩ =>
  ⟨hot, ρ, .tuple ds, al, rs, h1, fun x H1 s1 r1 => by
    obtain ⟨a, vs, rfl, ha, hs⟩ := r1
    exact ⟨a, rfl, ⟨vs, SqT.of (cold_same _ _ ha)⟩, k _ H1 s1 (gv_tup (cold_same _ _ ha) hs)⟩⟩
/-- lo, lo + 1, .. -/
def rngD (lo : Int) (n : Nat) : List PyData := (List.range n).map fun (i : Nat) => PyData.int (lo + (i : Int))
theorem rngD_len {lo : Int} {n : Nat} : (rngD lo n).length = n := by unfold rngD; rw [List.length_map, List.length_range]
theorem gv_rng {hot : Hot} {H : Hp} {lo : Int} {n : Nat} : Gv hot (Itr lo n) (rngD lo n) H := fun hot' H2 s al c b => by
  refine ⟨fun i d hd => ?_, fun i hi => by rw [rngD_len] at hi; exact hi⟩
  have hi : i < n := by
    have := (List.getElem?_eq_some_iff.mp hd).1
    rwa [rngD_len] at this
  refine ⟨hi, fun x H3 y => ?_⟩
  obtain ⟨e, y⟩ := y
  subst e y
  unfold rngD at hd
  rw [List.getElem?_map, List.getElem?_range hi] at hd
  cases hd
  exact ⟨Same.refl _, rfl⟩
theorem di_range1 (hg : Gl X "range") (hm : X.mg "range" = none) (h : DE X e r) (hs : starEach [e] X.env = [(false, eval e X.env)] := by rfl) : DI X tg (.Call (.Name "range" p) [e] [] pos) (fun ρ ds => ∃ n : Nat, r ρ (.int n) ∧ n ≤ 1000000 ∧ ds = rngD 0 n) :=
  (pi_range1 hg hm (pa_cons h pa_nil hs) hs).imp fun σ H R ⟨hot, ρ, ds, al, rs, ⟨n, h1, h2, e⟩, k⟩ => by
    subst e
    refine ⟨hot, ρ, .int n, al, rs, h1, fun x H1 s1 r1 => ?_⟩
    have e : x = V.int n := r1
    subst e
    exact ⟨n, rfl, by omega, by omega, k _ H1 s1 gv_rng⟩
theorem di_range2 (hg : Gl X "range") (hm : X.mg "range" = none) (h : DE X e r) (h2 : DE X e2 ra) (hs : starEach [e, e2] X.env = [(false, eval e X.env), (false, eval e2 X.env)] := by rfl) (hs2 : starEach [e2] X.env = [(false, eval e2 X.env)] := by rfl) :
    DI X tg (.Call (.Name "range" p) [e, e2] [] pos) (fun ρ ds => ∃ m n : Nat, r ρ (.int m) ∧ ra ρ (.int n) ∧ m ≤ 1000000 ∧ n ≤ 1000000 ∧ ds = rngD m (n - m)) :=
  (pi_range2 hg hm (pa_cons h (pa_cons h2 pa_nil hs2) (hs.trans (by rw [hs2]))) hs hs2).imp fun σ H R ⟨hot, ρ, ds, al, rs, ⟨m, n, h1, h2, l1, l2, e⟩, k⟩ => by
    subst e
    refine ⟨hot, ρ, .int m, al, rs, h1, fun x H1 s1 r1 => ⟨hot, ρ, .int n, al.mono s1, rs.mono (cold_mono s1), h2, fun y H2 s2 r2 => ?_⟩⟩
    have e : x = V.int m := r1
    have e' : y = V.int n := r2
    subst e e'
    refine ⟨m, n, rfl, by omega, ?_⟩
    have e : ((n : Int) - (m : Int)).toNat = n - m := by omega
    rw [e]
    exact k _ H2 (s1.trans s2) gv_rng
/-- enumerate(list) -/
def enumD (ds : List PyData) : List PyData := ds.zipIdx.map fun p => .tuple [.int (p.2 : Int), p.1]
theorem enumD_len {ds : List PyData} : (enumD ds).length = ds.length := by unfold enumD; rw [List.length_map, List.length_zipIdx]
theorem enumD_at {ds : List PyData} {i : Nat} {d : PyData} (h : (enumD ds)[i]? = some d) : ∃ d', ds[i]? = some d' ∧ d = .tuple [.int (i : Int), d'] := by
  unfold enumD at h
  rw [List.getElem?_map, List.getElem?_zipIdx] at h
  cases q : ds[i]? with
  | none => rw [q] at h; cases h
  | some d' =>
    rw [q] at h
    simp at h
    exact ⟨d', rfl, h.symm⟩
theorem gv_enum {K : PySem.W.Frag} {hot : Hot} {H : Hp} {a : Addr} {vs : List V} {ds : List PyData} (ha : H a = some (.lst vs)) (hs : RpAll (cold hot H) ds vs) : Gv hot (Ite K a) (enumD ds) H := fun hot' H2 s al c b => by
  refine ⟨fun i d hd => ?_, fun i hi => ⟨vs, SqL.of (s _ _ ha), by rw [hs.length]; rw [enumD_len] at hi; exact hi⟩⟩
  obtain ⟨d', hd', rfl⟩ := enumD_at hd
  obtain ⟨v, h1, h2⟩ := hs.at hd'
  refine ⟨⟨vs, v, SqL.of (s _ _ ha), h1⟩, fun x H3 y => ?_⟩
  obtain ⟨T, z, rfl, hT, rfl, y⟩ := y
  have q := y vs (SqL.of (s _ _ ha))
  rw [h1] at q
  cases q
  refine ⟨same_new hT _, T, _, rfl, cold_new al hT, .int (i : Int), _, rfl, rfl, v, [], rfl, ?_, rfl⟩
  exact Rp.mono ((cold_more s b).trans (cold_mono (same_new hT _))) _ _ h2
theorem di_enumL {elts : List Expr} {kk : Nat} (hg : Gl X "enumerate") (hm : X.mg "enumerate" = none) (h : DE X e r) (hs : starEach [e] X.env = [(false, eval e X.env)] := by rfl) : DI X (.Tuple elts kk tpos) (.Call (.Name "enumerate" p) [e] [] pos) (fun ρ ds => ∃ es, r ρ (.list es) ∧ ds = enumD es) :=
  (pi_enum hg hm (pa_cons h pa_nil hs) hs).imp fun σ H R ⟨hot, ρ, ds, al, rs, ⟨es, h1, e⟩, k⟩ => by
    subst e
    refine ⟨hot, ρ, .list es, al, rs, h1, fun x H1 s1 r1 => ?_⟩
    obtain ⟨a, vs, rfl, ha, hs⟩ := r1
    exact ⟨a, vs, rfl, SqL.of (cold_same _ _ ha), k _ H1 s1 (gv_enum (cold_same _ _ ha) hs)⟩
/-- zip(list, list) -/
def zipD (ds es : List PyData) : List PyData := (ds.zip es).map fun p => .tuple [p.1, p.2]
theorem gv_zip {K : PySem.W.Frag} {hot : Hot} {H : Hp} {a b : Addr} {vs us : List V} {ds es : List PyData} (ha : H a = some (.lst vs)) (hs : RpAll (cold hot H) ds vs) (hb : H b = some (.lst us)) (ht : RpAll (cold hot H) es us) : Gv hot (Itz K a b) (zipD ds es) H := fun hot' H2 s al c bb => by
  have hl : (zipD ds es).length = min ds.length es.length := by unfold zipD; rw [List.length_map, List.length_zip]
  refine ⟨fun i d hd => ?_, fun i hi => ⟨vs, us, SqL.of (s _ _ ha), SqL.of (s _ _ hb), by rw [hs.length, ht.length]; rw [hl] at hi; omega⟩⟩
  unfold zipD at hd
  rw [List.getElem?_map] at hd
  cases q : (ds.zip es)[i]? with
  | none => rw [q] at hd; cases hd
  | some p =>
    rw [q] at hd
    cases hd
    obtain ⟨q1, q2⟩ := List.getElem?_zip_eq_some.mp q
    obtain ⟨v1, h1, h2⟩ := hs.at q1
    obtain ⟨v2, h3, h4⟩ := ht.at q2
    refine ⟨⟨vs, us, v1, v2, SqL.of (s _ _ ha), SqL.of (s _ _ hb), h1, h3⟩, fun x H3 y => ?_⟩
    obtain ⟨T, z1, z2, rfl, hT, rfl, y1, y2⟩ := y
    have e1 := y1 vs (SqL.of (s _ _ ha))
    have e2 := y2 us (SqL.of (s _ _ hb))
    rw [h1] at e1
    rw [h3] at e2
    cases e1
    cases e2
    have m := (cold_more s bb).trans (cold_mono (same_new hT (.tup [v1, v2])))
    exact ⟨same_new hT _, T, _, rfl, cold_new al hT, v1, _, rfl, Rp.mono m _ _ h2, v2, [], rfl, Rp.mono m _ _ h4, rfl⟩
theorem di_zip {elts : List Expr} {kk : Nat} (hg : Gl X "zip") (hm : X.mg "zip" = none) (h : DE X e r) (h2 : DE X e2 ra) (hs : starEach (e :: [e2]) X.env = (false, eval e X.env) :: starEach [e2] X.env := by rfl) (hs2 : starEach (e2 :: []) X.env = (false, eval e2 X.env) :: starEach [] X.env := by rfl)
    (hpl : (backTo pos (starEach [e2] X.env)).any (·.1) = false := by rfl) :
    DI X (.Tuple elts kk tpos) (.Call (.Name "zip" p) [e, e2] [] pos) (fun ρ ds => ∃ d1 d2, r ρ (.list d1) ∧ ra ρ (.list d2) ∧ ds = zipD d1 d2) :=
  (pi_zip hg hm (pa_cons h (pa_cons h2 pa_nil hs2) hs) hs hpl).imp fun σ H R ⟨hot, ρ, ds, al, rs, ⟨d1, d2, h1, h2, e⟩, k⟩ => by
    subst e
    refine ⟨hot, ρ, .list d1, al, rs, h1, fun x H1 s1 r1 => ⟨hot, ρ, .list d2, al.mono s1, rs.mono (cold_mono s1), h2, fun y H2 s2 r2 => ?_⟩⟩
    obtain ⟨a, vs, rfl, ha, hs⟩ := r1
    obtain ⟨b, us, rfl, hb, ht⟩ := r2
    have ha2 := s2 _ _ (cold_same _ _ ha)
    exact ⟨a, b, vs, us, rfl, SqL.of ha2, SqL.of (cold_same _ _ hb), k _ H2 (s1.trans s2) (gv_zip ha2 (RpAll.mono (cold_mono s2) _ _ hs) (cold_same _ _ hb) ht)⟩
end
/-! ### for -/
section
variable {X : Cx} {tg it : Expr} {body : List Stmt} {pos : Pos} {r : RI} {gs : List Nat} {g : DGt} {t : DTS}
theorem ds_for (hp : PassesOwn (model X.prog X.w) X.A X.env X.xe) (hc : X.calm = true) (hi : DI X tg it r) (hg : DG X tg gs g) (hb : DSs X body t) (hs : ∀ x, foldedSetIterable it X.env x = pure x := by intro _; rfl) :
    DS X (.For tg it body [] pos) (fun De ρ => ∃ (ds : List PyData) (W : Nat → DEnv → Prop), r ρ ds ∧ W 0 ρ ∧ (∀ (i : Nat) (d : PyData) (ρ : DEnv), ds[i]? = some d → W i ρ → ∃ ρ', g d ρ ρ' ∧ t { De with nx := W (i + 1), ct := W (i + 1), bk := De.nx } ρ') ∧ ∀ ρ, W ds.length ρ → De.nx ρ) :=
  (ps_for hp hc hi hg hb hs).imp fun D σ H ⟨hot, ρ, De, al, rs, ⟨ds, W, h1, w0, turn, done⟩, l⟩ => by
    refine ⟨hot, ρ, ds, al, rs, h1, fun J H1 s1 gv => ?_⟩
    refine ⟨fun i m σ H2 => m = ds.length - i ∧ i ≤ ds.length ∧ Same H1 H2 ∧ ∃ ρ, Rs (cold hot H2) σ ρ ∧ W i ρ, ⟨_, rfl, Nat.zero_le _, Same.refl _, ρ, rs.mono (cold_mono s1), w0⟩, ?_⟩
    rintro i m σ2 H2 ⟨rfl, hi, s2, ρ2, rs2, w2⟩
    obtain ⟨go, stop⟩ := gv hot H2 s2 ((al.mono s1).mono s2) (fun _ h => h) (fun _ h => .inl h)
    by_cases hlt : i < ds.length
    · obtain ⟨g1, g2⟩ := go i _ (List.getElem?_eq_getElem hlt)
      refine .inr ⟨g1, fun σ' H' => Same H1 H' ∧ ∃ ρ, Rs (cold hot H') σ' ρ ∧ W (i + 1) ρ, fun σ' H' ⟨sa, hr⟩ => ⟨ds.length - (i + 1), by omega, rfl, hlt, sa, hr⟩, fun x H3 y => ?_⟩
      obtain ⟨s3, rx⟩ := g2 x H3 y
      obtain ⟨ρ', hg', ht'⟩ := turn i _ ρ2 (List.getElem?_eq_getElem hlt) w2
      have al3 := ((al.mono s1).mono s2).mono s3
      refine ⟨hot, ρ2, _, ρ', al3, rs2.mono (cold_mono s3), rx, hg', fun σ4 H4 s4 _ rs4 => ?_⟩
      have s14 := (s2.trans s3).trans s4
      refine ⟨hot, ρ', _, al3.mono s4, rs4, ht', ⟨fun ρ5 σ5 H5 a s5 c => ⟨s14.trans s5, ρ5, c, a⟩, fun d v H5 a s5 c => l.rt d v H5 a (s1.trans (s14.trans s5)) c, fun ρ5 σ5 H5 a s5 c => l.nx ρ5 σ5 H5 a (s1.trans (s14.trans s5)) c, fun ρ5 σ5 H5 a s5 c => ⟨s14.trans s5, ρ5, c, a⟩⟩⟩
    · have e : i = ds.length := by omega
      subst e
      exact .inl ⟨stop _ (Nat.le_refl _), l.nx ρ2 σ2 H2 (done ρ2 w2) (s1.trans s2) rs2⟩
end
/-! ### list comprehensions -/
def LcT (g : DGt) (tt : RB) (re : RD) (ρ : DEnv) (d : PyData) (o : List PyData) : Prop := ∃ ρ', g d ρ ρ' ∧ ∃ k, tt ρ' k ∧ if k = true then ∃ y, re ρ' y ∧ o = [y] else o = []
inductive LcAll (g : DGt) (tt : RB) (re : RD) (ρ : DEnv) : List PyData → List PyData → Prop
  | nil : LcAll g tt re ρ [] []
  | cons {d : PyData} {ds o os : List PyData} (h : LcT g tt re ρ d o) (t : LcAll g tt re ρ ds os) : LcAll g tt re ρ (d :: ds) (o ++ os)
theorem LcAll.le {g : DGt} {tt : RB} {re : RD} {ρ : DEnv} {ds os : List PyData} (h : LcAll g tt re ρ ds os) : os.length ≤ ds.length := by
  induction h with
  | nil => exact Nat.le_refl _
  | cons h t ih =>
    obtain ⟨ρ', _, k, _, h⟩ := h
    rw [List.length_append, List.length_cons]
    cases k with
    | true =>
      obtain ⟨y, _, e⟩ := h
      rw [e, List.length_singleton]
      omega
    | false =>
      have e : _ = [] := h
      rw [e, List.length_nil]
      omega
def rLc (r : RI) (g : DGt) (tt : RB) (re : RD) (vs : List Nat) : RD := fun ρ d => ∃ ds os, r ρ ds ∧ ds.length ≤ 1000000 ∧ LcAll g tt re (wipeD ρ vs) ds os ∧ d = .list os
/-- the part done -/
theorem LcAll.split {g : DGt} {tt : RB} {re : RD} {ρ : DEnv} : ∀ {ds os : List PyData}, LcAll g tt re ρ ds os → ∀ i : Nat, ∃ o1 o2, os = o1 ++ o2 ∧ o1.length ≤ i ∧ LcAll g tt re ρ (ds.drop i) o2 ∧ LcAll g tt re ρ (ds.take i) o1
  | _, os, h, 0 => ⟨[], os, rfl, Nat.le_refl _, h, .nil⟩
  | _, _, .nil, i + 1 => ⟨[], [], rfl, Nat.zero_le _, .nil, .nil⟩
  | _, _, .cons (o := o) (os := os) h t, i + 1 => by
    obtain ⟨o1, o2, e, l, a, b⟩ := LcAll.split t i
    have hl : o.length ≤ 1 := by
      have q := (LcAll.cons h .nil).le
      rw [List.append_nil] at q
      exact q
    exact ⟨o ++ o1, o2, by rw [e, List.append_assoc], by rw [List.length_append]; omega, a, .cons h b⟩
theorem wipe_in {σ : Sg} {q : Nat} : ∀ {vs : List Nat}, q ∈ vs → (wipe σ vs).set q none = wipe σ vs
  | [], h => by cases h
  | z :: zs, h => by
    show ((wipe σ zs).set z none).set q none = (wipe σ zs).set z none
    by_cases hqz : q = z
    · subst hqz
      rw [List.set_set]
    · have hz : q ∈ zs := by
        rcases List.mem_cons.mp h with e | e
        · exact absurd e hqz
        · exact e
      rw [List.set_comm _ _ (Ne.symm hqz), wipe_in hz]
theorem wipe_idem {σ : Sg} (vs : List Nat) : ∀ ws : List Nat, (∀ k ∈ ws, k ∈ vs) → wipe (wipe σ vs) ws = wipe σ vs
  | [], _ => rfl
  | q :: ws, h => by
    show (wipe (wipe σ vs) ws).set q none = wipe σ vs
    rw [wipe_idem vs ws fun k hk => h k (List.mem_cons_of_mem _ hk)]
    exact wipe_in (h q List.mem_cons_self)
section
variable {X : Cx} {elt tg iter : Expr} {ifs : List Expr} {scope : Scope} {own : List (Str × Nat)} {pos : Pos} {r : RI} {gs : List Nat} {g : DGt} {tt : RB} {re : RD}
theorem dts_nil : PTs X [] (tDT (fun _ b => b = true)) := pts_nil.imp fun σ H Q ⟨hot, ρ, b, al, rs, e, k⟩ => by
  subst e
  exact k H (Same.refl H)
theorem dts_one {c : Expr} (h : DT X c tt) : PTs X [c] (tDT tt) := pts_one h
theorem lc_gv (hgs : ∀ k ∈ gs, k ∈ own.map (·.2)) {σ : Sg} {H : Hp} {Q : VK} {hot : Hot} {ρ : DEnv} {ds os : List PyData} (al : Alc hot H) (rs : Rs (cold hot H) σ ρ) (hz : ds.length ≤ 1000000) (hL : LcAll g tt re (wipeD ρ (own.map (·.2))) ds os) (kk : Kont hot H (.list os) Q)
    (J : It) (H1 : Hp) (s1 : Same H H1) (gv : Gv hot J ds H1) : tLc (fun _ H' R => R J H') (gD gs g) (tDT tt) (tD re) (own.map (·.2)) σ H1 Q := by
  intro D hD
  have al1 := al.mono s1
  have rs1 : Rs (cold hot H1) σ ρ := rs.mono (cold_mono s1)
  generalize ehot : (fun a => hot a || decide (a = D) : Hot) = hot'
  have hhD : hot' D = true := by rw [← ehot]; simp
  have hh1 : ∀ a, hot a = true → hot' a = true := fun a ha => by rw [← ehot]; simp [ha]
  have hh2 : ∀ a, hot' a = true → hot a = true ∨ a = D := fun a ha => by
    rw [← ehot] at ha
    simpa using ha
  have hh3 : ∀ a, hot' a = true → hot a = true ∨ H1 a = none := fun a ha => (hh2 a ha).elim .inl fun e => .inr (by rw [e]; exact hD)
  have hotD : hot D = false := al1.fresh hD
  -- the state at turn i
  let W : Nat → Hp → Prop := fun i H2 => i ≤ ds.length ∧ Same H1 H2 ∧ ∃ o1 o2 vs, os = o1 ++ o2 ∧ o1.length ≤ i ∧ LcAll g tt re (wipeD ρ (own.map (·.2))) (ds.drop i) o2 ∧ H2 D = some (.lst vs) ∧ RpAll (cold hot' H2) o1 vs
  have alW : ∀ i H2, W i H2 → Alc hot' H2 := fun i H2 ⟨_, s2, o1, o2, vs, _, _, _, h2, _⟩ a ha => by
    rcases hh2 a ha with z | z
    · exact (al1.mono s2) a z
    · rw [z, h2]
      exact fun q => nomatch q
  refine ⟨fun i m H2 => m = ds.length - i ∧ W i H2, ⟨_, rfl, Nat.zero_le _, same_new hD _, [], os, [], rfl, Nat.le_refl _, hL, upd_same, rfl⟩, ?_⟩
  rintro i m H2 ⟨rfl, w⟩
  obtain ⟨hi, s2, o1, o2, vs, eo, hl1, hL2, hD2, hv⟩ := id w
  obtain ⟨go, stop⟩ := gv hot' H2 s2 (alW i H2 w) hh1 hh3
  by_cases hlt : i < ds.length
  · obtain ⟨g1, g2⟩ := go i _ (List.getElem?_eq_getElem hlt)
    refine .inr ⟨g1, W (i + 1), fun H' w' => ⟨ds.length - (i + 1), by omega, rfl, w'⟩, fun x H3 y => ?_⟩
    obtain ⟨s3, rx⟩ := g2 x H3 y
    rw [List.drop_eq_getElem_cons hlt] at hL2
    cases hL2 with
    | cons hT hrest =>
      rename_i o os'
      obtain ⟨ρ', hg', k, ht', hk⟩ := hT
      have al3 : Alc hot' H3 := (alW i H2 w).mono s3
      have rs3 : Rs (cold hot' H3) (wipe σ (own.map (·.2))) (wipeD ρ (own.map (·.2))) := (rs1.mono (cold_more (s2.trans s3) hh3)).wipe _
      refine ⟨hot', _, _, ρ', al3, rs3, rx, hg', fun σ4 H4 s4 hw rs4 => ⟨?_, ?_⟩⟩
      · have e := hw (own.map (·.2)) hgs
        rw [e]
        exact wipe_idem _ _ fun k hk => hk
      · refine ⟨hot', ρ', k, al3.mono s4, rs4, ht', fun H5 s5 => ?_⟩
        have s35 := s4.trans s5
        have hD5 : H5 D = some (.lst vs) := s35 _ _ (s3 _ _ hD2)
        have s15 : Same H1 H5 := (s2.trans s3).trans s35
        cases k with
        | false =>
          have e : o = [] := hk
          subst e
          exact ⟨hlt, s15, o1, os', vs, by rw [eo, List.nil_append], Nat.le_succ_of_le hl1, hrest, hD5, RpAll.mono (cold_mono (s3.trans s35)) _ _ hv⟩
        | true =>
          obtain ⟨y, hy, e⟩ := hk
          subst e
          refine ⟨hot', ρ', y, al3.mono s35, rs4.mono (cold_mono s5), hy, fun yv H6 s6 ry => ?_⟩
          have s26 := s3.trans (s35.trans s6)
          have hv6 := RpAll.mono (cold_mono (hot := hot') s26) _ _ hv
          have hlen : vs.length = o1.length := hv.length
          have hsl := sizeLine_eq
          refine ⟨vs, s6 _ _ hD5, by omega, hlt, fun a u q => ?_, o1 ++ [y], os', vs ++ [yv], by rw [eo, List.append_assoc], by rw [List.length_append, List.length_singleton]; omega, hrest, upd_same, ?_⟩
          · rw [upd_ne (ne_of_none q hD)]
            exact (s15.trans s6) _ _ q
          · have ec : cold hot' (upd H6 D (.lst (vs ++ [yv]))) = cold hot' H6 := by
              funext a
              unfold cold
              by_cases ha : hot' a = true
              · rw [if_pos ha, if_pos ha]
              · rw [if_neg ha, if_neg ha, upd_ne]
                intro e
                rw [e] at ha
                exact ha hhD
            rw [ec]
            exact hv6.append ⟨yv, [], rfl, ry, rfl⟩
  · have e : i = ds.length := by omega
    subst e
    rw [List.drop_length] at hL2
    cases hL2
    rw [List.append_nil] at eo
    subst eo
    refine .inl ⟨stop _ (Nat.le_refl _), kk _ H2 (s1.trans s2) ⟨D, vs, rfl, by rw [cold_at hotD]; exact hD2, RpAll.mono (fun a u q => ?_) _ _ hv⟩⟩
    have q1 := cold_same _ _ q
    cases z : hot a with
    | false => rw [cold_at z]; exact q1
    | true =>
      unfold cold at q
      rw [if_pos (hh1 a z)] at q
      cases q
theorem tD_lc (hgs : ∀ k ∈ gs, k ∈ own.map (·.2)) {σ : Sg} {H : Hp} {Q : VK} (h : tD (rLc r g tt re (own.map (·.2))) σ H Q) : tLc (iD r) (gD gs g) (tDT tt) (tD re) (own.map (·.2)) σ H Q := by
  obtain ⟨hot, ρ, d, al, rs, ⟨ds, os, h1, hz, hL, e⟩, kk⟩ := h
  subst e
  exact ⟨hot, ρ, ds, al, rs, h1, fun J H1 s1 gv => lc_gv hgs al rs hz hL kk J H1 s1 gv⟩
theorem de_lc (hc : X.calm = true) (hN : X.N.Nodup) (hi : DI X tg iter r) (ok : BlkOk X.N X.env.scope scope own)
    (hg : ∀ (s : Shared) (H : Hp) (C : Addr) (cl : List (Str × Addr)) (fp : List Addr), DG (X.blk s H scope (compEnvC scope cl C X.env) fp) tg gs g) (ht : ∀ (s : Shared) (H : Hp) (C : Addr) (cl : List (Str × Addr)) (fp : List Addr), PTs (X.blk s H scope (compEnvC scope cl C X.env) fp) ifs (tDT tt))
    (he : ∀ (s : Shared) (H : Hp) (C : Addr) (cl : List (Str × Addr)) (fp : List Addr), DE (X.blk s H scope (compEnvC scope cl C X.env) fp) elt re) (hgs : ∀ k ∈ gs, k ∈ own.map (·.2) := by decide) (hs : ∀ x, foldedSetIterable iter X.env x = pure x := by intro _; rfl) :
    DE X (.ListComp elt [⟨tg, iter, ifs, 0⟩] scope pos) (rLc r g tt re (own.map (·.2))) :=
  (pe_lc hc hN hi ok hg ht he hs).imp fun σ H Q h => tD_lc hgs h
theorem ds_setLc {i : Nat} {y : Str} {py spos : Pos} (hc : X.calm = true) (hN : X.N.Nodup) (hy : X.N[i]? = some y) (hyl : X.env.scope.names.lookup y = some .local)
    (hsw : swapsWith (.ListComp elt [⟨tg, iter, ifs, 0⟩] scope pos) (some (.Name y py)) spos.line X.env = pure true) (hi : DI X tg iter r) (ok : BlkOk X.N X.env.scope scope own)
    (hg : ∀ (s : Shared) (H : Hp) (C : Addr) (cl : List (Str × Addr)) (fp : List Addr), DG (X.blk s H scope (compEnvC scope cl C X.env) fp) tg gs g) (ht : ∀ (s : Shared) (H : Hp) (C : Addr) (cl : List (Str × Addr)) (fp : List Addr), PTs (X.blk s H scope (compEnvC scope cl C X.env) fp) ifs (tDT tt))
    (he : ∀ (s : Shared) (H : Hp) (C : Addr) (cl : List (Str × Addr)) (fp : List Addr), DE (X.blk s H scope (compEnvC scope cl C X.env) fp) elt re) (hgs : ∀ k ∈ gs, k ∈ own.map (·.2) := by decide) (hs : ∀ x, foldedSetIterable iter X.env x = pure x := by intro _; rfl) :
    DS X (.Assign [.Name y py] (.ListComp elt [⟨tg, iter, ifs, 0⟩] scope pos) spos) (fun De ρ => ∃ d, rLc r g tt re (own.map (·.2)) ρ d ∧ De.nx (ρ.set i (some d))) :=
  (ps_setLc hc hN hy hyl hsw hi ok hg ht he hs).imp fun D σ H ⟨hot, ρ, De, al, rs, ⟨d, h1, h2⟩, l⟩ =>
    tD_lc hgs ⟨hot, ρ, d, al, rs, h1, fun v H' s r1 => l.nx _ _ H' h2 s ((rs.mono (cold_mono s)).set i r1)⟩
end
/-- the usual: over f a, kept where p a, giving h a -/
theorem LcAll.of {α : Type} {g : DGt} {tt : RB} {re : RD} {ρ : DEnv} {f h : α → PyData} {p : α → Bool} : ∀ {as : List α}, (∀ a ∈ as, LcT g tt re ρ (f a) (if p a = true then [h a] else [])) → LcAll g tt re ρ (as.map f) ((as.filter p).map h)
  | [], _ => .nil
  | a :: as, k => by
    have q := LcAll.cons (k a List.mem_cons_self) (LcAll.of (as := as) fun b hb => k b (List.mem_cons_of_mem _ hb))
    rw [List.map_cons, List.filter_cons]
    cases hp : p a with
    | true =>
      rw [hp, if_pos rfl] at q
      rw [if_pos rfl, List.map_cons]
      exact q
    | false =>
      rw [hp, if_neg Bool.false_ne_true] at q
      rw [if_neg Bool.false_ne_true]
      exact q
theorem LcAll.ofMap {α : Type} {g : DGt} {tt : RB} {re : RD} {ρ : DEnv} {f h : α → PyData} {as : List α} (k : ∀ a ∈ as, LcT g tt re ρ (f a) [h a]) : LcAll g tt re ρ (as.map f) (as.map h) := by
  have q := LcAll.of (g := g) (tt := tt) (re := re) (ρ := ρ) (f := f) (h := h) (p := fun _ => true) (as := as) fun a ha => by rw [if_pos rfl]; exact k a ha
  rw [List.filter_eq_self.mpr (fun _ _ => rfl)] at q
  exact q
/-! ### a def, by trees -/
def startD (N : List Str) (ds : List PyData) : DEnv := ds.map some ++ List.replicate (N.length - ds.length) none
theorem rs_start {H : Hp} {N : List Str} {ds : List PyData} {vs : List V} (h : RpAll H ds vs) : Rs H (L2.start N vs) (startD N ds) := by
  have hl := h.length
  refine ⟨?_, fun i d e => ?_⟩
  · unfold L2.start startD
    rw [List.length_append, List.length_append, List.length_map, List.length_map, List.length_replicate, List.length_replicate, hl]
  · unfold startD at e
    by_cases hi : i < ds.length
    · rw [List.getElem?_append_left (by rw [List.length_map]; exact hi), List.getElem?_map] at e
      cases q : ds[i]? with
      | none => rw [q] at e; cases e
      | some d' =>
        rw [q] at e
        have e2 : d' = d := by simpa using e
        subst e2
        obtain ⟨v, h1, h2⟩ := h.at q
        refine ⟨v, ?_, h2⟩
        unfold L2.start
        rw [List.getElem?_append_left (by rw [List.length_map]; omega), List.getElem?_map, h1]
        rfl
    · rw [List.getElem?_append_right (by rw [List.length_map]; omega)] at e
      have := List.mem_of_getElem? e
      rw [List.mem_replicate] at this
      cases this.2
section
variable {P : Program} {w : World} {K : PySem.W.Frag} {mg : Str → Option Value} {base : Heap}
abbrev FnP (K : PySem.W.Frag) (x : Str) (st : Stmt) (f : Addr) (fd : FuncData) : Prop := FunD K x x (defArgs st) (defBody st) (defScope st) [] [] f fd
/-- THE RULE for a def over trees -/
theorem fn_D {x : Str} {st : Stmt} {f : Addr} {fd : FuncData} {N ps : List Str} {k : Nat} {R : List PyData → PyData → Prop} (F : FnP K x st f fd) (S : FnScope N ps (defScope st)) (len : ∀ ds d, R ds d → ds.length = ps.length)
    (hb : ∀ (cdv : Value) (A : Around) (outer : List Env) (s : Shared) (H : Hp) (E : XK), Room k (A.deeper (envOfC x (defScope st) s.heap.objs.size f cdv)) →
      ∃ t, DSs (cxOf CX0 P w K mg base N x (defScope st) f cdv A outer s H E).nox (defBody st) t ∧ ∀ ds d, R ds d → t { nx := fun _ => False, rt := fun d' => d' = d } (startD N ds)) : FnOk P w K mg base CX0 (k + 1) f fd ps (spR R) := by
  refine F.ok S (fun vs H Q E h => ?_) (fun cdv A outer s H vs Q E hr h => ?_)
  · obtain ⟨hot, ds, d, al, rp, hR, kk⟩ := h
    rw [rp.length]
    exact len _ _ hR
  · obtain ⟨hot, ds, d, al, rp, hR, kk⟩ := h
    obtain ⟨t, h1, h2⟩ := hb cdv A outer s H E hr
    refine ⟨_, PSs.nox h1, hot, _, _, al, rs_start rp, h2 ds d hR, ⟨fun _ _ _ z => z.elim, fun d' v H' e s r => ?_, fun _ _ _ z => z.elim, fun _ _ _ z => z.elim⟩⟩
    subst e
    exact kk v H' s r
/-- .. for a def that may hand back None at its end -/
theorem fn_DN {x : Str} {st : Stmt} {f : Addr} {fd : FuncData} {N ps : List Str} {k : Nat} {R : List PyData → PyData → Prop} (F : FnP K x st f fd) (S : FnScope N ps (defScope st)) (len : ∀ ds d, R ds d → ds.length = ps.length)
    (hb : ∀ (cdv : Value) (A : Around) (outer : List Env) (s : Shared) (H : Hp) (E : XK), Room k (A.deeper (envOfC x (defScope st) s.heap.objs.size f cdv)) →
      ∃ t, DSs (cxOf CX0 P w K mg base N x (defScope st) f cdv A outer s H E).nox (defBody st) t ∧ ∀ ds d, R ds d → t { nx := fun _ => d = .none, rt := fun d' => d' = d } (startD N ds)) : FnOk P w K mg base CX0 (k + 1) f fd ps (spR R) := by
  refine F.ok S (fun vs H Q E h => ?_) (fun cdv A outer s H vs Q E hr h => ?_)
  · obtain ⟨hot, ds, d, al, rp, hR, kk⟩ := h
    rw [rp.length]
    exact len _ _ hR
  · obtain ⟨hot, ds, d, al, rp, hR, kk⟩ := h
    obtain ⟨t, h1, h2⟩ := hb cdv A outer s H E hr
    refine ⟨_, PSs.nox h1, hot, _, _, al, rs_start rp, h2 ds d hR, ⟨fun ρ σ H' e s rs => ?_, fun d' v H' e s r => ?_, fun _ _ _ z => z.elim, fun _ _ _ z => z.elim⟩⟩
    · subst e
      exact kk .non H' s rfl
    · subst e
      exact kk v H' s r
end
end Rng
/-! sorted(x): x a list or a tuple, of ints, or of tuples of ints of any lengths but none -/
namespace Rng
open PySem PySem.Spec PyProof.Rows
/-! ### the order of lists of ints -/
def lxl : List Int → List Int → Bool
  | [], [] => false
  | [], _ :: _ => true
  | _ :: _, [] => false
  | x :: xs, y :: ys => if x = y then lxl xs ys else decide (x < y)
theorem lxl_irr : ∀ x : List Int, lxl x x = false
  | [] => rfl
  | x :: xs => by
    show (if x = x then lxl xs xs else decide (x < x)) = false
    rw [if_pos rfl, lxl_irr xs]
theorem lxl_asym : ∀ x y : List Int, lxl x y = true → lxl y x = false
  | [], [], h => by cases h
  | [], _ :: _, _ => rfl
  | _ :: _, [], h => by cases h
  | x :: xs, y :: ys, h => by
    have h : (if x = y then lxl xs ys else decide (x < y)) = true := h
    show (if y = x then lxl ys xs else decide (y < x)) = false
    by_cases e : x = y
    · rw [if_pos e] at h
      rw [if_pos e.symm]
      exact lxl_asym xs ys h
    · rw [if_neg e] at h
      rw [if_neg (Ne.symm e)]
      have := of_decide_eq_true h
      exact decide_eq_false (by omega)
theorem lxl_conn : ∀ x y : List Int, lxl x y = false → lxl y x = false → x = y
  | [], [], _, _ => rfl
  | [], _ :: _, h, _ => by cases h
  | _ :: _, [], _, h => by cases h
  | x :: xs, y :: ys, h, k => by
    have h : (if x = y then lxl xs ys else decide (x < y)) = false := h
    have k : (if y = x then lxl ys xs else decide (y < x)) = false := k
    by_cases e : x = y
    · rw [if_pos e] at h
      rw [if_pos e.symm] at k
      rw [e, lxl_conn xs ys h k]
    · rw [if_neg e] at h
      rw [if_neg (Ne.symm e)] at k
      have := of_decide_eq_false h
      have := of_decide_eq_false k
      omega
theorem lxl_tr : ∀ x y z : List Int, lxl x y = true → lxl y z = true → lxl x z = true
  | [], [], _, h, _ => by cases h
  | [], _ :: _, [], _, k => by cases k
  | [], _ :: _, _ :: _, _, _ => rfl
  | _ :: _, [], _, h, _ => by cases h
  | x :: xs, y :: ys, [], _, k => by cases k
  | x :: xs, y :: ys, z :: zs, h, k => by
    have h : (if x = y then lxl xs ys else decide (x < y)) = true := h
    have k : (if y = z then lxl ys zs else decide (y < z)) = true := k
    show (if x = z then lxl xs zs else decide (x < z)) = true
    by_cases e : x = y
    · rw [if_pos e] at h
      by_cases f : y = z
      · rw [if_pos f] at k
        rw [if_pos (e.trans f)]
        exact lxl_tr xs ys zs h k
      · rw [if_neg f] at k
        rw [if_neg (by rw [e]; exact f), e]
        exact k
    · rw [if_neg e] at h
      have h1 := of_decide_eq_true h
      by_cases f : y = z
      · rw [if_neg (by rw [← f]; exact e), ← f]
        exact h
      · rw [if_neg f] at k
        have k1 := of_decide_eq_true k
        rw [if_neg (by omega)]
        exact decide_eq_true (by omega)
theorem lxl_ntr (x y z : List Int) (h : lxl y x = false) (k : lxl z y = false) : lxl z x = false := by
  cases q : lxl z x with
  | false => rfl
  | true =>
    cases r : lxl x y with
    | true =>
      rw [lxl_tr z x y q r] at k
      cases k
    | false =>
      have e := lxl_conn x y r h
      rw [e, k] at q
      cases q
theorem lxl_swo {α : Type} (k : α → List Int) : SrtO.Swo fun v u => lxl (k v) (k u) := ⟨fun x y h => lxl_asym _ _ h, fun x y z h1 h2 => by
  first
    | exact lxl_ntr (k x) (k y) (k z) h1 h2
    | exact lxl_ntr (k z) (k y) (k x) h2 h1
    | exact lxl_ntr _ _ _ h1 h2
    | exact lxl_ntr _ _ _ h2 h1⟩
section
variable {prog : Program} {w : World} {A : Around} {E : Value → Shared → Prop} {s : Shared}
/-- v is a tuple of these ints -/
def IsIT (h : Heap) (v : Value) (ns : List Int) : Prop := ∃ a o xs n, v = .ref a ∧ h.get? a = some o ∧ o.cls = .type "tuple" ∧ o.data = .seq xs n ∧ IntsAre xs.toList ns
theorem IsIT.keeps {h h' : Heap} {v : Value} {ns : List Int} (p : IsIT h v ns) (k : ∀ b o, h.get? b = some o → o.cls = .type "tuple" → h'.get? b = some o) : IsIT h' v ns := by
  obtain ⟨a, o, xs, n, e, ho, hc, hd, i⟩ := p
  exact ⟨a, o, xs, n, e, k _ _ ho hc, hc, hd, i⟩
theorem kat_lxl {Q : Bool → Shared → Prop} {A0 B0 : Nat} : ∀ {vs ws : List Value} {ns ms : List Int} (i : Nat), IntsAre vs ns → IntsAre ws ms → ns.length + B0 = ms.length + A0 → Q (lxl ns ms) s →
    PySem.W.KatLex prog w A true (decide (A0 < B0)) Q (vs.zip ws) i s
  | _, _, _, _, i, .nil, .nil, h, q => by
    refine PySem.W.kat_nil ?_
    rw [decide_eq_false (by simp at h; omega)]
    exact q
  | _, _, _, _, i, .nil, .cons b u r, h, q => by
    refine PySem.W.kat_nil ?_
    rw [decide_eq_true (by simp at h; omega)]
    exact q
  | _, _, _, _, i, .cons a t r, .nil, h, q => by
    refine PySem.W.kat_nil ?_
    rw [decide_eq_false (by simp at h; omega)]
    exact q
  | _, _, _, _, i, .cons (ns := ns) a t r, .cons (ns := ms) b u r', h, q => by
    rw [List.zip_cons_cons]
    have q : Q (if a = b then lxl ns ms else decide (a < b)) s := q
    refine PySem.W.kat_cons (SeqAt.EqAt.int_int a t b u prog w _ _ ?_)
    refine PySem.W.kat_go (fun e1 => ?_) (fun e1 => ?_)
    · have ex : a = b := by simpa using e1
      rw [if_pos ex] at q
      exact PySem.W.kat_yes (kat_lxl (i + 1) r r' (by simp at h; omega) q)
    · have ex : ¬ a = b := by simpa using e1
      rw [if_neg ex] at q
      refine PySem.W.kat_no ?_
      cases hi : (true && i == 0) with
      | true => exact oneLt_int q
      | false => exact PySem.W.kat_one _ _ (PyProof.Rows.lt_int q)
theorem it_cmp {vs : List Value} {k : Value → List Int} (hp : ∀ v ∈ vs, IsIT s.heap v (k v)) : SrtO.Cmp prog w A s (tuples' true) (fun p => p.1 ∈ vs) (SrtO.lt2 fun v u => lxl (k v) (k u)) := by
  intro p q hm hm'
  have h1 := hp _ hm
  have h2 := hp _ hm'
  show wpAny (model prog w) A (keyLt' (tuples' true) p.1 q.1) (fun r s' => s' = s ∧ r = lxl (k p.1) (k q.1)) (fun _ _ => False) s
  obtain ⟨a, o, xs, n, e, ho, hc, hd, i⟩ := h1
  obtain ⟨a', o', xs', n', e', ho', hc', hd', i'⟩ := h2
  have r : k p.1 = k p.1 ∧ k q.1 = k q.1 := ⟨rfl, rfl⟩
  generalize k p.1 = ns at i r ⊢
  generalize k q.1 = ms at i' r ⊢
  rw [e, e']
  have l1 := i.length
  have l2 := i'.length
  rw [Array.length_toList] at l1 l2
  exact PySem.W.kat_lt ho hd ho' hd' (kat_lxl 0 i i' (by omega) ⟨rfl, rfl⟩)
theorem it_firsts {h : Heap} {k : Value → List Int} : ∀ {vs : List Value}, (∀ v ∈ vs, IsIT h v (k v) ∧ k v ≠ []) → ∃ fs : List Value, PySem.W.KatTups h vs fs ∧ fs.length = vs.length ∧ ∀ f ∈ fs, ∃ x t, f = Value.int x t
  | [], _ => ⟨[], PySem.W.KatTups.nil, rfl, fun _ hm => by simp at hm⟩
  | v :: vs, hp => by
    obtain ⟨fs, h1, h2, h3⟩ := it_firsts (vs := vs) fun v' hm => hp v' (List.mem_cons_of_mem _ hm)
    obtain ⟨⟨a, o, xs, n, rfl, ho, hc, hd, i⟩, ne⟩ := hp v (List.mem_cons_self ..)
    obtain ⟨y, ys, e⟩ : ∃ y ys, xs.toList = y :: ys := by
      cases q : xs.toList with
      | nil =>
        rw [q] at i
        exact absurd (by
          have := i.length
          rw [List.length_nil] at this
          exact List.eq_nil_of_length_eq_zero this.symm) ne
      | cons y ys => exact ⟨y, ys, rfl⟩
    obtain ⟨m, t, hy⟩ : ∃ m t, y = Value.int m t := by
      rw [e] at i
      generalize k (.ref a) = l at i
      cases i with
      | cons m t r => exact ⟨m, t, rfl⟩
    refine ⟨y :: fs, PySem.W.KatTups.cons ho hc hd ?_ h1, by simp [h2], fun f hm => ?_⟩
    · have z := congrArg (fun l : List Value => l[0]?) e
      simpa using z
    · rcases List.mem_cons.mp hm with rfl | hm
      · exact ⟨m, t, hy⟩
      · exact h3 f hm
theorem it_sortable {a : Addr} {vs : List Value} {k : Value → List Int} (h0 : 0 < vs.length) (hp : ∀ v ∈ vs, IsIT s.heap v (k v) ∧ k v ≠ []) (ha : ∀ o, s.heap.get? a = some o → o.cls ≠ .type "tuple") : SrtO.SortableO prog w A s a vs fun v u => lxl (k v) (k u) := by
  intro h' keep
  have hp' : ∀ v ∈ vs, IsIT h' v (k v) ∧ k v ≠ [] := fun v hm => ⟨(hp v hm).1.keeps fun b o e c => keep b o (fun z => by subst z; exact ha o e c) e, (hp v hm).2⟩
  obtain ⟨fs, h1, h2, h3⟩ := it_firsts hp'
  refine ⟨tuples' true, fun Q E hq => ?_, it_cmp fun v hm => (hp' v hm).1⟩
  refine PySem.W.kat_kind (T := .type "int") h1 (by omega) (fun f hm => ?_) (by rfl) ?_
  · obtain ⟨x, t, rfl⟩ := h3 f hm
    exact PySem.W.Looks.now
  · have e : (Value.type "int" != Value.type "tuple") = true := by first | decide +kernel | rfl | decide
    rw [e]
    exact hq
/-! ### a tuple's items as a list -/
theorem collect_tup {l : Addr} {vs : List Value} {Q : List Value → Shared → Prop} (hl : IsTup s.heap l vs.toArray)
    (h : Q vs { s with heap := (s.heap.push (seqObj "list" #[] 0)).update s.heap.objs.size (Obj.mapSeq (· ++ vs.toArray)) }) (hsz : vs.length ≤ sizeLine) :
    wpAny (model prog w) A (collect (.ref l)) Q E s := by
  obtain ⟨o, ho, hc, n, hd⟩ := id hl
  unfold collect
  refine wpAny_bind (wpAny_runValue (codeAny_builtin entry_proto_collect' ?_))
  show wpAny _ _ (do again (.builtin "list.__iadd__" ⟨[← newList [], .ref l], []⟩)) _ _ s
  refine wpAny_bind (wpAny_newList (wpAny_pure ⟨Code.quiet_builtin _ (by decide +kernel), codeAny_builtin entry_list_iadd' ?_⟩))
  show wpAny _ _ (Builtin.List.listExtendWith (.ref s.heap.objs.size) (.ref l) (.ref s.heap.objs.size)) _ _ { s with heap := s.heap.push (seqObj "list" #[] 0) }
  unfold Builtin.List.listExtendWith
  have ho' : (s.heap.push (seqObj "list" #[] 0)).get? l = some o := Heap.get?_push_of_some _ ho
  refine wpAny_bind (wpAny_typeOf (T := "tuple") ⟨o, ho', hc⟩ ?_)
  have ht : (Value.type "tuple" == Value.type "tuple") = true := by rfl
  rw [if_pos (by rw [ht]; simp)]
  refine wpAny_bind (listItems_at ho' hd ?_)
  refine wpAny_bind (listItems_at (xs := #[]) (n := 0) (Heap.get?_push_size _ rfl) rfl ?_)
  rw [if_neg (by simp)]
  refine wpAny_bind (listUpdate_at (xs := #[]) (n := 0) (Heap.get?_push_size _ rfl) rfl ?_ (Nat.zero_le _) (by show (#[] ++ vs.toArray).size ≤ sizeLine + 1; simp only [Array.size_append, List.size_toArray, List.length_nil]; omega))
  refine wpAny_pure ?_
  show wpAny (model prog w) A (do
      let o ← load s.heap.objs.size
      match o.data with
      | .seq xs _ => pure xs.toList
      | _ => unsupported "internal:collect") Q E { s with heap := (s.heap.push (seqObj "list" #[] 0)).update s.heap.objs.size (Obj.mapSeq (· ++ vs.toArray)) }
  refine wpAny_bind (wpAny_load (get?_update_seq (Heap.get?_push_size _ rfl) _) ?_)
  show wpAny _ _ (pure ((#[] : Array Value) ++ vs.toArray).toList) Q E _
  rw [show ((#[] : Array Value) ++ vs.toArray).toList = vs by simp]
  exact wpAny_pure h
open SrtO in
theorem sorted_ordT {l : Addr} {vs : List Value} {ltv : Value → Value → Bool} {Q : Value → Shared → Prop} (O : Swo ltv) (hl : IsTup s.heap l vs.toArray) (hz : vs.length ≤ sizeLine)
    (hS : 2 ≤ vs.length → ∀ (h₁ : Heap) (a : Addr), h₁.get? a = some (seqObj "list" vs.toArray 0) → (∀ b o, s.heap.get? b = some o → b ≠ a ∧ h₁.get? b = some o) → SortableO prog w A.in1.in1 { s with heap := h₁ } a vs ltv)
    (h : ∀ out : List Value, Srtd ltv out → Stb ltv out vs → Q (.ref (s.heap.objs.size + 1)) { s with heap := sortedAll s.heap vs out.toArray }) :
    wpAny (model prog w) A (call (.builtin "sorted") [.ref l]) Q E s := by
  refine Calls.call_function_entry kind_sorted plain_sorted entry_sorted (args_sorted1 _) ?_
  unfold Builtin.«sorted»
  refine wpAny_bind (m := checkCount "sorted" 1 1 _) (wpAny_pure ?_)
  refine wpAny_bind (collect_tup hl ?_ hz)
  refine wpAny_bind (wpAny_newList ?_ hz)
  have hsz : ((s.heap.push (seqObj "list" #[] 0)).update s.heap.objs.size (Obj.mapSeq (· ++ vs.toArray))).objs.size = s.heap.objs.size + 1 := by
    rw [Heap.size_update, size_push']
  have hoL : (((s.heap.push (seqObj "list" #[] 0)).update s.heap.objs.size (Obj.mapSeq (· ++ vs.toArray))).push (seqObj "list" vs.toArray 0)).get? (s.heap.objs.size + 1) = some (seqObj "list" vs.toArray 0) := by
    rw [← hsz]; exact Heap.get?_push_size _ rfl
  have keep : ∀ b o, s.heap.get? b = some o → b ≠ s.heap.objs.size + 1 ∧ (((s.heap.push (seqObj "list" #[] 0)).update s.heap.objs.size (Obj.mapSeq (· ++ vs.toArray))).push (seqObj "list" vs.toArray 0)).get? b = some o := fun b o q => by
    have hlt : b < s.heap.objs.size := Heap.lt_size q
    refine ⟨Nat.ne_of_lt (Nat.lt_succ_of_lt hlt), Heap.get?_push_of_some _ ?_⟩
    rw [Heap.get?_update_ne _ _ _ _ (Nat.ne_of_lt hlt)]
    exact Heap.get?_push_of_some _ q
  show wpAny _ _ _ _ _ { s with heap := ((s.heap.push (seqObj "list" #[] 0)).update s.heap.objs.size (Obj.mapSeq (· ++ vs.toArray))).push (seqObj "list" vs.toArray 0) }
  rw [hsz]
  refine wpAny_bind (wpAny_holding (wpAny_call_entry slot_list_sort ⟨_, hoL, rfl⟩ entry_list_sort (list_sort_ord O hoL hz (fun h2 => hS h2 _ _ hoL keep) fun out hs hb => ⟨_, rfl, ?_⟩) (args_list_sort _)))
  exact wpAny_pure ⟨_, rfl, h out hs hb⟩
end
end Rng
namespace Rng
open PySem PySem.Spec PyProof.Rows L2
/-- sorted(xs) of tuples of ints: sorted, the same items -/
def rSortLx (K : PySem.W.Frag) : List V → Hp → VK → Prop := fun vs H Q => ∃ (a : Addr) (xs : List V) (k : V → List Int), vs = [V.ref a] ∧ (SqL K H a xs ∨ SqT K H a xs) ∧ (∀ x ∈ xs, ∃ t, x = V.ref t ∧ H t = some (.tup ((k x).map V.int)) ∧ k x ≠ []) ∧
  ∀ ys p, ys.Pairwise (fun x y => lxl (k y) (k x) = false) → ys.Perm xs → H p = none → Q (.ref p) (upd H p (.lst ys))
/-- sorted(xs) of ints, xs a tuple -/
def rSortIT (K : PySem.W.Frag) : List V → Hp → VK → Prop := fun vs H Q => ∃ (a : Addr) (ns : List Int), vs = [V.ref a] ∧ (SqL K H a (ns.map V.int) ∨ SqT K H a (ns.map V.int)) ∧
  ∀ (ns' : List Int) (p : Addr), ns'.Perm ns → ns'.Pairwise (· ≤ ·) → H p = none → Q (.ref p) (upd H p (.lst (ns'.map V.int)))
section
variable {X : Cx}
theorem cr_sortLx : CallR X (.builtin "sorted") (rSortLx X.K) := by
  intro pins s σ H vs us Q I r h
  obtain ⟨a, xs, k, rfl, hs, hx, q⟩ := h
  obtain ⟨u, rfl, ru⟩ := vals1 r
  obtain rfl : u = Value.ref a := ru
  have main : ∀ (its : List Value), Vals xs its → xs.length ≤ sizeLine → (∀ v ∈ its, IsIT s.heap v (k (backV v)) ∧ k (backV v) ≠ []) ∧ (∀ v ∈ its, ∃ a, v = Value.ref a) ∧ xs = its.map backV := fun its rv hz => by
    obtain ⟨e1, e2⟩ := refs_back rv fun x m => by
      obtain ⟨t, e, _⟩ := hx x m
      exact ⟨t, e⟩
    refine ⟨fun v hv => ?_, e2, e1⟩
    obtain ⟨t, rfl⟩ := e2 v hv
    have hm : V.ref t ∈ xs := by rw [e1]; exact List.mem_map.mpr ⟨_, hv, rfl⟩
    obtain ⟨t', e, ht, ne⟩ := hx _ hm
    cases e
    obtain ⟨_, its2, r2, o, ho, hc, n, hd⟩ := I.hok _ _ ht
    exact ⟨⟨t, o, _, n, rfl, ho, hc, hd, (show IntsAre its2.toArray.toList (k (V.ref t)) from by simpa using intsAre_of r2)⟩, ne⟩
  have fin : ∀ (its : List Value), Vals xs its → xs.length ≤ sizeLine → (∀ v ∈ its, ∃ a, v = Value.ref a) → xs = its.map backV → ∀ (h' : Heap) (d : Addr) (out : List Value), SrtO.Srtd (fun v u => lxl (k (backV v)) (k (backV u))) out → SrtO.Stb (fun v u => lxl (k (backV v)) (k (backV u))) out its →
      (∀ b o, s.heap.get? b = some o → h'.get? b = some o) → s.heap.objs.size ≤ d → (∃ n, h'.get? d = some (seqObj "list" out.toArray n)) → EP X pins σ Q (.ref d) { s with heap := h' } := fun its rv hz e2 e1 h' d out h1 h2 kp hd hn => by
    have h3 : ∀ u ∈ out, ∃ a, u = Value.ref a := fun u hu => e2 u (h2.perm.mem_iff.mp hu)
    obtain ⟨n, hn⟩ := hn
    have hp : (out.map backV).Perm xs := by
      rw [e1]
      exact h2.perm.map backV
    refine ⟨.ref d, upd H d (.lst (out.map backV)), I.laid (t' := s.toks) kp hd ⟨?_, out, n, vals_back h3, hn⟩, rfl, q _ d ?_ hp (I.hok.fresh hd)⟩
    · rw [hp.length_eq]
      exact hz
    · exact List.pairwise_map.mpr h1
  rcases hs with hs | hs
  · obtain ⟨its, rv, hl, hz⟩ := I.list hs
    obtain ⟨m1, m2, m3⟩ := main its rv hz
    refine SrtO.sorted_ord (lxl_swo fun v => k (backV v)) hl.isList (by rw [← rv.length]; exact hz) (fun h2 h₁ a' ha kk => ?_) fun out hs hb => ?_
    · refine it_sortable (s := { s with heap := h₁ }) (by omega) (fun v hm => ⟨(m1 v hm).1.keeps fun b o e _ => (kk b o e).2, (m1 v hm).2⟩) fun o e => ?_
      have e' : some o = some (seqObj "list" its.toArray 0) := e.symm.trans ha
      cases e'
      intro c
      exact absurd (Value.type.inj c) (by decide)
    · exact fin its rv hz m2 m3 _ _ out hs hb (fun b o e => sortedAll_old e) (Nat.le_succ _) (sortedAll_at s.heap its out.toArray)
  · obtain ⟨its, rv, hl, hz⟩ := I.tuple hs
    obtain ⟨m1, m2, m3⟩ := main its rv hz
    refine sorted_ordT (lxl_swo fun v => k (backV v)) hl (by rw [← rv.length]; exact hz) (fun h2 h₁ a' ha kk => ?_) fun out hs hb => ?_
    · refine it_sortable (s := { s with heap := h₁ }) (by omega) (fun v hm => ⟨(m1 v hm).1.keeps fun b o e _ => (kk b o e).2, (m1 v hm).2⟩) fun o e => ?_
      have e' : some o = some (seqObj "list" its.toArray 0) := e.symm.trans ha
      cases e'
      intro c
      exact absurd (Value.type.inj c) (by decide)
    · exact fin its rv hz m2 m3 _ _ out hs hb (fun b o e => sortedAll_old e) (Nat.le_succ _) (sortedAll_at s.heap its out.toArray)
theorem vals_ints : ∀ {us : List Value} {ns : List Int}, IntsAre us ns → Vals (ns.map V.int) us
  | _, _, .nil => .nil
  | _, _, .cons n t r => .cons ⟨t, rfl⟩ (vals_ints r)
theorem cr_sortIT : CallR X (.builtin "sorted") (rSortIT X.K) := by
  intro pins s σ H vs us Q I r h
  obtain ⟨a, ns, rfl, hs, q⟩ := h
  rcases hs with hs | hs
  · exact cr_sortedI pins s σ H _ us Q I r ⟨a, ns, rfl, hs, q⟩
  · obtain ⟨u, rfl, ru⟩ := vals1 r
    obtain rfl : u = Value.ref a := ru
    obtain ⟨its, rv, hl, hz⟩ := I.tuple hs
    have hI := intsAre_of rv
    have hlen : its.length = ns.length := by
      have := rv.length
      rw [List.length_map] at this
      omega
    refine sorted_ordT SrtO.swo_int hl (by rw [← rv.length]; exact hz) (fun h2 h₁ a' ha kk => SrtO.ints_sortable hI h2) fun out hs hb => ?_
    obtain ⟨i1, i2, i3⟩ := SrtO.ints_out hI hs hb
    obtain ⟨n, hn⟩ := sortedAll_at s.heap its out.toArray
    refine ⟨.ref (s.heap.objs.size + 1), upd H (s.heap.objs.size + 1) (.lst ((out.map SrtO.iv).map V.int)), I.laid (t' := s.toks) (fun b o e => sortedAll_old e) (Nat.le_succ _) ⟨?_, out, n, vals_ints i1, hn⟩, rfl, q _ _ i2 i3 (I.hok.fresh (Nat.le_succ _))⟩
    rw [List.length_map, i2.length_eq]
    rw [List.length_map] at hz
    exact hz
end
end Rng
/-! rules of the layer that it lacks -/
namespace Rng
open PySem PySem.Spec PyProof.Rows L2
/-! ### a < b < c < d -/
section
variable {X : Cx} {a b c d : Expr} {ta tb tc td : TE} {pos : Pos}
def tChain3 (r1 r2 r3 : R2) (ta tb tc td : TE) : TE := fun σ H Q => ta σ H fun x H1 => tb σ H1 fun y H2 => r1 x y H2 fun z H3 => ∃ k, z = .bl k ∧
  (if k = true then tc σ H3 fun y2 H4 => r2 y y2 H4 fun z2 H5 => ∃ k2, z2 = .bl k2 ∧ (if k2 = true then td σ H5 fun y3 H6 => r3 y2 y3 H6 Q else Q (.bl false) H5) else Q (.bl false) H3)
theorem pt_chain3 {o1 o2 o3 : CmpOp} {r1 r2 r3 : R2} (h1 : OpR X (compareOp o1) r1) (h2 : OpR X (compareOp o2) r2) (h3 : OpR X (compareOp o3) r3) (ha : PE X a ta) (hb : PE X b tb) (hc : PE X c tc) (hd : PE X d td)
    (hm : lastMarks [o1, o2, o3] [b, c, d] = false := by with_unfolding_all rfl) : PT X (.Compare a [o1, o2, o3] [b, c, d] pos) (tTest (tChain3 r1 r2 r3 ta tb tc td)) := by
  refine ⟨fun pins s σ H Q I h => ?_⟩
  refine isTrue_chain (thn (ha.run pins s σ H _ I h) fun v s1 ⟨x, H1, I1, rx, q1⟩ => test_link (thn (hb.run pins s1 σ H1 _ I1 q1) fun u s2 ⟨y, H2, I2, ry, q2⟩ =>
    thn (h1 pins s2 σ H2 x y v u _ I2 rx ry q2) fun e s3 ⟨z, H3, I3, rz, k, ez, q3⟩ => ?_)) hm
  subst ez
  cases rz
  refine wpAny_truthy_bool ?_
  cases k with
  | false =>
    obtain ⟨k', e', q'⟩ := q3
    cases e'
    exact ite_ff ⟨H3, I3, q'⟩
  | true =>
    refine ite_tt (test_link (thn (hc.run pins s3 σ H3 _ I3 q3) fun u2 s4 ⟨y2, H4, I4, ry2, q4⟩ => thn (h2 pins s4 σ H4 y y2 u u2 _ I4 ry ry2 q4) fun e s5 ⟨z2, H5, I5, rz2, k2, ez2, q5⟩ => ?_))
    subst ez2
    cases rz2
    refine wpAny_truthy_bool ?_
    cases k2 with
    | false =>
      obtain ⟨k', e', q'⟩ := q5
      cases e'
      exact ite_ff ⟨H5, I5, q'⟩
    | true =>
      refine ite_tt (test_last (thn (hd.run pins s5 σ H5 _ I5 q5) fun u3 s6 ⟨y3, H6, I6, ry3, q6⟩ => thn (h3 pins s6 σ H6 y2 y3 u2 u3 _ I6 ry2 ry3 q6) fun e s7 ⟨z3, H7, I7, rz3, k3, ez3, q7⟩ => ?_))
      subst ez3
      cases rz3
      exact wpAny_truthy_bool ⟨H7, I7, q7⟩
end
/-! ### x in t, x not in t, t a tuple of data -/
def rInT (K : PySem.W.Frag) : R2 := fun x y H Q => ∃ d ds, Dp K H x d ∧ Dp K H y (.tuple ds) ∧ SeqAt.shaped d = true ∧ SeqAt.shaped (.tuple ds) = true ∧ Q (.bl (ds.any fun z => PyData.eqv z d)) H
def rNotInT (K : PySem.W.Frag) : R2 := fun x y H Q => ∃ d ds, Dp K H x d ∧ Dp K H y (.tuple ds) ∧ SeqAt.shaped d = true ∧ SeqAt.shaped (.tuple ds) = true ∧ Q (.bl (!ds.any fun z => PyData.eqv z d)) H
section
variable {X : Cx}
theorem op_inT (hu : X.A.units + 65 < cLine) : OpR X (compareOp .In) (rInT X.K) := by
  intro pins s σ H x y v u Q I rx ry h
  obtain ⟨d, ds, hd, he, sd, se, q⟩ := h
  obtain ⟨as, r1⟩ := Dp.reads I d x v hd rx
  obtain ⟨bs, r2⟩ := Dp.reads I (.tuple ds) y u he ry
  exact SeqAt.in_tuple_reads r2 r1 (SeqAt.canLay_of_shaped se) (SeqAt.canLay_of_shaped sd) (room_in_shaped sd hu) ⟨.bl _, H, I, rfl, q⟩
theorem op_notInT (hu : X.A.units + 65 < cLine) : OpR X (compareOp .NotIn) (rNotInT X.K) := by
  intro pins s σ H x y v u Q I rx ry h
  obtain ⟨d, ds, hd, he, sd, se, q⟩ := h
  obtain ⟨as, r1⟩ := Dp.reads I d x v hd rx
  obtain ⟨bs, r2⟩ := Dp.reads I (.tuple ds) y u he ry
  exact SeqAt.notIn_tuple_reads r2 r1 (SeqAt.canLay_of_shaped se) (SeqAt.canLay_of_shaped sd) (room_in_shaped sd hu) ⟨.bl _, H, I, rfl, q⟩
/-! ### set(t) of a tuple of ints; len of a set of tuples -/
def rSetIT (K : PySem.W.Frag) (w : World) : List V → Hp → VK → Prop := fun xs H Q => ∃ (l : Addr) (ns : List Int), xs = [V.ref l] ∧ SqT K H l (ns.map V.int) ∧ ns.length ≤ 60 ∧ ∀ a n, H a = none → n ≤ ns.length → Q (.ref a) (upd H a (SetO w a (fun j => decide (j ∈ ns)) n))
theorem cr_setIT (hc : X.calm = true) : CallR X (.type "set") (rSetIT X.K X.w) := by
  intro pins s σ H xs us Q I r h
  obtain ⟨l, ns, rfl, hl, hz, q⟩ := h
  rw [Vals.ref1 r]
  obtain ⟨its, rv, pl, hz2⟩ := I.tuple hl
  have hn : H s.heap.objs.size = none := I.hok.fresh (Nat.le_refl _)
  refine call_set_tupI (P := X.prog) (w := X.w) ns (I.ok.hd hc) (show s.heap.IsTuple l its.toArray from pl) (by simpa using intsAre_of rv) (by unfold scanBound; omega) fun h' tk c R hcn k => ?_
  exact ⟨.ref s.heap.objs.size, upd H s.heap.objs.size (SetO X.w s.heap.objs.size (fun j => decide (j ∈ ns)) c), I.laid (t' := tk) k (Nat.le_refl _) (setO_new R), rfl, q _ c hn hcn⟩
def rLenST (P : Program) (w : World) : List V → Hp → VK → Prop := fun xs H Q => ∃ (a : Addr) (L : List (Addr × List Int)), xs = [V.ref a] ∧ H a = some (SetTO P w a L) ∧ ((L.map (·.2)).Nodup → Q (.int (L.length : Int)) H)
theorem cr_lenST : CallR X (.builtin "len") (rLenST X.prog X.w) := by
  intro pins s σ H xs us Q I r h
  obtain ⟨a, L, rfl, ha, q⟩ := h
  rw [Vals.ref1 r]
  obtain ⟨R, _⟩ := I.hok a _ ha
  obtain ⟨es, ep, t, ⟨o, ho, hx, hd⟩, hrow, tab, nd, hp, hled, hroom, hfew⟩ := R.ex
  have hs : es.size = L.length := by
    have e := congrArg List.length hrow
    rw [Array.length_toList] at e
    rw [e]
    unfold rowsOf
    rw [List.length_map]
  have hf : t.fits es.size = true := by
    rw [hs]
    have e1 := tab.sz
    rw [List.length_map] at e1
    unfold SetTable.fits SetTable.fill
    rw [tab.dm, Bool.and_eq_true, beq_iff_eq, decide_eq_true_eq]
    show t.place.size = L.length ∧ t.place.size + 0 ≤ t.mask
    omega
  refine call_len_set ho hx hd hf (by rw [hs]; omega) ?_
  exact ⟨.int es.size, H, I.tok _, ⟨_, rfl⟩, by rw [hs]; exact q nd⟩
end
end Rng
/-! ### enumerate(t) of a tuple -/
namespace Rng
open PySem PySem.Spec PyProof.Rows
theorem meets_enumerate_one {v : Value} {o : Obj} {H : Heap → Prop} (B : Begins v o H) :
    Meets (Builtin.«enumerate.__new__» ⟨[.type "enumerate", v], []⟩) (fun _ R s => H s.heap ∧
      R (.ok (.ret (.ref (s.heap.push o).objs.size))) { s with heap := (s.heap.push o).push { cls := .type "enumerate", data := .fields #[.none, .bool false, .ref s.heap.objs.size, rawInt 0, .none, .none] } }) :=
  .of_wp fun prog w A R s h => by
    obtain ⟨hp, g, d, tk, os⟩ := s; obtain ⟨h1, h⟩ := h
    have hsub := sub_enumerate
    have q1 : ∀ {A' : Around} {E : Value → Shared → Prop} {Q : Value → Shared → Prop}, Q (.ref hp.objs.size) ⟨hp.push o, g, d, tk, os⟩ → wpAny (model prog w) A' (pyIter v) Q E ⟨hp, g, d, tk, os⟩ :=
      fun q => B.iter prog w _ _ ⟨hp, g, d, tk, os⟩ _ h1 q
    wp_walk using q1
    refine wpAny_stack_any fun st => wpAny_pure ?_
    split
    · rename_i c _ _ _ _ _
      cases (c == Value.type "enumerate")
      · wp_walk using q1
        exact ⟨_, rfl, h⟩
      · wp_walk using q1
        exact ⟨_, rfl, h⟩
    · wp_walk using q1
      exact ⟨_, rfl, h⟩
section
variable {prog : Program} {w : World} {A : Around} {E : Value → Shared → Prop} {s : Shared}
theorem call_enumerate_one {v : Value} {o : Obj} {H : Heap → Prop} {Q : Value → Shared → Prop} (B : Begins v o H) (h1 : H s.heap)
    (h : ∀ h', IsEnum h' (s.heap.objs.size + 1) s.heap.objs.size 0 .none → h'.get? s.heap.objs.size = some o → h'.objs.size = s.heap.objs.size + 2 →
      (∀ b o, s.heap.get? b = some o → h'.get? b = some o) → Q (.ref (s.heap.objs.size + 1)) { s with heap := h' }) :
    wpAny (model prog w) A (call (.type "enumerate") [v]) Q E s := by
  refine callType_new F.called_enumerate (by decide) (F.typeCall_enumerate_1 _) (F.newCall_enumerate_1 _) (fun obj => F.args_object_init_2 obj _) F.entry_enumerate_new
    (meets_enumerate_one B) ⟨h1, ?_⟩
  have hz : (s.heap.push o).objs.size = s.heap.objs.size + 1 := Heap.size_push ..
  show _ ∧ _
  rw [hz]
  have he : IsEnum ((s.heap.push o).push { cls := .type "enumerate", data := .fields #[.none, .bool false, .ref s.heap.objs.size, rawInt 0, .none, .none] }) (s.heap.objs.size + 1) s.heap.objs.size 0 .none := by
    have := Heap.get?_push_size (s.heap.push o) (o := { cls := .type "enumerate", data := .fields #[.none, .bool false, .ref s.heap.objs.size, rawInt 0, .none, .none] }) rfl
    rw [hz] at this; exact this
  refine ⟨⟨_, he, rfl⟩, h _ he (Heap.get?_push_of_some _ (Heap.get?_push_size _ B.free)) (by rw [Heap.size_push, hz]) fun b o x => Heap.get?_push_of_some _ (Heap.get?_push_of_some _ x)⟩
end
end Rng
namespace Rng
open PySem PySem.Spec PyProof.Rows L2
def IteT (K : PySem.W.Frag) (a : Addr) : It :=
  ⟨fun i H => ∃ (xs : List V) (x : V), SqT K H a xs ∧ xs[i]? = some x, fun i H v H' => ∃ T x, v = .ref T ∧ H T = none ∧ H' = upd H T (.tup [.int (i : Nat), x]) ∧ ∀ xs, SqT K H a xs → xs[i]? = some x, fun i H => ∃ xs : List V, SqT K H a xs ∧ xs.length ≤ i⟩
theorem turn_enumT {P : Program} {w : World} {K : PySem.W.Frag} {elts : List Expr} {kk : Nat} {tpos : Pos} (a e it : Addr) (hai : a ≠ it) (hae : a ≠ e) :
    Turn P w K (.Tuple elts kk tpos) (IteT K a) [e, it] e (fun i h => (∃ old, IsEnum h e it ((i : Nat) : Int) old) ∧ h.IsTupleIter it a i ∧ e ≠ it) where
  mem := by simp
  obj := fun i h st b hb => by
    obtain ⟨⟨old, he⟩, ⟨o, ho, hc, hd⟩, _⟩ := st
    have e' : b = e ∨ b = it := by simpa using hb
    rcases e' with z | z
    · rw [z]; exact ⟨_, he, fun v q => nomatch q⟩
    · rw [z]; exact ⟨o, ho, fun v q => by rw [hd] at q; cases q⟩
  keep := fun i h h' st k => let ⟨⟨old, he⟩, hi, hne⟩ := st; ⟨⟨old, k e (by simp) _ he⟩, hi.at fun o q => k it (by simp) o q, hne⟩
  item := by
    intro X hP hw hK hc i pins s σ H E I hf st hg
    subst hP hw hK
    obtain ⟨⟨old, he⟩, hit, hne⟩ := st
    obtain ⟨xs, x, hq, hx⟩ := hg
    obtain ⟨its, rv, p, hz⟩ := I.tuple hq
    obtain ⟨u, hu, ru⟩ := rv.get hx
    have hel : e < s.heap.objs.size := Heap.lt_size he
    have hil : it < s.heap.objs.size := by obtain ⟨_, q, _⟩ := hit; exact Heap.lt_size q
    have hu' : its.toArray[i]? = some u := by simpa using hu
    have hlt : i < its.toArray.size := (Array.getElem?_eq_some_iff.mp hu').1
    have hh1 : X.A.in1.handled = none := I.ok.hd hc
    refine wpAny_pyNext_enum_itemD (Draws.tuple (prog := X.prog) (w := X.w) (A := X.A.in1) hh1 it a hai its.toArray) he ⟨hit, show s.heap.IsTuple a its.toArray from p⟩ hlt hne (by simp [hne, Ne.symm hae]) fun y h' tk hy ho hst' hT hsz hk => ?_
    have ey : y = u := by
      have hy' : its.toArray[i]? = some y := hy
      rw [hu'] at hy'
      exact (Option.some.inj hy').symm
    subst ey
    obtain ⟨hit', _⟩ := hst'
    refine ⟨_, rfl, wpAny_letOwnedTupleGo_enum (s := { s with heap := h', toks := tk + 1 }) ho fun h'' he' sb => ?_⟩
    have hT2 : h''.get? s.heap.objs.size = some { cls := .type "tuple", data := .seq #[.int i tk, y] } := (sb.2 _ (Nat.ne_of_gt hel)).trans hT
    have new : ObjOk X.prog X.w (upd H s.heap.objs.size (.tup [.int (i : Nat), x])) h'' s.heap.objs.size (.tup [.int (i : Nat), x]) :=
      ⟨by show 2 ≤ sizeLine; decide, [.int i tk, y], .cons ⟨_, rfl⟩ (.cons ru .nil), ⟨_, hT2, rfl, _, rfl⟩⟩
    have I1 : Inv X pins σ (upd H s.heap.objs.size (.tup [.int (i : Nat), x])) { s with heap := h'', toks := tk + 1 } :=
      I.turnedNew (ch := [e, it]) (fun b ob hb q => (sb.2 b (fun z => hb (by simp [z]))).trans (hk b ob (fun z => hb (by simp [z])) (fun z => hb (by simp [z])) q)) hf (Nat.le_refl _) new
    refine ⟨.ref s.heap.objs.size, _, I1, rfl, ⟨_, x, rfl, I.hok.fresh (Nat.le_refl _), rfl, fun ys hy => by rw [I.tuple_inj hy hq]; exact hx⟩, ⟨⟨y, ?_⟩, hit'.at fun o q => (sb.2 it (Ne.symm hne)).trans q, hne⟩, fun b hb => ?_⟩
    · have e1 : ((i + 1 : Nat) : Int) = (i : Int) + 1 := by omega
      rw [e1]; exact he'
    · have hb' : b < s.heap.objs.size := by
        have e' : b = e ∨ b = it := by simpa using hb
        rcases e' with z | z
        · rw [z]; exact hel
        · rw [z]; exact hil
      rw [upd_ne (Nat.ne_of_lt hb')]
      exact (hf b hb).1
  done := by
    intro X hP hw hK hc i pins s σ H E I hf st hg
    subst hP hw hK
    obtain ⟨⟨old, he⟩, hit, hne⟩ := st
    obtain ⟨xs, hq, hx⟩ := hg
    obtain ⟨its, rv, p, hz⟩ := I.tuple hq
    obtain ⟨f0, f1, f2, f3, f4, f5⟩ := hf it (by simp)
    have hl := rv.length
    have hh1 : X.A.in1.handled = none := I.ok.hd hc
    have hT : s.TypeIs (.ref e) "enumerate" := ⟨_, he, rfl⟩
    unfold pyNext
    refine wpAny_bind (wpAny_attempt (wpAny_callSpecial?_slot (name := Str.ofString "__next__") hT F.slot_enumerate_next
      (wpAny_call_entry F.slot_enumerate_next hT F.entry_enumerate_next ?_ (F.args_enumerate_next_1 _))))
    show wpAny _ _ (field (.ref e) 2 >>= _) _ _ _
    refine wpAny_bind (wpAny_field he rfl (x := .ref it) rfl ?_)
    refine wpAny_bind (wpAny_nextOf_tuple_end hh1 hit (show s.heap.IsTuple a its.toArray from p) (by simp; omega) fun h' x he' hx' => ?_)
    obtain ⟨o, ho, hcl⟩ := hx'
    refine wpAny_bind (wpAny_isInstance (T := "StopIteration") (b := true) ⟨o, ho, hcl⟩ isSubtype_stop ?_)
    exact wpAny_pure ⟨rfl, I.turned (t' := s.toks) (fun b o hb q => he' b o hb q) f0 f1 f3 f4 f5⟩
  self := fun A i s Q E st h => let ⟨⟨_, he⟩, _⟩ := st; wpAny_pyIter_enum he h
def iEnumT (K : PySem.W.Frag) (ta : TA) : TI := fun σ H R => ta σ H fun vs H1 => ∃ a xs, vs = [.ref a] ∧ SqT K H1 a xs ∧ R (IteT K a) H1
theorem pi_enumT {X : Cx} {e : Expr} {ta : TA} {p pos tpos : Pos} {elts : List Expr} {kk : Nat} (hg : Gl X "enumerate") (hm : X.mg "enumerate" = none) (ha : PA X [e] ta) (hs : starEach [e] X.env = [(false, eval e X.env)] := by rfl) :
    PI X (.Tuple elts kk tpos) (.Call (.Name "enumerate" p) [e] [] pos) (iEnumT X.K ta) := by
  refine ⟨fun pins s σ H R I h => ?_⟩
  refine Call_ (ld_blt I hg hm boot_enumerate (PyProof.Rows.callWith_type1 (thn (ha.run pos pins s σ H _ I h) fun us s1 ⟨vs, H1, I1, r1, q1⟩ => ?_) hs rfl))
  obtain ⟨a, xs, ex, hq, q⟩ := q1
  subst ex
  cases r1 with
  | cons r rr =>
    cases rr
    cases r
    obtain ⟨its, rv, p', hz⟩ := I1.tuple hq
    have hlt : a < s1.heap.objs.size := p'.lt
    refine call_enumerate_one (begins_tuple a its.toArray) (show s1.heap.IsTuple a its.toArray from p') fun h' he hit hsz hk => wpAny_pyIter_enum he ?_
    have I2 : Inv X pins σ H1 { s1 with heap := h' } := I1.kept (t' := s1.toks) hk
    refine ⟨s1.heap.objs.size + 1, [s1.heap.objs.size + 1, s1.heap.objs.size], _, _, H1, rfl, I2, turn_enumT a (s1.heap.objs.size + 1) s1.heap.objs.size (Nat.ne_of_lt hlt) (Nat.ne_of_lt (Nat.lt_succ_of_lt hlt)), ⟨⟨.none, he⟩, ⟨_, hit, rfl, rfl⟩, Nat.succ_ne_self _⟩, fun b hb => ?_, q⟩
    have e' : b = s1.heap.objs.size + 1 ∨ b = s1.heap.objs.size := by simpa using hb
    have hle : s1.heap.objs.size ≤ b := by
      rcases e' with z | z
      · rw [z]; exact Nat.le_add_right _ _
      · rw [z]; exact Nat.le_refl _
    exact I1.fpOk hle (I1.hok.fresh hle)
end Rng
/-! sum(xs, y) of lists, of tuples -/
namespace Rng
open PySem PySem.Spec PyProof.Rows
/-- what two sequences of one kind do under + -/
structure SeqK (prog : Program) (w : World) (T : String) (P : Heap → Addr → List Value → Prop) : Prop where
  ty : ∀ h a xs, P h a xs → ∃ o, h.get? a = some o ∧ o.cls = .type T
  stay : ∀ h h' a xs, P h a xs → (∀ o, h.get? a = some o → h'.get? a = some o) → P h' a xs
  inj : ∀ {h a xs ys}, P h a xs → P h a ys → xs = ys
  add : ∀ (A : Around) (E : Value → Shared → Prop) (s : Shared) (a b : Addr) (xs ys : List Value) (Q : Value → Shared → Prop), P s.heap a xs → P s.heap b ys → xs.length + ys.length ≤ sizeLine →
    (∀ h' c, (∀ b o, s.heap.get? b = some o → h'.get? b = some o) → P h' c (xs ++ ys) → (s.heap.objs.size ≤ c ∨ c = a ∨ c = b) → Q (.ref c) { s with heap := h' }) → wpAny (model prog w) A (binaryOp .Add (.ref a) (.ref b)) Q E s
abbrev PLst (h : Heap) (a : Addr) (xs : List Value) : Prop := ∃ n, h.get? a = some { cls := .type "list", data := .seq xs.toArray n }
abbrev PTup (h : Heap) (a : Addr) (xs : List Value) : Prop := IsTup h a xs.toArray
theorem seqK_list (prog : Program) (w : World) : SeqK prog w "list" PLst where
  ty := fun h a xs ⟨n, e⟩ => ⟨_, e, rfl⟩
  stay := fun h h' a xs ⟨n, e⟩ k => ⟨n, k _ e⟩
  inj := fun {h a xs ys} ⟨n, e⟩ ⟨m, e2⟩ => by
    rw [e] at e2
    have e3 : (Data.seq xs.toArray n) = .seq ys.toArray m := congrArg (fun o : Obj => o.data) (Option.some.inj e2)
    injection e3 with e4 _
    simpa using congrArg Array.toList e4
  add := fun A E s a b xs ys Q ⟨n, e⟩ ⟨m, e2⟩ hz k => by
    refine PySem.P.add_list e e2 ?_ (by rw [List.size_toArray, List.size_toArray]; exact hz)
    have ea : xs.toArray ++ ys.toArray = (xs ++ ys).toArray := by simp
    rw [ea]
    exact k _ _ (fun b o q => Heap.get?_push_of_some _ q) ⟨0, Heap.get?_push_size _ rfl⟩ (.inl (Nat.le_refl _))
theorem seqK_tup (prog : Program) (w : World) : SeqK prog w "tuple" PTup where
  ty := fun h a xs ⟨o, e, c, _⟩ => ⟨o, e, c⟩
  stay := fun h h' a xs ⟨o, e, r⟩ k => ⟨o, k _ e, r⟩
  inj := fun {h a xs ys} ⟨o, e, _, n, d⟩ ⟨o2, e2, _, m, d2⟩ => by
    rw [e] at e2
    cases e2
    rw [d] at d2
    injection d2 with e4 _
    simpa using congrArg Array.toList e4
  add := fun A E s a b xs ys Q p1 p2 hz k => by
    by_cases hx : xs = []
    · subst hx
      exact L2.cat_tup0 p1 p2 (k s.heap b (fun _ _ q => q) p2 (.inr (.inr rfl)))
    · refine HT.cat_tup p1 p2 hx (fun e => ?_) (fun _ => ?_) hz
      · subst e
        exact k s.heap a (fun _ _ q => q) (by rw [List.append_nil]; exact p1) (.inr (.inl rfl))
      · exact k _ _ (fun b o q => Heap.get?_push_of_some _ q) (IsTup.new _ _) (.inl (Nat.le_refl _))
section
variable {prog : Program} {w : World} {A : Around} {R : Result → Shared → Prop} {T : String} {P : Heap → Addr → List Value → Prop}
theorem codeAny_sum_seq (K : SeqK prog w T P) (hT : T ≠ "list_iterator") (hh : A.in1.handled = none) {I l S : Addr} (hlI : l ≠ I) (hIS : I ≠ S) (hlS : l ≠ S) {N0 : Nat} (hN0 : N0 ≤ S) {as : List Addr} {xss : List (List Value)} (hlen : as.length = xss.length) {items : Array Value} (hit : items.toList = as.map Value.ref) :
    ∀ (k i : Nat) (s : Shared) (t : Addr) (tot : List Value) (c : Nat), as.length - i = k → i ≤ as.length → (s.heap.IsListIter I l i ∧ s.heap.IsList l items) →
      s.heap.get? S = some { cls := .type "list", dict := none, data := .seq #[.ref t] c, slots := #[] } → P s.heap t tot → t ≠ S → (∀ (j : Nat) a xs, i ≤ j → as[j]? = some a → xss[j]? = some xs → P s.heap a xs ∧ a ≠ S) →
      tot.length + ((xss.drop i).flatten).length ≤ sizeLine →
      (∀ h' tk t', (∀ b o, b ≠ I → b ≠ S → s.heap.get? b = some o → h'.get? b = some o) → P h' t' (tot ++ (xss.drop i).flatten) → (N0 ≤ t' ∨ t' = t ∨ t' ∈ as) → t' ≠ S → R (.ok (.ret (.ref t'))) { s with heap := h', toks := tk }) →
      codeAny (model prog w) A (.builtin "sum.loop" ⟨[.ref I, .ref S, rawInt 2, rawInt 0], []⟩) R s := by
  have hsz : items.size = as.length := by
    have e := congrArg List.length hit
    rw [Array.length_toList, List.length_map] at e
    exact e
  have W := Walks.list (prog := prog) (w := w) hh I l hlI items
  have notI : ∀ {h : Heap} {a : Addr} {xs : List Value} {i : Nat}, P h a xs → h.IsListIter I l i → a ≠ I := fun {h a xs i} p q e => by
    obtain ⟨o, e1, c1⟩ := K.ty _ _ _ p
    obtain ⟨o', e2, c2, _⟩ := q
    rw [e, e2] at e1
    cases e1
    rw [c2] at c1
    exact hT (Value.type.inj c1).symm
  intro k
  induction k with
  | zero =>
    intro i s t tot c hk hi hst hS hP htS hA hz hR
    have hin : i = items.size := by omega
    refine codeAny_builtin F.entry_sum_loop ?_
    rw [Around.under_plainId F.plain_sum_loop _]
    show wpAny _ A.in1 (seqItems? (.ref S) >>= _) _ _ s
    refine wpAny_bind (wpAny_seqItems hS rfl ?_)
    show wpAny _ A.in1 (tryCatch (pyNext (.ref I)) _ >>= _) _ _ s
    refine wpAny_bind (wpAny_tryCatch (W.done s _ _ (by rw [← hin]; exact hst) fun h' tk hk' => ?_))
    refine wpAny_pure (hR h' tk t (fun b o hb _ e => hk' b o (by simpa using hb) e) ?_ (.inr (.inl rfl)) htS)
    rw [List.drop_eq_nil_of_le (by omega)]
    show P h' t (tot ++ [])
    rw [List.append_nil]
    exact K.stay _ _ _ _ hP fun o e => hk' t o (by simpa using notI hP hst.1) e
  | succ k ih =>
    intro i s t tot c hk hi hst hS hP htS hA hz hR
    have hlt : i < items.size := by omega
    refine codeAny_builtin F.entry_sum_loop ?_
    rw [Around.under_plainId F.plain_sum_loop _]
    show wpAny _ A.in1 (seqItems? (.ref S) >>= _) _ _ s
    refine wpAny_bind (wpAny_seqItems hS rfl ?_)
    show wpAny _ A.in1 (tryCatch (pyNext (.ref I)) _ >>= _) _ _ s
    refine wpAny_bind (wpAny_tryCatch (W.item i s _ _ hlt hst fun v h' tk hv hst' hk' => ?_))
    have hia : i < as.length := by omega
    have hix : i < xss.length := by omega
    have ev : v = Value.ref as[i] := by
      have e1 : items.toList[i]? = some v := by rw [Array.getElem?_toList]; exact hv
      rw [hit, List.getElem?_map, List.getElem?_eq_getElem hia] at e1
      exact (Option.some.inj e1).symm
    subst ev
    have kp : ∀ b o, b ≠ I → s.heap.get? b = some o → h'.get? b = some o := fun b o hb e => hk' b o (by simpa using hb) e
    have hS' := kp S _ (Ne.symm hIS) hS
    obtain ⟨hPa, haS⟩ := hA i as[i] xss[i] (Nat.le_refl _) (List.getElem?_eq_getElem hia) (List.getElem?_eq_getElem hix)
    have hP' : P h' t tot := K.stay _ _ _ _ hP fun o e => kp t o (notI hP hst.1) e
    have hPa' : P h' as[i] xss[i] := K.stay _ _ _ _ hPa fun o e => kp _ o (notI hPa hst.1) e
    have hdrop : xss.drop i = xss[i] :: xss.drop (i + 1) := List.drop_eq_getElem_cons hix
    rw [hdrop, List.flatten_cons, List.length_append] at hz
    show wpAny _ A.in1 ((holding [Value.ref as[i]] (binaryOp .Add (.ref t) (.ref as[i]))).attempt >>= _) _ _ _
    refine wpAny_bind (wpAny_attempt (wpAny_holding (K.add A.in1 _ { s with heap := h', toks := tk } t as[i] tot xss[i] _ hP' hPa' (by omega) fun h2 r hk2 hPr hr => ?_)))
    show wpAny _ A.in1 (updateSeq S (fun _ => #[.ref r]) >>= _) _ _ _
    have hS2 := hk2 S _ hS'
    have hltS : S < h'.objs.size := Heap.lt_size hS'
    have hrS : r ≠ S := by
      rcases hr with e | e | e
      · exact Nat.ne_of_gt (Nat.lt_of_lt_of_le hltS e)
      · rw [e]; exact htS
      · rw [e]; exact haS
    refine wpAny_bind ?_
    refine wpAny_updateSeq hS2 rfl ?_
    have hS3 := Heap.get?_update_self (Obj.mapSeq fun _ => #[Value.ref r]) hS2 rfl
    refine wpAny_bind (wpAny_letGo ?_)
    refine wpAny_bind ?_
    have up : ∀ b o, b ≠ S → h2.get? b = some o → ((h2.update S (Obj.mapSeq fun _ => #[Value.ref r])).update S (Obj.mapSeq fun _ => #[Value.ref r])).get? b = some o := fun b o hb e =>
      (Heap.get?_update_other _ _ (Ne.symm hb)).trans ((Heap.get?_update_other _ _ (Ne.symm hb)).trans e)
    refine wpAny_updateSeq hS3 rfl (wpAny_pure ⟨plainId_quiet F.plain_sum_loop _, ih (i + 1) _ r (tot ++ xss[i]) _ (by omega) (by omega) (W.frame _ _ _ hst' fun b hb o e => ?_) (Heap.get?_update_self _ hS3 rfl) ?_ hrS (fun j a xs hj ha hx => ?_) (by rw [List.length_append]; omega) fun h'' tk'' t'' hk'' hP'' ht'' hs'' => ?_⟩)
    · have hbS : b ≠ S := by
        rcases List.mem_cons.mp hb with z | z
        · rw [z]; exact hIS
        · rw [List.mem_singleton.mp z]; exact hlS
      exact up b o hbS (hk2 b o e)
    · exact K.stay _ _ _ _ hPr fun o e => up r o hrS e
    · obtain ⟨p1, p2⟩ := hA j a xs (by omega) ha hx
      exact ⟨K.stay _ _ _ _ p1 fun o e => up a o p2 (hk2 a o (kp a o (notI p1 hst.1) e)), p2⟩
    · refine hR h'' tk'' t'' (fun b o hb hbS e => hk'' b o hb hbS (up b o hbS (hk2 b o (kp b o hb e)))) ?_ ?_ hs''
      · rw [hdrop, List.flatten_cons, ← List.append_assoc]
        exact hP''
      · rcases ht'' with z | z | z
        · exact .inl z
        · rcases hr with q | q | q
          · left
            have hltS : S < h'.objs.size := Heap.lt_size hS'
            have q : h'.objs.size ≤ r := q
            rw [z]
            exact Nat.le_trans hN0 (Nat.le_of_lt (Nat.lt_of_lt_of_le hltS q))
          · exact .inr (.inl (z.trans q))
          · exact .inr (.inr (by rw [z, q]; exact List.getElem_mem hia))
        · exact .inr (.inr z)
end
section
variable {prog : Program} {w : World} {A : Around} {E : Value → Shared → Prop} {s : Shared} {T : String} {P : Heap → Addr → List Value → Prop}
theorem args_sum2 (a b : Value) : argsOk "sum" ⟨[a, b], []⟩ := by unfold argsOk; kernel_rfl
theorem call_sum_seq (K : SeqK prog w T P) (hT : T ≠ "list_iterator") (hh : A.handled = none) (s1 : isSubtype (.type T) (.type "str") = pure false) (s2 : isSubtype (.type T) (.type "bytes") = pure false) (s3 : isSubtype (.type T) (.type "bytearray") = pure false)
    {l st : Addr} {as : List Addr} {xss : List (List Value)} {items : Array Value} {Q : Value → Shared → Prop} (hl : s.heap.IsList l items) (hit : items.toList = as.map Value.ref) (hlen : as.length = xss.length) (hst : P s.heap st [])
    (hA : ∀ (j : Nat) a xs, as[j]? = some a → xss[j]? = some xs → P s.heap a xs) (hz : (xss.flatten).length ≤ sizeLine)
    (h : ∀ h' tk t', (∀ b o, s.heap.get? b = some o → h'.get? b = some o) → P h' t' xss.flatten → (s.heap.objs.size ≤ t' ∨ t' = st ∨ t' ∈ as) → Q (.ref t') { s with heap := h', toks := tk }) :
    wpAny (model prog w) A (call (.builtin "sum") [.ref l, .ref st]) Q E s := by
  refine call_function_tree F.kind_sum F.plain_sum F.entry_sum (args_sum2 _ _) ?_
  unfold Builtin.«sum»
  simp only [List.length_cons, List.length_nil]
  rw [if_neg (by decide)]
  refine wpAny_bind (wpAny_of_eq (show Builtin.Builtins.bindParams "sum" ["start"] 0 ⟨[.ref st], []⟩ = pure [some (.ref st)] from rfl) ?_)
  refine wpAny_bind (wpAny_pyIter_list hl ?_)
  refine wpAny_bind (wpAny_pure ?_)
  have hst' : P (s.heap.push { cls := .type "list_iterator", data := .fields #[.ref l, .int 0 0] }) st [] := K.stay _ _ _ _ hst fun o e => Heap.get?_push_of_some _ e
  obtain ⟨ot, ho1, ho2⟩ := K.ty _ _ _ hst'
  simp only [List.forIn_cons, List.forIn_nil]
  refine wpAny_bind (wpAny_bind (wpAny_bind (wpAny_isInstance (T := T) (b := false) ⟨ot, ho1, ho2⟩ s1 ?_)))
  simp only [Bool.false_eq_true, if_false]
  refine wpAny_pure (wpAny_bind (wpAny_bind (wpAny_isInstance (T := T) (b := false) ⟨ot, ho1, ho2⟩ s2 ?_)))
  simp only [Bool.false_eq_true, if_false]
  refine wpAny_pure (wpAny_bind (wpAny_bind (wpAny_isInstance (T := T) (b := false) ⟨ot, ho1, ho2⟩ s3 ?_)))
  simp only [Bool.false_eq_true, if_false]
  refine wpAny_pure (wpAny_pure ?_)
  refine wpAny_bind (wpAny_newObj_type ?_)
  have hz1 : (s.heap.push { cls := .type "list_iterator", data := .fields #[.ref l, .int 0 0] }).objs.size = s.heap.objs.size + 1 := Heap.size_push ..
  have hlt : l < s.heap.objs.size := by
    obtain ⟨o, e, _⟩ := hl
    exact Heap.lt_size e
  have kp : ∀ b o, s.heap.get? b = some o → ((s.heap.push { cls := .type "list_iterator", data := .fields #[.ref l, .int 0 0] }).push { cls := .type "list", data := .seq [Value.ref st].toArray }).get? b = some o := fun b o e => Heap.get?_push_of_some _ (Heap.get?_push_of_some _ e)
  refine wpAny_pure ⟨plainId_quiet F.plain_sum_loop _, ?_⟩
  refine codeAny_sum_seq (A := A) (I := s.heap.objs.size) (l := l) (S := (s.heap.push { cls := .type "list_iterator", data := .fields #[.ref l, .int 0 0] }).objs.size) (N0 := s.heap.objs.size) (as := as) (xss := xss) (items := items) K hT hh (Nat.ne_of_lt hlt) (by rw [hz1]; exact Nat.ne_of_lt (Nat.lt_succ_self _)) (by rw [hz1]; exact Nat.ne_of_lt (Nat.lt_succ_of_lt hlt)) (by rw [hz1]; exact Nat.le_succ _) hlen hit
    as.length 0 _ st [] 0 (Nat.sub_zero _) (Nat.zero_le _) ⟨⟨_, Heap.get?_push_of_some _ (Heap.get?_push_size _ rfl), rfl, rfl⟩, ?_⟩ (Heap.get?_push_size _ rfl) (K.stay _ _ _ _ hst' fun o e => Heap.get?_push_of_some _ e) ?_ (fun j a xs _ ha hx => ?_) ?_ fun h' tk t' hk hP ht hs => ?_
  · obtain ⟨o, e, r⟩ := hl
    exact ⟨o, kp _ _ e, r⟩
  · obtain ⟨o, e, _⟩ := K.ty _ _ _ hst
    rw [hz1]
    exact Nat.ne_of_lt (Nat.lt_succ_of_lt (Heap.lt_size e))
  · have p := hA j a xs ha hx
    obtain ⟨o, e, _⟩ := K.ty _ _ _ p
    exact ⟨K.stay _ _ _ _ p fun o e => kp _ o e, by rw [hz1]; exact Nat.ne_of_lt (Nat.lt_succ_of_lt (Heap.lt_size e))⟩
  · rw [List.drop_zero, List.length_nil, Nat.zero_add]
    exact hz
  · rw [List.drop_zero, List.nil_append] at hP
    refine h h' tk t' (fun b o e => hk b o (Nat.ne_of_lt (Heap.lt_size e)) (by rw [hz1]; exact Nat.ne_of_lt (Nat.lt_succ_of_lt (Heap.lt_size e))) (kp b o e)) hP ht
end
end Rng
namespace Rng
open PySem PySem.Spec PyProof.Rows L2
/-- sum(xs, y): mk makes the object -/
def rSumS (K : PySem.W.Frag) (mk : List V → HO) : List V → Hp → VK → Prop := fun vs H Q => ∃ (l st : Addr) (as : List Addr) (xss : List (List V)), vs = [.ref l, .ref st] ∧ SqL K H l (as.map V.ref) ∧ as.length = xss.length ∧ H st = some (mk []) ∧
  (∀ (j : Nat) a xs, as[j]? = some a → xss[j]? = some xs → H a = some (mk xs)) ∧ xss.flatten.length ≤ sizeLine ∧ (∀ p, (p = st ∨ p ∈ as) → H p = some (mk xss.flatten) → Q (.ref p) H) ∧ ∀ p, H p = none → Q (.ref p) (upd H p (mk xss.flatten))
section
variable {X : Cx}
theorem refs_only : ∀ {as : List Addr} {us : List Value}, Vals (as.map V.ref) us → us = as.map Value.ref
  | [], _, .nil => rfl
  | a :: as, _, .cons r t => by
    cases r
    rw [refs_only t] <;> rfl
theorem sum_gen {mk : List V → HO} {T : String} {P : Heap → Addr → List Value → Prop} (K : SeqK X.prog X.w T P) (hT : T ≠ "list_iterator") (hc : X.calm = true) (s1 : isSubtype (.type T) (.type "str") = pure false) (s2 : isSubtype (.type T) (.type "bytes") = pure false) (s3 : isSubtype (.type T) (.type "bytearray") = pure false)
    (inj : ∀ xs ys, mk xs = mk ys → xs = ys) (to : ∀ (H : Hp) (h : Heap) a xs, ObjOk X.prog X.w H h a (mk xs) → ∃ its, Vals xs its ∧ P h a its) (of : ∀ (H : Hp) (h : Heap) a xs its, xs.length ≤ sizeLine → Vals xs its → P h a its → ObjOk X.prog X.w H h a (mk xs)) : CallR X (.builtin "sum") (rSumS X.K mk) := by
  intro pins s σ H vs us Q I r h
  obtain ⟨l, st, as, xss, rfl, hl, hlen, hst, hA, hz, q1, q2⟩ := h
  obtain ⟨u1, u2, rfl, r1, r2⟩ := vals2 r
  cases r1
  cases r2
  obtain ⟨its, rv, pl, hz2⟩ := I.list hl
  -- the items' values
  have key : ∀ (as : List Addr) (xss : List (List V)), as.length = xss.length → (∀ (j : Nat) a xs, as[j]? = some a → xss[j]? = some xs → H a = some (mk xs)) → ∃ yss : List (List Value), as.length = yss.length ∧ Vals xss.flatten yss.flatten ∧ ∀ (j : Nat) a ys, as[j]? = some a → yss[j]? = some ys → P s.heap a ys ∧ ∃ xs, xss[j]? = some xs ∧ Vals xs ys := by
    intro as
    induction as with
    | nil =>
      intro xss hl _
      cases xss with
      | nil => exact ⟨[], rfl, .nil, fun j a ys e => by simp at e⟩
      | cons x xss => simp at hl
    | cons a as ih =>
      intro xss hl hA
      cases xss with
      | nil => simp at hl
      | cons x xss =>
        obtain ⟨yss, e1, e2, e3⟩ := ih xss (by simpa using hl) fun j a' xs h1 h2 => hA (j + 1) a' xs (by simpa using h1) (by simpa using h2)
        obtain ⟨ys, v1, p1⟩ := to H s.heap a x (I.hok a _ (hA 0 a x rfl rfl))
        refine ⟨ys :: yss, by simp [e1], ?_, fun j a' ys' h1 h2 => ?_⟩
        · rw [List.flatten_cons, List.flatten_cons]
          exact v1.append e2
        · cases j with
          | zero =>
            simp at h1 h2
            subst h1 h2
            exact ⟨p1, x, rfl, v1⟩
          | succ j => exact e3 j a' ys' (by simpa using h1) (by simpa using h2)
  obtain ⟨yss, e1, e2, e3⟩ := key as xss hlen hA
  obtain ⟨y0, v0, p0⟩ := to H s.heap st [] (I.hok st _ hst)
  cases v0
  refine call_sum_seq (xss := yss) K hT (I.ok.hd hc) s1 s2 s3 pl.isList (by simpa using refs_only rv) e1 p0 (fun j a xs h1 h2 => (e3 j a xs h1 h2).1) (by rw [← e2.length]; exact hz) fun h' tk t' kp hP ht => ?_
  have new := of (upd H t' (mk xss.flatten)) h' t' xss.flatten yss.flatten hz e2 hP
  rcases ht with ht | ht
  · exact ⟨.ref t', _, I.laid (t' := tk) kp ht new, rfl, q2 t' (I.hok.fresh ht)⟩
  · have I2 : Inv X pins σ H { s with heap := h', toks := tk } := I.kept kp
    -- t' is one of the old ones: what stands there is the whole
    have old : ∃ xs, H t' = some (mk xs) := by
      rcases ht with ht | ht
      · exact ⟨[], by rw [ht]; exact hst⟩
      · obtain ⟨j, hj⟩ := List.mem_iff_getElem?.mp ht
        have hjl : j < xss.length := by
          have := (List.getElem?_eq_some_iff.mp hj).1
          omega
        exact ⟨xss[j], hA j t' _ hj (List.getElem?_eq_getElem hjl)⟩
    obtain ⟨xs, hxs⟩ := old
    obtain ⟨zs, vz, pz⟩ := to H h' t' xs (I2.hok t' _ hxs)
    refine ⟨.ref t', H, I2, rfl, q1 t' ht ?_⟩
    have ez : zs = yss.flatten := K.inj pz hP
    subst ez
    rw [hxs, vz.inj e2]
theorem cr_sumL (hc : X.calm = true) : CallR X (.builtin "sum") (rSumS X.K HO.lst) :=
  sum_gen (seqK_list _ _) (by decide) hc PySem.F.sub_list_str PySem.F.sub_list_bytes PySem.F.sub_list_bytearray (fun _ _ e => by cases e; rfl) (fun H h a xs ⟨_, its, n, v, e⟩ => ⟨its, v, n, e⟩) fun H h a xs its hz v ⟨n, e⟩ => ⟨hz, its, n, v, e⟩
theorem cr_sumT (hc : X.calm = true) : CallR X (.builtin "sum") (rSumS X.K HO.tup) :=
  sum_gen (seqK_tup _ _) (by decide) hc PySem.F.sub_tuple_str PySem.F.sub_tuple_bytes PySem.F.sub_tuple_bytearray (fun _ _ e => by cases e; rfl) (fun H h a xs ⟨_, its, v, e⟩ => ⟨its, v, e⟩) fun H h a xs its hz v e => ⟨hz, its, v, e⟩
end
end Rng
/-! operations and calls of built-ins, over trees -/
namespace Rng
open PySem PySem.Spec PyProof.Rows L2
/-! ### numbers -/
abbrev RI2 (f : Int → Int → Int) : PyData → PyData → PyData → Prop := fun d1 d2 d => ∃ i j, d1 = .int i ∧ d2 = .int j ∧ d = .int (f i j)
abbrev RB2 (f : Int → Int → Bool) : PyData → PyData → PyData → Prop := fun d1 d2 d => ∃ i j, d1 = .int i ∧ d2 = .int j ∧ d = .bool (f i j)
theorem vop_I {f : Int → Int → Int} : VOp (rI0 fun i j => .int (f i j)) (RI2 f) := fun hot H x y Q d1 d2 d al r1 r2 ⟨i, j, e1, e2, e3⟩ k => by
  subst e1 e2 e3
  exact ⟨i, j, r1, r2, k.now rfl⟩
theorem vop_B {f : Int → Int → Bool} : VOp (rI0 fun i j => .bl (f i j)) (RB2 f) := fun hot H x y Q d1 d2 d al r1 r2 ⟨i, j, e1, e2, e3⟩ k => by
  subst e1 e2 e3
  exact ⟨i, j, r1, r2, k.now rfl⟩
/-! ### ==, in -/
abbrev REq : PyData → PyData → PyData → Prop := fun d1 d2 d => SeqAt.shaped d1 = true ∧ SeqAt.shaped d2 = true ∧ d = .bool (PyData.eqv d1 d2)
abbrev RNe : PyData → PyData → PyData → Prop := fun d1 d2 d => SeqAt.shaped d1 = true ∧ SeqAt.shaped d2 = true ∧ d = .bool (!PyData.eqv d1 d2)
theorem vop_eq {K : PySem.W.Frag} : VOp (rEqD K) REq := fun hot H x y Q d1 d2 d al r1 r2 ⟨s1, s2, e⟩ k => by
  subst e
  exact ⟨d1, d2, Rp.dp _ _ (shaped_can s1) r1.warm, Rp.dp _ _ (shaped_can s2) r2.warm, s1, s2, k.now rfl⟩
theorem vop_ne {K : PySem.W.Frag} : VOp (rNeD K) RNe := fun hot H x y Q d1 d2 d al r1 r2 ⟨s1, s2, e⟩ k => by
  subst e
  exact ⟨d1, d2, Rp.dp _ _ (shaped_can s1) r1.warm, Rp.dp _ _ (shaped_can s2) r2.warm, s1, s2, k.now rfl⟩
abbrev RInT : PyData → PyData → PyData → Prop := fun d1 d2 d => ∃ ds, d2 = .tuple ds ∧ SeqAt.shaped d1 = true ∧ SeqAt.shaped (.tuple ds) = true ∧ d = .bool (ds.any fun z => PyData.eqv z d1)
abbrev RNotInT : PyData → PyData → PyData → Prop := fun d1 d2 d => ∃ ds, d2 = .tuple ds ∧ SeqAt.shaped d1 = true ∧ SeqAt.shaped (.tuple ds) = true ∧ d = .bool (!ds.any fun z => PyData.eqv z d1)
abbrev RNotInL : PyData → PyData → PyData → Prop := fun d1 d2 d => ∃ ds, d2 = .list ds ∧ SeqAt.shaped d1 = true ∧ SeqAt.shaped (.list ds) = true ∧ d = .bool (!ds.any fun z => PyData.eqv z d1)
theorem vop_inT {K : PySem.W.Frag} : VOp (rInT K) RInT := fun hot H x y Q d1 d2 d al r1 r2 ⟨ds, e, s1, s2, e2⟩ k => by
  subst e e2
  exact ⟨d1, ds, Rp.dp _ _ (shaped_can s1) r1.warm, Rp.dp _ _ (shaped_can s2) r2.warm, s1, s2, k.now rfl⟩
theorem vop_notInT {K : PySem.W.Frag} : VOp (rNotInT K) RNotInT := fun hot H x y Q d1 d2 d al r1 r2 ⟨ds, e, s1, s2, e2⟩ k => by
  subst e e2
  exact ⟨d1, ds, Rp.dp _ _ (shaped_can s1) r1.warm, Rp.dp _ _ (shaped_can s2) r2.warm, s1, s2, k.now rfl⟩
theorem vop_notInL {K : PySem.W.Frag} : VOp (rNotInD K) RNotInL := fun hot H x y Q d1 d2 d al r1 r2 ⟨ds, e, s1, s2, e2⟩ k => by
  subst e e2
  exact ⟨d1, ds, Rp.dp _ _ (shaped_can s1) r1.warm, Rp.dp _ _ (shaped_can s2) r2.warm, s1, s2, k.now rfl⟩
abbrev RNotB : PyData → PyData → PyData → Prop := fun d1 d2 d => ∃ a b, d1 = .bool a ∧ d2 = .bool b ∧ d = .bool (!decide (a = b))
theorem vop_notB : VOp (fun x y H Q => ∃ a b, x = .bl a ∧ y = .bl b ∧ Q (.bl (!decide (a = b))) H) RNotB := fun hot H x y Q d1 d2 d al r1 r2 ⟨a, b, e1, e2, e3⟩ k => by
  subst e1 e2 e3
  exact ⟨a, b, r1, r2, k.now rfl⟩
/-! ### + of sequences -/
abbrev RCatT : PyData → PyData → PyData → Prop := fun d1 d2 d => ∃ xs ys, d1 = .tuple xs ∧ d2 = .tuple ys ∧ xs.length + ys.length ≤ 100000 ∧ d = .tuple (xs ++ ys)
abbrev RCatL : PyData → PyData → PyData → Prop := fun d1 d2 d => ∃ xs ys, d1 = .list xs ∧ d2 = .list ys ∧ xs.length + ys.length ≤ 100000 ∧ d = .list (xs ++ ys)
theorem line_of {n : Nat} (h : n ≤ 100000) : n ≤ sizeLine := Nat.le_trans h (by decide)
theorem vop_catT {K : PySem.W.Frag} : VOp (rCatA K) RCatT := fun hot H x y Q d1 d2 d al r1 r2 ⟨xs, ys, e1, e2, hz, e3⟩ k => by
  subst e1 e2 e3
  obtain ⟨a, vs, rfl, ha, hs⟩ := r1
  obtain ⟨b, us, rfl, hb, ht⟩ := r2
  refine ⟨a, b, vs, us, rfl, rfl, SqT.of (cold_same _ _ ha), SqT.of (cold_same _ _ hb), line_of (by rw [hs.length, ht.length]; exact hz), fun e => k.now ?_, fun _ e => k.now ?_, fun _ _ p hp => k _ _ (same_new hp _) ⟨p, _, rfl, cold_new al hp, RpAll.mono (cold_mono (same_new hp _)) _ _ (hs.append ht)⟩⟩
  · subst e
    have e0 : xs = [] := List.eq_nil_of_length_eq_zero (by have := hs.length; simpa using this.symm)
    subst e0
    exact ⟨b, us, rfl, hb, ht⟩
  · subst e
    have e0 : ys = [] := List.eq_nil_of_length_eq_zero (by have := ht.length; simpa using this.symm)
    subst e0
    rw [List.append_nil]
    exact ⟨a, vs, rfl, ha, hs⟩
theorem vop_catL : VOp rCat RCatL := fun hot H x y Q d1 d2 d al r1 r2 ⟨xs, ys, e1, e2, hz, e3⟩ k => by
  subst e1 e2 e3
  obtain ⟨a, vs, rfl, ha, hs⟩ := r1
  obtain ⟨b, us, rfl, hb, ht⟩ := r2
  exact ⟨a, b, vs, us, rfl, rfl, cold_same _ _ ha, cold_same _ _ hb, line_of (by rw [hs.length, ht.length]; exact hz), fun p hp => k _ _ (same_new hp _) ⟨p, _, rfl, cold_new al hp, RpAll.mono (cold_mono (same_new hp _)) _ _ (hs.append ht)⟩⟩
/-! ### built-ins -/
theorem rp_one {H : Hp} {d : PyData} {xs : List V} (h : RpAll H [d] xs) : ∃ v, xs = [v] ∧ Rp H d v := by
  obtain ⟨v, r, rfl, h1, e⟩ := h
  have e : r = [] := e
  subst e
  exact ⟨v, rfl, h1⟩
theorem rp_two {H : Hp} {d e : PyData} {xs : List V} (h : RpAll H [d, e] xs) : ∃ v u, xs = [v, u] ∧ Rp H d v ∧ Rp H e u := by
  obtain ⟨v, r, rfl, h1, u, r2, rfl, h2, e⟩ := h
  have e : r2 = [] := e
  subst e
  exact ⟨v, u, rfl, h1, h2⟩
abbrev RLen : List PyData → PyData → Prop := fun ds d => ∃ l, (ds = [.list l] ∨ ds = [.tuple l]) ∧ d = .int (l.length : Int)
theorem vc_len {K : PySem.W.Frag} : VCall (fun xs H Q => ∃ p ys, xs = [.ref p] ∧ (SqL K H p ys ∨ SqT K H p ys) ∧ Q (.int ys.length) H) RLen := fun hot H xs Q ds d al rp ⟨l, e, e2⟩ k => by
  subst e2
  rcases e with e | e
  · subst e
    obtain ⟨v, rfl, a, vs, rfl, ha, hs⟩ := rp_one rp
    exact ⟨a, vs, rfl, .inl (SqL.of (cold_same _ _ ha)), by rw [hs.length]; exact k.now rfl⟩
  · subst e
    obtain ⟨v, rfl, a, vs, rfl, ha, hs⟩ := rp_one rp
    exact ⟨a, vs, rfl, .inr (SqT.of (cold_same _ _ ha)), by rw [hs.length]; exact k.now rfl⟩
abbrev RListOf : List PyData → PyData → Prop := fun ds d => ∃ l, (ds = [.list l] ∨ ds = [.tuple l]) ∧ d = .list l
theorem vc_list {K : PySem.W.Frag} : VCall (fun xs H Q => ∃ p ys, xs = [.ref p] ∧ (SqL K H p ys ∨ SqT K H p ys) ∧ ∀ l, H l = none → Q (.ref l) (upd H l (.lst ys))) RListOf := fun hot H xs Q ds d al rp ⟨l, e, e2⟩ k => by
  subst e2
  rcases e with e | e
  · subst e
    obtain ⟨v, rfl, a, vs, rfl, ha, hs⟩ := rp_one rp
    exact ⟨a, vs, rfl, .inl (SqL.of (cold_same _ _ ha)), fun p hp => k _ _ (same_new hp _) ⟨p, _, rfl, cold_new al hp, RpAll.mono (cold_mono (same_new hp _)) _ _ hs⟩⟩
  · subst e
    obtain ⟨v, rfl, a, vs, rfl, ha, hs⟩ := rp_one rp
    exact ⟨a, vs, rfl, .inr (SqT.of (cold_same _ _ ha)), fun p hp => k _ _ (same_new hp _) ⟨p, _, rfl, cold_new al hp, RpAll.mono (cold_mono (same_new hp _)) _ _ hs⟩⟩
abbrev RTupOf : List PyData → PyData → Prop := fun ds d => ∃ l, (ds = [.list l] ∨ ds = [.tuple l]) ∧ d = .tuple l
theorem vc_tuple {K : PySem.W.Frag} : VCall (fun xs H Q => ∃ p ys, xs = [.ref p] ∧ ((SqL K H p ys ∧ ∀ l, H l = none → Q (.ref l) (upd H l (.tup ys))) ∨ (SqT K H p ys ∧ Q (.ref p) H))) RTupOf := fun hot H xs Q ds d al rp ⟨l, e, e2⟩ k => by
  subst e2
  rcases e with e | e
  · subst e
    obtain ⟨v, rfl, a, vs, rfl, ha, hs⟩ := rp_one rp
    exact ⟨a, vs, rfl, .inl ⟨SqL.of (cold_same _ _ ha), fun p hp => k _ _ (same_new hp _) ⟨p, _, rfl, cold_new al hp, RpAll.mono (cold_mono (same_new hp _)) _ _ hs⟩⟩⟩
  · subst e
    obtain ⟨v, rfl, a, vs, rfl, ha, hs⟩ := rp_one rp
    exact ⟨a, vs, rfl, .inr ⟨SqT.of (cold_same _ _ ha), k.now ⟨a, vs, rfl, ha, hs⟩⟩⟩
abbrev RSumI : List PyData → PyData → Prop := fun ds d => ∃ ns : List Int, ds = [.list (ns.map .int)] ∧ d = .int ns.sum
theorem vc_sumI {K : PySem.W.Frag} : VCall (rSum K) RSumI := fun hot H xs Q ds d al rp ⟨ns, e, e2⟩ k => by
  subst e e2
  obtain ⟨v, rfl, a, vs, rfl, ha, hs⟩ := rp_one rp
  have e := hs.ints
  subst e
  exact ⟨a, ns, rfl, SqL.of (cold_same _ _ ha), k.now rfl⟩
abbrev RAny : List PyData → PyData → Prop := fun ds d => ∃ bs : List Bool, ds = [.list (bs.map .bool)] ∧ d = .bool (bs.any id)
abbrev RAll : List PyData → PyData → Prop := fun ds d => ∃ bs : List Bool, ds = [.list (bs.map .bool)] ∧ d = .bool (bs.all id)
theorem vc_any {K : PySem.W.Frag} : VCall (rAny K) RAny := fun hot H xs Q ds d al rp ⟨ns, e, e2⟩ k => by
  subst e e2
  obtain ⟨v, rfl, a, vs, rfl, ha, hs⟩ := rp_one rp
  have e := hs.bools
  subst e
  exact ⟨a, ns, rfl, SqL.of (cold_same _ _ ha), k.now rfl⟩
theorem vc_all {K : PySem.W.Frag} : VCall (rAll K) RAll := fun hot H xs Q ds d al rp ⟨ns, e, e2⟩ k => by
  subst e e2
  obtain ⟨v, rfl, a, vs, rfl, ha, hs⟩ := rp_one rp
  have e := hs.bools
  subst e
  exact ⟨a, ns, rfl, SqL.of (cold_same _ _ ha), k.now rfl⟩
abbrev RInt : List PyData → PyData → Prop := fun ds d => ∃ b : Bool, ds = [.bool b] ∧ d = .int (if b then 1 else 0)
theorem vc_int : VCall (fun xs H Q => (∃ i, xs = [.int i] ∧ Q (.int i) H) ∨ ∃ k, xs = [.bl k] ∧ Q (.int (if k then 1 else 0)) H) RInt := fun hot H xs Q ds d al rp ⟨b, e, e2⟩ k => by
  subst e e2
  obtain ⟨v, rfl, h⟩ := rp_one rp
  have h : v = V.bl b := h
  subst h
  exact .inr ⟨b, rfl, k.now rfl⟩
/-- sums of sequences: the parts stand at addresses -/
theorem parts {H : Hp} {mk : List V → HO} {enc : List PyData → PyData} (hm : ∀ ds v, Rp H (enc ds) v → ∃ a vs, v = .ref a ∧ H a = some (mk vs) ∧ RpAll H ds vs) : ∀ {xss : List (List PyData)} {vs : List V}, RpAll H (xss.map enc) vs →
    ∃ (as : List Addr) (uss : List (List V)), vs = as.map V.ref ∧ as.length = uss.length ∧ (∀ (j : Nat) a us, as[j]? = some a → uss[j]? = some us → H a = some (mk us)) ∧ RpAll H xss.flatten uss.flatten ∧ ∀ a ∈ as, H a ≠ none
  | [], vs, h => by
    have h : vs = [] := h
    subst h
    exact ⟨[], [], rfl, rfl, fun j a us e => by simp at e, rfl, fun a h => by cases h⟩
  | xs :: xss, vs, h => by
    obtain ⟨v, r, rfl, h1, h2⟩ := h
    obtain ⟨as, uss, e1, e2, e3, e4, e5⟩ := parts hm h2
    obtain ⟨a, us, rfl, ha, hs⟩ := hm _ _ h1
    refine ⟨a :: as, us :: uss, by rw [List.map_cons, ← e1], by simp [e2], fun j a' us' q1 q2 => ?_, ?_, fun b hb => ?_⟩
    · cases j with
      | zero =>
        simp at q1 q2
        subst q1 q2
        exact ha
      | succ j => exact e3 j a' us' (by simpa using q1) (by simpa using q2)
    · rw [List.flatten_cons, List.flatten_cons]
      exact hs.append e4
    · rcases List.mem_cons.mp hb with e | hb
      · rw [e, ha]
        exact fun q => nomatch q
      · exact e5 b hb
abbrev RSumL : List PyData → PyData → Prop := fun ds d => ∃ xss : List (List PyData), ds = [.list (xss.map .list), .list []] ∧ xss.flatten.length ≤ 100000 ∧ d = .list xss.flatten
abbrev RSumT : List PyData → PyData → Prop := fun ds d => ∃ xss : List (List PyData), ds = [.list (xss.map .tuple), .tuple []] ∧ xss.flatten.length ≤ 100000 ∧ d = .tuple xss.flatten
theorem vc_sumL {K : PySem.W.Frag} : VCall (rSumS K HO.lst) RSumL := fun hot H xs Q ds d al rp ⟨xss, e, hz, e2⟩ k => by
  subst e e2
  obtain ⟨v, u, rfl, ⟨a, vs, rfl, ha, hs⟩, b, us, rfl, hb, ht⟩ := rp_two rp
  have ht : us = [] := ht
  subst ht
  obtain ⟨as, uss, rfl, e2, e3, e4, e5⟩ := parts (H := cold hot H) (mk := HO.lst) (enc := PyData.list) (fun ds v h => h) hs
  refine ⟨a, b, as, uss, rfl, SqL.of (cold_same _ _ ha), e2, cold_same _ _ hb, fun j a us h1 h2 => cold_same _ _ (e3 j a us h1 h2), line_of (by rw [e4.length]; exact hz), fun p hp hH => k.now ⟨p, _, rfl, ?_, e4⟩, fun p hp => k _ _ (same_new hp _) ⟨p, _, rfl, cold_new al hp, RpAll.mono (cold_mono (same_new hp _)) _ _ e4⟩⟩
  have hc : hot p = false := by
    cases q : hot p with
    | false => rfl
    | true =>
      exfalso
      have hn : cold hot H p = none := by unfold cold; rw [if_pos q]
      rcases hp with e | e
      · rw [e, hb] at hn
        cases hn
      · exact e5 p e hn
  rw [cold_at hc]
  exact hH
theorem vc_sumT {K : PySem.W.Frag} : VCall (rSumS K HO.tup) RSumT := fun hot H xs Q ds d al rp ⟨xss, e, hz, e2⟩ k => by
  subst e e2
  obtain ⟨v, u, rfl, ⟨a, vs, rfl, ha, hs⟩, b, us, rfl, hb, ht⟩ := rp_two rp
  have ht : us = [] := ht
  subst ht
  obtain ⟨as, uss, rfl, e2, e3, e4, e5⟩ := parts (H := cold hot H) (mk := HO.tup) (enc := PyData.tuple) (fun ds v h => h) hs
  refine ⟨a, b, as, uss, rfl, SqL.of (cold_same _ _ ha), e2, cold_same _ _ hb, fun j a us h1 h2 => cold_same _ _ (e3 j a us h1 h2), line_of (by rw [e4.length]; exact hz), fun p hp hH => k.now ⟨p, _, rfl, ?_, e4⟩, fun p hp => k _ _ (same_new hp _) ⟨p, _, rfl, cold_new al hp, RpAll.mono (cold_mono (same_new hp _)) _ _ e4⟩⟩
  have hc : hot p = false := by
    cases q : hot p with
    | false => rfl
    | true =>
      exfalso
      have hn : cold hot H p = none := by unfold cold; rw [if_pos q]
      rcases hp with e | e
      · rw [e, hb] at hn
        cases hn
      · exact e5 p e hn
  rw [cold_at hc]
  exact hH
/-! ### sorted -/
abbrev tI (ns : List Int) : PyData := .tuple (ns.map .int)
abbrev RSortI : List PyData → PyData → Prop := fun ds d => ∃ ns ns' : List Int, (ds = [.list (ns.map .int)] ∨ ds = [.tuple (ns.map .int)]) ∧ ns'.Perm ns ∧ ns'.Pairwise (· ≤ ·) ∧ d = .list (ns'.map .int)
theorem int_same {a b : List Int} (hp : a.Perm b) (ha : a.Pairwise (· ≤ ·)) (hb : b.Pairwise (· ≤ ·)) : a = b := hp.eq_of_pairwise (fun x y _ _ h1 h2 => Int.le_antisymm h1 h2) ha hb
theorem vc_sortI {K : PySem.W.Frag} : VCall (rSortIT K) RSortI := fun hot H xs Q ds d al rp ⟨ns, ns', e, hp, hs, e2⟩ k => by
  subst e2
  have fin : ∀ (ns2 : List Int) (p : Addr), ns2.Perm ns → ns2.Pairwise (· ≤ ·) → H p = none → Q (.ref p) (upd H p (.lst (ns2.map V.int))) := fun ns2 p h1 h2 hn => by
    have e := int_same (h1.trans hp.symm) h2 hs
    subst e
    exact k _ _ (same_new hn _) ⟨p, _, rfl, cold_new al hn, RpAll.of_ints _⟩
  rcases e with e | e
  · subst e
    obtain ⟨v, rfl, a, vs, rfl, ha, hv⟩ := rp_one rp
    have e := hv.ints
    subst e
    exact ⟨a, ns, rfl, .inl (SqL.of (cold_same _ _ ha)), fin⟩
  · subst e
    obtain ⟨v, rfl, a, vs, rfl, ha, hv⟩ := rp_one rp
    have e := hv.ints
    subst e
    exact ⟨a, ns, rfl, .inr (SqT.of (cold_same _ _ ha)), fin⟩
abbrev LxS (ls : List (List Int)) : Prop := ls.Pairwise fun a b => lxl b a = false
theorem lx_same {a b : List (List Int)} (hp : a.Perm b) (ha : LxS a) (hb : LxS b) : a = b := hp.eq_of_pairwise (fun x y _ _ h1 h2 => lxl_conn _ _ h2 h1) ha hb
abbrev RSortLx : List PyData → PyData → Prop := fun ds d => ∃ ls ls' : List (List Int), (ds = [.list (ls.map tI)] ∨ ds = [.tuple (ls.map tI)]) ∧ (∀ l ∈ ls, l ≠ []) ∧ ls'.Perm ls ∧ LxS ls' ∧ d = .list (ls'.map tI)
/-- the ints of the tuple at a value -/
def intsV (H : Hp) : V → List Int
  | .ref a => (match H a with
    | some (.tup vs) => vs.filterMap fun v => (match v with
      | .int i => some i
      | _ => none)
    | _ => [])
  | _ => []
theorem intsV_at {H : Hp} {a : Addr} {ns : List Int} (h : H a = some (.tup (ns.map V.int))) : intsV H (.ref a) = ns := by
  show (match H a with
    | some (.tup vs) => vs.filterMap fun v : V => (match v with
      | .int i => some i
      | _ => none)
    | _ => []) = ns
  rw [h]
  show (ns.map V.int).filterMap _ = ns
  rw [List.filterMap_map]
  have e : ((fun v : V => (match v with
      | .int i => some i
      | _ => none)) ∘ V.int) = (some : Int → Option Int) := rfl
  rw [e, List.filterMap_some]
theorem rp_tI {H : Hp} {ns : List Int} {v : V} (h : Rp H (tI ns) v) : ∃ a, v = .ref a ∧ H a = some (.tup (ns.map V.int)) := by
  obtain ⟨a, vs, rfl, ha, hs⟩ := h
  rw [hs.ints] at ha
  exact ⟨a, rfl, ha⟩
theorem of_tI {H : Hp} {ns : List Int} {a : Addr} (h : H a = some (.tup (ns.map V.int))) : Rp H (tI ns) (.ref a) := ⟨a, _, rfl, h, RpAll.of_ints _⟩
theorem rpAll_tI {hot : Hot} {H : Hp} : ∀ {ls : List (List Int)} {vs : List V}, RpAll (cold hot H) (ls.map tI) vs → vs.map (intsV H) = ls ∧ ∀ x ∈ vs, ∃ t, x = V.ref t ∧ H t = some (.tup ((intsV H x).map V.int)) ∧ hot t = false
  | [], vs, h => by
    have h : vs = [] := h
    subst h
    exact ⟨rfl, fun x h => by cases h⟩
  | l :: ls, vs, h => by
    obtain ⟨v, r, rfl, h1, h2⟩ := h
    obtain ⟨e1, e2⟩ := rpAll_tI h2
    obtain ⟨a, rfl, ha⟩ := rp_tI h1
    have e := intsV_at (cold_same _ _ ha)
    refine ⟨by rw [List.map_cons, e1, e], fun x hx => ?_⟩
    rcases List.mem_cons.mp hx with q | q
    · refine ⟨a, q, ?_, ?_⟩
      · rw [q, e]
        exact cold_same _ _ ha
      · cases z : hot a with
        | false => rfl
        | true =>
          unfold cold at ha
          rw [if_pos z] at ha
          cases ha
    · exact e2 x q
theorem rpAll_of_ints {hot : Hot} {H : Hp} : ∀ {vs : List V}, (∀ x ∈ vs, ∃ t, x = V.ref t ∧ H t = some (.tup ((intsV H x).map V.int)) ∧ hot t = false) → RpAll (cold hot H) ((vs.map (intsV H)).map tI) vs
  | [], _ => rfl
  | v :: vs, h => by
    obtain ⟨t, rfl, ht, hc⟩ := h v List.mem_cons_self
    refine ⟨_, _, rfl, of_tI (by rw [cold_at hc]; exact ht), rpAll_of_ints fun x hx => h x (List.mem_cons_of_mem _ hx)⟩
theorem vc_sortLx {K : PySem.W.Frag} : VCall (rSortLx K) RSortLx := fun hot H xs Q ds d al rp ⟨ls, ls', e, ne, hp, hs, e2⟩ k => by
  subst e2
  have fin : ∀ (a : Addr) (vs : List V), RpAll (cold hot H) (ls.map tI) vs → (SqL K H a vs ∨ SqT K H a vs) → rSortLx K [V.ref a] H Q := fun a vs hv hsq => by
    obtain ⟨e1, e2⟩ := rpAll_tI hv
    refine ⟨a, vs, intsV H, rfl, hsq, fun x hx => ?_, fun ys p h1 h2 hn => ?_⟩
    · obtain ⟨t, q1, q2, _⟩ := e2 x hx
      refine ⟨t, q1, q2, ne _ ?_⟩
      rw [← e1]
      exact List.mem_map.mpr ⟨x, hx, rfl⟩
    · have q1 : LxS (ys.map (intsV H)) := List.pairwise_map.mpr h1
      have q2 : (ys.map (intsV H)).Perm ls' := by
        have q := h2.map (intsV H)
        rw [e1] at q
        exact q.trans hp.symm
      have e := lx_same q2 q1 hs
      rw [← e] at k
      refine k _ _ (same_new hn _) ⟨p, _, rfl, cold_new al hn, RpAll.mono (cold_mono (same_new hn _)) _ _ (rpAll_of_ints fun x hx => e2 x (h2.mem_iff.mp hx))⟩
  rcases e with e | e
  · subst e
    obtain ⟨v, rfl, a, vs, rfl, ha, hv⟩ := rp_one rp
    exact fin a vs hv (.inl (SqL.of (cold_same _ _ ha)))
  · subst e
    obtain ⟨v, rfl, a, vs, rfl, ha, hv⟩ := rp_one rp
    exact fin a vs hv (.inr (SqT.of (cold_same _ _ ha)))
/-! ### whole expressions -/
section
variable {X : Cx} {e c : Expr} {pos p1 p2 p3 : Pos} {r : RD} {rs : RA}
/-- sorted(set(t)) -/
abbrev RSortSet (r : RD) : RD := fun ρ d => ∃ ns ns' : List Int, r ρ (.tuple (ns.map .int)) ∧ ns.length ≤ 60 ∧ ns'.Pairwise (· < ·) ∧ (∀ k, k ∈ ns' ↔ k ∈ ns) ∧ d = .list (ns'.map .int)
theorem lt_same : ∀ {a b : List Int}, a.Pairwise (· < ·) → b.Pairwise (· < ·) → (∀ k, k ∈ a ↔ k ∈ b) → a = b
  | [], [], _, _, _ => rfl
  | [], y :: ys, _, _, h => absurd ((h y).mpr List.mem_cons_self) (by simp)
  | x :: xs, [], _, _, h => absurd ((h x).mp List.mem_cons_self) (by simp)
  | x :: xs, y :: ys, ha, hb, h => by
    obtain ⟨a1, a2⟩ := List.pairwise_cons.mp ha
    obtain ⟨b1, b2⟩ := List.pairwise_cons.mp hb
    have e : x = y := by
      have h1 := (h x).mp List.mem_cons_self
      have h2 := (h y).mpr List.mem_cons_self
      rcases List.mem_cons.mp h1 with q | q
      · exact q
      · rcases List.mem_cons.mp h2 with q2 | q2
        · exact q2.symm
        · have := a1 y q2
          have := b1 x q
          omega
    subst e
    have t : ∀ k, k ∈ xs ↔ k ∈ ys := fun k => by
      refine ⟨fun hk => ?_, fun hk => ?_⟩
      · rcases List.mem_cons.mp ((h k).mp (List.mem_cons_of_mem _ hk)) with q | q
        · have := a1 k hk
          omega
        · exact q
      · rcases List.mem_cons.mp ((h k).mpr (List.mem_cons_of_mem _ hk)) with q | q
        · have := b1 k hk
          omega
        · exact q
    rw [lt_same a2 b2 t]
theorem de_sortSet (hc : X.calm = true) (g1 : Gl X "sorted") (m1 : X.mg "sorted" = none) (g2 : Gl X "set") (m2 : X.mg "set" = none) (he : DE X e r)
    (hs : starEach (e :: []) X.env = (false, eval e X.env) :: starEach [] X.env := by rfl) (hs2 : starEach (.Call (.Name "set" p2) [e] [] p3 :: []) X.env = (false, eval (.Call (.Name "set" p2) [e] [] p3) X.env) :: starEach [] X.env := by rfl) :
    DE X (.Call (.Name "sorted" p1) [.Call (.Name "set" p2) [e] [] p3] [] pos) (RSortSet r) :=
  (pe_callB (cr_sortedSet hc) g1 m1 (by decide +kernel) (pa_cons (pe_callTy (cr_setIT hc) g2 m2 (by decide +kernel) (pa_cons he pa_nil hs) (by decide) (by decide) hs) pa_nil hs2) (by decide) (by decide) hs2).imp fun σ H Q ⟨hot, ρ, d, al, rs, ⟨ns, ns', h1, hz, hp, hm, e⟩, k⟩ => by
    subst e
    refine ⟨hot, ρ, _, al, rs, h1, fun v H1 s1 r1 => ?_⟩
    obtain ⟨a, vs, rfl, ha, hv⟩ := r1
    have e := hv.ints
    subst e
    refine ⟨a, ns, rfl, SqT.of (cold_same _ _ ha), hz, fun b n hb hn => ?_⟩
    refine ⟨b, _, n, rfl, upd_same, by omega, fun ms p q1 q2 q3 hp2 => ?_⟩
    have e : ms = ns' := lt_same q1 hp fun k => by rw [q2, hm]; exact decide_eq_true_iff
    subst e
    have hb2 : p ≠ b := fun z => by rw [z, upd_same] at hp2; cases hp2
    have hp1 : H1 p = none := by rw [upd_ne hb2] at hp2; exact hp2
    have s2 := (same_new hb (SetO X.w b (fun j => decide (j ∈ ns)) n)).trans (same_new hp2 (.lst (ms.map V.int)))
    exact k _ _ (s1.trans s2) ⟨p, _, rfl, by rw [cold_at ((al.mono s1).fresh hp1), upd_same], RpAll.of_ints _⟩
/-- list(range(n)) -/
theorem de_listRg (hc : X.calm = true) (g1 : Gl X "list") (m1 : X.mg "list" = none) (g2 : Gl X "range") (m2 : X.mg "range" = none) (he : DE X e r)
    (hs : starEach [e] X.env = (false, eval e X.env) :: starEach [] X.env := by rfl) (hs2 : starEach [.Call (.Name "range" p2) [e] [] p3] X.env = (false, eval (.Call (.Name "range" p2) [e] [] p3) X.env) :: starEach [] X.env := by rfl) :
    DE X (.Call (.Name "list" p1) [.Call (.Name "range" p2) [e] [] p3] [] pos) (fun ρ d => ∃ n : Nat, r ρ (.int n) ∧ n ≤ 1000000 ∧ d = .list (((List.range n).map fun i : Nat => (i : Int)).map .int)) :=
  (pe_listRg hc g1 m1 (prg_1 g2 m2 he hs) hs2).imp fun σ H Q ⟨hot, ρ, d, al, rs, ⟨n, h1, hz, e⟩, k⟩ => by
    subst e
    refine ⟨hot, ρ, _, al, rs, h1, fun v H1 s1 r1 => ?_⟩
    have e : v = V.int n := r1
    refine ⟨_, e, RgOk.of_le (by omega) (by omega) (by omega) (by omega), fun q hq => ?_⟩
    have er : rgV 0 (n : Int) = ((List.range n).map fun i : Nat => (i : Int)).map V.int := by
      unfold rgV
      rw [List.map_map]
      have en : ((n : Int) - 0).toNat = n := by omega
      rw [en]
      refine List.map_congr_left fun i _ => ?_
      show V.int (0 + (i : Int)) = V.int i
      rw [Int.zero_add]
    rw [er]
    exact k _ _ (s1.trans (same_new hq _)) ⟨q, _, rfl, cold_new (al.mono s1) hq, RpAll.of_ints _⟩
/-- isinstance(x, T), T a built-in type -/
def tyOf : PyData → String
  | .bool _ => "bool"
  | .int _ => "int"
  | .str _ => "str"
  | .list _ => "list"
  | .tuple _ => "tuple"
  | .none => "NoneType"
  | .dict _ => "dict"
theorem de_isi {x T : String} (hx : Str.ofString x = Str.ofString T) (g1 : Gl X "isinstance") (m1 : X.mg "isinstance" = none) (g2 : Gl X (Str.ofString x)) (m2 : X.mg (Str.ofString x) = none) (hv : bootBuiltins (Str.ofString x) = some (.type T)) (hn : Str.ofString x ≠ "__name__") (hd : (Str.ofString x == ("__debug__" : Str)) = false) (he : DE X e r)
    (hs : starEach (e :: [.Name (Str.ofString x) p2]) X.env = (false, eval e X.env) :: starEach [.Name (Str.ofString x) p2] X.env := by rfl) (hpl : (backTo pos (starEach [.Name (Str.ofString x) p2] X.env)).any (·.1) = false := by rfl) :
    DE X (.Call (.Name "isinstance" p1) [e, .Name (Str.ofString x) p2] [] pos) (fun ρ d => ∃ d1 b, r ρ d1 ∧ (match d1 with | .dict _ => False | .none => False | _ => True) ∧ kitB (tyOf d1) T = some b ∧ d = .bool b) :=
  (pe_callB call_isi g1 m1 (by decide +kernel) (pa_cons he (pa_cons (pe_bltn (v := .ty T) g2 m2 hv rfl hn hd) pa_nil) hs) (by decide) (by decide) hs hpl).imp fun σ H Q ⟨hot, ρ, d, al, rs, ⟨d1, b, h1, hm, hb, e⟩, k⟩ => by
    subst e
    refine ⟨hot, ρ, d1, al, rs, h1, fun v H1 s1 r1 => ?_⟩
    refine ⟨v, .ty T, .type (tyOf d1), .type T, b, rfl, .ty T, ?_, kit_ty hb, k _ _ s1 rfl⟩
    cases d1 with
    | none => exact hm.elim
    | dict _ => exact hm.elim
    | bool y =>
      have e : v = V.bl y := r1
      subst e
      exact .base (.bl y)
    | int y =>
      have e : v = V.int y := r1
      subst e
      exact .base (.int y)
    | str y =>
      have e : v = V.str y := r1
      subst e
      exact .base (.str y)
    | list ds =>
      obtain ⟨a, vs, rfl, ha, _⟩ := r1
      exact .base (.lst (cold_same _ _ ha))
    | tuple ds =>
      obtain ⟨a, vs, rfl, ha, _⟩ := r1
      exact .base (.tup (cold_same _ _ ha))
/-- len(set(xs)), xs a list of tuples of ints that are all one -/
theorem de_lenSet1 (hc : X.calm = true) (hu : X.A.units + 64 < cLine) (g1 : Gl X "len") (m1 : X.mg "len" = none) (g2 : Gl X "set") (m2 : X.mg "set" = none) (he : DE X e r)
    (hs : starEach (e :: []) X.env = (false, eval e X.env) :: starEach [] X.env := by rfl) (hs2 : starEach (.Call (.Name "set" p2) [e] [] p3 :: []) X.env = (false, eval (.Call (.Name "set" p2) [e] [] p3) X.env) :: starEach [] X.env := by rfl) :
    DE X (.Call (.Name "len" p1) [.Call (.Name "set" p2) [e] [] p3] [] pos) (fun ρ d => ∃ (ls : List (List Int)) (l : List Int), r ρ (.list (ls.map tI)) ∧ ls ≠ [] ∧ ls.length < 64 ∧ (∀ k ∈ ls, k = l) ∧ d = .int 1) :=
  (pe_callB cr_lenST g1 m1 (by decide +kernel) (pa_cons (pe_callTy (cr_setOfT hc hu) g2 m2 (by decide +kernel) (pa_cons he pa_nil hs) (by decide) (by decide) hs) pa_nil hs2) (by decide) (by decide) hs2).imp fun σ H Q ⟨hot, ρ, d, al, rs, ⟨ls, l, h1, hne, hlt, hall, e⟩, k⟩ => by
    subst e
    refine ⟨hot, ρ, _, al, rs, h1, fun v H1 s1 r1 => ?_⟩
    obtain ⟨a, vs, rfl, ha, hv⟩ := r1
    obtain ⟨e1, e2⟩ := rpAll_tI hv
    -- the pairs (address, ints)
    have key : ∀ ws : List V, (∀ x ∈ ws, ∃ t, x = V.ref t ∧ H1 t = some (.tup ((intsV H1 x).map V.int)) ∧ hot t = false) → ∃ ks : List (Addr × List Int), ws = ks.map (fun p => V.ref p.1) ∧ (∀ p ∈ ks, H1 p.1 = some (.tup (p.2.map V.int))) ∧ ks.map (·.2) = ws.map (intsV H1) := by
      intro ws
      induction ws with
      | nil => intro _; exact ⟨[], rfl, (fun p h => absurd h (by simp)), rfl⟩
      | cons x ws ih =>
        intro h
        obtain ⟨ks, q1, q2, q3⟩ := ih fun y hy => h y (List.mem_cons_of_mem _ hy)
        obtain ⟨t, rfl, ht, _⟩ := h x List.mem_cons_self
        refine ⟨(t, intsV H1 (V.ref t)) :: ks, by rw [List.map_cons, ← q1], fun p hp => ?_, by rw [List.map_cons, List.map_cons, q3]⟩
        rcases List.mem_cons.mp hp with z | z
        · rw [z]; exact ht
        · exact q2 p z
    obtain ⟨ks, q1, q2, q3⟩ := key vs e2
    rw [e1] at q3
    have hkl : ks.length = ls.length := by
      have := congrArg List.length q3
      rwa [List.length_map] at this
    refine ⟨a, ks, rfl, SqL.of (by rw [← q1]; exact cold_same _ _ ha), fun p hp => SqT.of (q2 p hp), by omega, fun b L hb hL hK => ?_⟩
    refine ⟨b, L, rfl, upd_same, fun nd => ?_⟩
    have allL : ∀ p ∈ L, p.2 = l := fun p hp => hall _ (by rw [← q3]; exact List.mem_map.mpr ⟨p, hL p hp, rfl⟩)
    have hLne : L ≠ [] := by
      intro z
      cases ks with
      | nil =>
        rw [List.length_nil] at hkl
        exact hne (List.eq_nil_of_length_eq_zero hkl.symm)
      | cons p ks =>
        have := hK p List.mem_cons_self
        rw [z] at this
        cases this
    have hL1 : L.length = 1 := by
      match L, hLne with
      | [p], _ => rfl
      | p :: q :: L, _ =>
        exfalso
        rw [List.map_cons, List.map_cons] at nd
        have n1 := (List.nodup_cons.mp nd).1
        apply n1
        rw [allL p List.mem_cons_self, ← allL q (List.mem_cons_of_mem _ List.mem_cons_self)]
        exact List.mem_cons_self
    rw [hL1]
    exact k _ _ (s1.trans (same_new hb _)) rfl
end
/-! ### chains of three -/
section
variable {X : Cx} {a b c d : Expr} {ra rb rc rd : RD} {pos : Pos}
theorem dt_lt4 (ha : DE X a ra) (hb : DE X b rb) (hc : DE X c rc) (hd : DE X d rd) (hm : lastMarks [.Lt, .Lt, .Lt] [b, c, d] = false := by with_unfolding_all rfl) :
    DT X (.Compare a [.Lt, .Lt, .Lt] [b, c, d] pos) (fun ρ k => ∃ i j l m : Int, ra ρ (.int i) ∧ rb ρ (.int j) ∧ rc ρ (.int l) ∧ rd ρ (.int m) ∧ k = (decide (i < j) && (decide (j < l) && decide (l < m)))) :=
  (pt_chain3 op_lt op_lt op_lt ha hb hc hd hm).imp fun σ H Q ⟨hot, ρ, k, al, rs, ⟨i, j, l, m, h1, h2, h3, h4, e⟩, kk⟩ => by
    subst e
    refine ⟨hot, ρ, .int i, al, rs, h1, fun x H1 s1 r1 => ⟨hot, ρ, .int j, al.mono s1, rs.mono (cold_mono s1), h2, fun y H2 s2 r2 => ?_⟩⟩
    have e1 : x = V.int i := r1
    have e2 : y = V.int j := r2
    have s12 := s1.trans s2
    refine ⟨i, j, e1, e2, decide (i < j), rfl, ?_⟩
    by_cases c1 : i < j
    · rw [if_pos (decide_eq_true c1)]
      refine ⟨hot, ρ, .int l, al.mono s12, rs.mono (cold_mono s12), h3, fun z H3 s3 r3 => ?_⟩
      have e3 : z = V.int l := r3
      have s13 := s12.trans s3
      refine ⟨j, l, e2, e3, decide (j < l), rfl, ?_⟩
      by_cases c2 : j < l
      · rw [if_pos (decide_eq_true c2)]
        refine ⟨hot, ρ, .int m, al.mono s13, rs.mono (cold_mono s13), h4, fun w H4 s4 r4 => ?_⟩
        have e4 : w = V.int m := r4
        refine ⟨l, m, e3, e4, decide (l < m), rfl, ?_⟩
        have q := kk H4 (s13.trans s4)
        rw [decide_eq_true c1, decide_eq_true c2] at q
        exact q
      · rw [if_neg (by rw [decide_eq_false c2]; exact Bool.false_ne_true)]
        have q := kk H3 s13
        rw [decide_eq_true c1, decide_eq_false c2] at q
        exact ⟨false, rfl, q⟩
    · rw [if_neg (by rw [decide_eq_false c1]; exact Bool.false_ne_true)]
      have q := kk H2 s12
      rw [decide_eq_false c1] at q
      exact ⟨false, rfl, q⟩
end
/-! ### enumerate(t) -/
theorem gv_enumT {K : PySem.W.Frag} {hot : Hot} {H : Hp} {a : Addr} {vs : List V} {ds : List PyData} (ha : H a = some (.tup vs)) (hs : RpAll (cold hot H) ds vs) : Gv hot (IteT K a) (enumD ds) H := fun hot' H2 s al c b => by
  refine ⟨fun i d hd => ?_, fun i hi => ⟨vs, SqT.of (s _ _ ha), by rw [hs.length]; rw [enumD_len] at hi; exact hi⟩⟩
  obtain ⟨d', hd', rfl⟩ := enumD_at hd
  obtain ⟨v, h1, h2⟩ := hs.at hd'
  refine ⟨⟨vs, v, SqT.of (s _ _ ha), h1⟩, fun x H3 y => ?_⟩
  obtain ⟨T, z, rfl, hT, rfl, y⟩ := y
  have q := y vs (SqT.of (s _ _ ha))
  rw [h1] at q
  cases q
  refine ⟨same_new hT _, T, _, rfl, cold_new al hT, .int (i : Int), _, rfl, rfl, v, [], rfl, ?_, rfl⟩
  exact Rp.mono ((cold_more s b).trans (cold_mono (same_new hT _))) _ _ h2
theorem di_enumT {X : Cx} {e : Expr} {r : RD} {pos p tpos : Pos} {elts : List Expr} {kk : Nat} (hg : Gl X "enumerate") (hm : X.mg "enumerate" = none) (h : DE X e r) (hs : starEach [e] X.env = [(false, eval e X.env)] := by rfl) : DI X (.Tuple elts kk tpos) (.Call (.Name "enumerate" p) [e] [] pos) (fun ρ ds => ∃ es, r ρ (.tuple es) ∧ ds = enumD es) :=
  (pi_enumT hg hm (pa_cons h pa_nil hs) hs).imp fun σ H R ⟨hot, ρ, ds, al, rs, ⟨es, h1, e⟩, k⟩ => by
    subst e
    refine ⟨hot, ρ, .tuple es, al, rs, h1, fun x H1 s1 r1 => ?_⟩
    obtain ⟨a, vs, rfl, ha, hs⟩ := r1
    exact ⟨a, vs, rfl, SqT.of (cold_same _ _ ha), k _ H1 s1 (gv_enumT (cold_same _ _ ha) hs)⟩
end Rng
/-! the text by places, what its top leaves, calls of its defs -/
namespace Rng
open PySem PySem.Spec PyProof.Rows L2
def top (i : Nat) : Stmt := PySem.Challenge.pw_ringlots_k84_whole_deals_cleared.main.body.getD i (.Pass ⟨0, 0, 0, 0⟩)
abbrev s_is_whole : Stmt := top 10
abbrev s_is_among : Stmt := top 11
abbrev s_is_lot : Stmt := top 12
abbrev s_is_deal : Stmt := top 13
abbrev s_need_deal : Stmt := top 14
abbrev s_size : Stmt := top 15
abbrev s_lot_with : Stmt := top 16
abbrev s_lot_of : Stmt := top 17
abbrev s_is_four : Stmt := top 18
abbrev s_fours : Stmt := top 19
abbrev s_crossing_by : Stmt := top 20
abbrev s_crossing : Stmt := top 21
abbrev s_do_cross : Stmt := top 22
abbrev s_is_clear : Stmt := top 23
abbrev s_shows_four : Stmt := top 24
abbrev s_shows_crossing : Stmt := top 25
abbrev s_is_parting : Stmt := top 26
abbrev s_need_parting : Stmt := top 27
abbrev s_in_order : Stmt := top 28
abbrev s_need_two : Stmt := top 32
abbrev s_parts_two : Stmt := top 33
abbrev s_finer_by : Stmt := top 34
abbrev s_finer : Stmt := top 35
abbrev s_must_join : Stmt := top 36
abbrev s_put_together : Stmt := top 37
abbrev s_cleared_by : Stmt := top 38
abbrev s_over : Stmt := top 39
abbrev s_cleared : Stmt := top 40
abbrev s_law_cell_at : Stmt := top 42
abbrev s_law_pen : Stmt := top 43
abbrev s_law_draw : Stmt := top 44
abbrev s_law_pick : Stmt := top 45
abbrev s_law_mixed : Stmt := top 46
abbrev s_law_seats : Stmt := top 47
abbrev s_law_parting : Stmt := top 48
abbrev s_law_deal : Stmt := top 49
abbrev s_law_fours : Stmt := top 50
abbrev s_law_is_clear : Stmt := top 51
abbrev s_law_in_order : Stmt := top 52
abbrev s_law_put : Stmt := top 53
abbrev s_law_joins : Stmt := top 54
abbrev s_law_drawn_row : Stmt := top 55
abbrev s_law_coarser : Stmt := top 56
abbrev s_law_two : Stmt := top 57
abbrev s_law_has_all : Stmt := top 58
abbrev s_law_clear_right : Stmt := top 59
abbrev s_law_laid : Stmt := top 60
abbrev s_law_joined_right : Stmt := top 61
abbrev s_law : Stmt := top 62
structure Txt (mg : Str → Option Value) : Prop where
  isinstance : mg "isinstance" = none
  int : mg "int" = none
  bool : mg "bool" = none
  tuple : mg "tuple" = none
  len : mg "len" = none
  all : mg "all" = none
  any : mg "any" = none
  list : mg "list" = none
  sorted : mg "sorted" = none
  set : mg "set" = none
  sum : mg "sum" = none
  range : mg "range" = none
  enumerate : mg "enumerate" = none
  zip : mg "zip" = none
  max : mg "max" = none
  min : mg "min" = none
  cMOST_SEATS : ∃ tk, mg "MOST_SEATS" = some (.int 8 tk)
  cCLEAR : ∃ tk, mg "CLEAR" = some (.str "clear" tk)
  cCROSS : ∃ tk, mg "CROSS" = some (.str "cross" tk)
  cFINER : ∃ tk, mg "FINER" = some (.str "finer" tk)
  cAPART : ∃ tk, mg "APART" = some (.str "apart" tk)
theorem _root_.L2.Room.u65 {k : Nat} {A : Around} (r : Room k A) : A.units + 65 < cLine := by have := r.un; omega
/-- a def stands where the text says -/
def Has (K : PySem.W.Frag) (mg : Str → Option Value) (x : Str) (st : Stmt) (f : Addr) (fd : FuncData) : Prop := FnP K x st f fd ∧ mg x = some (.ref f)
/-- it can be called, and keeps R -/
def CalS (P : Program) (w : World) (K : PySem.W.Frag) (mg : Str → Option Value) (base : Heap) (k : Nat) (x : Str) (ps : List Str) (sp : Sp) : Prop :=
  ∃ f fd, FnOk P w K mg base CX0 k f fd ps sp ∧ mg x = some (.ref f) ∧ PySem.W.keepIn K (.ref f) = true ∧ Binds K fd ps []
abbrev Cal (P : Program) (w : World) (K : PySem.W.Frag) (mg : Str → Option Value) (base : Heap) (k : Nat) (x : Str) (ps : List Str) (R : List PyData → PyData → Prop) : Prop := CalS P w K mg base k x ps (spR R)
theorem pe_cal {X : Cx} {k j : Nat} {x : Str} {ps : List Str} {sp : Sp} {e : Expr} {es : List Expr} {p pos : Pos} {t : TA} (C : CalS X.prog X.w X.K X.mg X.base k x ps sp) (hr : Room j X.A) (hj : k ≤ j) (hg : Gl X x) (ha : PA X (e :: es) t)
    (hdb : (x == ("__debug__" : Str)) = false := by decide) (he : starEach (e :: es) X.env = (false, eval e X.env) :: starEach es X.env := by rfl) (hpl : (backTo pos (starEach es X.env)).any (·.1) = false := by rfl) :
    PE X (.Call (.Name x p) (e :: es) [] pos) (tCall sp [] E0 t) := by
  obtain ⟨f, fd, F, hm, hk, hb⟩ := C
  exact pe_call F (hr.mono hj) hg hm hk hb .nil pass0 ha hdb he hpl
theorem de_cal {X : Cx} {k j : Nat} {x : Str} {ps : List Str} {R : List PyData → PyData → Prop} {e : Expr} {es : List Expr} {p pos : Pos} {rs : RA} (C : Cal X.prog X.w X.K X.mg X.base k x ps R) (hr : Room j X.A) (hj : k ≤ j) (hg : Gl X x) (ha : DA X (e :: es) rs)
    (hdb : (x == ("__debug__" : Str)) = false := by decide) (he : starEach (e :: es) X.env = (false, eval e X.env) :: starEach es X.env := by rfl) (hpl : (backTo pos (starEach es X.env)).any (·.1) = false := by rfl) :
    DE X (.Call (.Name x p) (e :: es) [] pos) (rCall R rs) := by
  obtain ⟨f, fd, F, hm, hk, hb⟩ := C
  exact de_call F (hr.mono hj) hg hm hk hb pass0 ha hdb he hpl
theorem CalS.mk' {P : Program} {w : World} {K : PySem.W.Frag} {mg : Str → Option Value} {base : Heap} {k : Nat} {x : Str} {st : Stmt} {ps : List Str} {sp : Sp} {f : Addr} {fd : FuncData} (h : Has K mg x st f fd) (F : FnOk P w K mg base CX0 k f fd ps sp)
    (b : ∀ (kV doc pm : Value) (an : Option Addr) (cdv ct : Value) (us : List Value), us.length = ps.length → bindArgs (PySem.W.fnOf x x (defArgs st) (defBody st) (defScope st) .none kV doc pm an cdv ct) ⟨us, []⟩ = pure (ps.zip us)) : CalS P w K mg base k x ps sp :=
  ⟨f, fd, F, h.2, h.1.kp, h.1.bindsN b⟩
/-! ### seats, lots, deals as trees -/
def zs (l : List Nat) : List Int := l.map fun n : Nat => (n : Int)
abbrev eN (n : Nat) : PyData := .int (n : Int)
abbrev eLot (l : List Nat) : PyData := tI (zs l)
abbrev eDeal (D : List (List Nat)) : PyData := .tuple (D.map eLot)
abbrev eLots (D : List (List Nat)) : PyData := .list (D.map eLot)
theorem zs_len (l : List Nat) : (zs l).length = l.length := List.length_map _
theorem zs_inj {a b : List Nat} (h : zs a = zs b) : a = b := List.map_inj_right (fun x y e => by omega) |>.mp h
theorem zs_append (a b : List Nat) : zs (a ++ b) = zs a ++ zs b := List.map_append
theorem eqv_ints : ∀ a b : List Int, PyData.eqvAll (a.map .int) (b.map .int) = decide (a = b)
  | [], [] => by simp [PyData.eqvAll]
  | [], _ :: _ => by simp [PyData.eqvAll]
  | _ :: _, [] => by simp [PyData.eqvAll]
  | x :: a, y :: b => by
    have ih := eqv_ints a b
    rw [List.map_cons, List.map_cons, PyData.eqvAll, ih, PyData.eqv, Bool.eq_iff_iff]
    simp
theorem eqv_tI (a b : List Int) : PyData.eqv (tI a) (tI b) = decide (a = b) := by rw [PyData.eqv]; exact eqv_ints a b
theorem eqv_lot (a b : List Nat) : PyData.eqv (eLot a) (eLot b) = decide (a = b) := by
  rw [eqv_tI, Bool.eq_iff_iff]
  simp only [decide_eq_true_eq]
  exact ⟨zs_inj, fun e => by rw [e]⟩
theorem eqv_lotsA : ∀ a b : List (List Nat), PyData.eqvAll (a.map eLot) (b.map eLot) = decide (a = b)
  | [], [] => by simp [PyData.eqvAll]
  | [], _ :: _ => by simp [PyData.eqvAll]
  | _ :: _, [] => by simp [PyData.eqvAll]
  | x :: a, y :: b => by
    have ih := eqv_lotsA a b
    rw [List.map_cons, List.map_cons, PyData.eqvAll, ih, eqv_lot, Bool.eq_iff_iff]
    simp
theorem eqv_deal (a b : List (List Nat)) : PyData.eqv (eDeal a) (eDeal b) = decide (a = b) := by rw [PyData.eqv]; exact eqv_lotsA a b
theorem eqv_N (a b : Nat) : PyData.eqv (eN a) (eN b) = decide (a = b) := by
  rw [PyData.eqv, Bool.eq_iff_iff]
  simp
  omega
theorem can_ints : ∀ a : List Int, PyData.canLayAll0 (a.map .int) = true
  | [] => rfl
  | x :: a => by rw [List.map_cons, PyData.canLayAll0, can_ints a, PyData.canLay0]; rfl
theorem dep_ints : ∀ a : List Int, PyData.depthAll (a.map .int) = 0
  | [] => rfl
  | x :: a => by rw [List.map_cons, PyData.depthAll, dep_ints a, PyData.depth]; rfl
theorem sh_tI (a : List Int) : SeqAt.shaped (tI a) = true := by
  unfold SeqAt.shaped
  rw [PyData.canLay0, can_ints, PyData.depth, dep_ints]
  rfl
theorem sh_li (a : List Int) : SeqAt.shaped (.list (a.map .int)) = true := by
  unfold SeqAt.shaped
  rw [PyData.canLay0, can_ints, PyData.depth, dep_ints]
  rfl
theorem sh_lot (l : List Nat) : SeqAt.shaped (eLot l) = true := sh_tI _
theorem sh_int (i : Int) : SeqAt.shaped (.int i) = true := rfl
theorem sh_bool (b : Bool) : SeqAt.shaped (.bool b) = true := rfl
theorem can_lots : ∀ a : List (List Nat), PyData.canLayAll0 (a.map eLot) = true
  | [] => rfl
  | x :: a => by rw [List.map_cons, PyData.canLayAll0, can_lots a, PyData.canLay0, can_ints]; rfl
theorem dep_lots : ∀ a : List (List Nat), PyData.depthAll (a.map eLot) ≤ 1
  | [] => Nat.zero_le _
  | x :: a => by
    rw [List.map_cons, PyData.depthAll, PyData.depth, dep_ints]
    have := dep_lots a
    omega
theorem sh_deal (a : List (List Nat)) : SeqAt.shaped (eDeal a) = true := by
  unfold SeqAt.shaped
  rw [PyData.canLay0, can_lots, PyData.depth]
  have := dep_lots a
  simp only [Bool.true_and, decide_eq_true_eq]
  omega
theorem sh_lots (a : List (List Nat)) : SeqAt.shaped (eLots a) = true := by
  unfold SeqAt.shaped
  rw [PyData.canLay0, can_lots, PyData.depth]
  have := dep_lots a
  simp only [Bool.true_and, decide_eq_true_eq]
  omega
/-- x in a lot; a lot in lots -/
theorem any_lot (s : Nat) (l : List Nat) : (((zs l).map PyData.int).any fun z => PyData.eqv z (eN s)) = decide (s ∈ l) := by
  unfold zs
  rw [List.map_map, List.any_map, Bool.eq_iff_iff]
  simp only [List.any_eq_true, decide_eq_true_eq, Function.comp]
  constructor
  · rintro ⟨x, hx, e⟩
    have e : PyData.eqv (eN x) (eN s) = true := e
    rw [eqv_N, decide_eq_true_eq] at e
    rw [← e]
    exact hx
  · intro h
    refine ⟨s, h, ?_⟩
    show PyData.eqv (eN s) (eN s) = true
    rw [eqv_N, decide_eq_true_eq]
theorem any_lots (l : List Nat) (D : List (List Nat)) : ((D.map eLot).any fun z => PyData.eqv z (eLot l)) = decide (l ∈ D) := by
  rw [List.any_map, Bool.eq_iff_iff]
  simp only [List.any_eq_true, decide_eq_true_eq, Function.comp]
  constructor
  · rintro ⟨x, hx, e⟩
    rw [eqv_lot, decide_eq_true_eq] at e
    rw [← e]
    exact hx
  · intro h
    exact ⟨l, h, by rw [eqv_lot, decide_eq_true_eq]⟩
end Rng
namespace Rng
open PySem PySem.Spec PyProof.Rows L2
/-! ### what lots and deals are -/
def IsLot (l : List Nat) : Prop := l ≠ [] ∧ l.Pairwise (· < ·)
structure IsDeal (n : Nat) (D : List (List Nat)) : Prop where
  n1 : 1 ≤ n
  n8 : n ≤ 8
  lot : ∀ l ∈ D, IsLot l
  cov : D.flatten.Perm (List.range n)
  ord : LxS (D.map zs)
/-- the first lot with a seat -/
def lotW (D : List (List Nat)) (s : Nat) : List Nat := (D.find? fun l => decide (s ∈ l)).getD []
theorem zs_pw {l : List Nat} (h : l.Pairwise (· < ·)) : (zs l).Pairwise (· < ·) := List.pairwise_map.mpr (h.imp fun {a b} h => by omega)
theorem zs_mem {l : List Nat} {k : Int} : k ∈ zs l ↔ ∃ n ∈ l, (n : Int) = k := by unfold zs; exact List.mem_map
theorem IsDeal.lt {n : Nat} {D : List (List Nat)} (h : IsDeal n D) {l : List Nat} (hl : l ∈ D) {s : Nat} (hs : s ∈ l) : s < n := List.mem_range.mp (h.cov.mem_iff.mp (List.mem_flatten.mpr ⟨l, hl, hs⟩))
theorem IsDeal.has {n : Nat} {D : List (List Nat)} (h : IsDeal n D) {s : Nat} (hs : s < n) : ∃ l ∈ D, s ∈ l := by
  obtain ⟨l, h1, h2⟩ := List.mem_flatten.mp (h.cov.mem_iff.mpr (List.mem_range.mpr hs))
  exact ⟨l, h1, h2⟩
theorem sum_len (D : List (List Nat)) : (D.map List.length).sum = D.flatten.length := by rw [List.length_flatten]
theorem IsDeal.sum {n : Nat} {D : List (List Nat)} (h : IsDeal n D) : (D.map List.length).sum = n := by
  rw [sum_len, h.cov.length_eq, List.length_range]
theorem len_le_flat : ∀ {D : List (List Nat)}, (∀ l ∈ D, l ≠ []) → D.length ≤ D.flatten.length
  | [], _ => Nat.zero_le _
  | l :: D, h => by
    have := len_le_flat (D := D) fun k hk => h k (List.mem_cons_of_mem _ hk)
    have h1 : l.length ≠ 0 := fun e => h l List.mem_cons_self (List.eq_nil_of_length_eq_zero e)
    rw [List.length_cons, List.flatten_cons, List.length_append]
    omega
theorem lot_le_flat : ∀ {D : List (List Nat)} {l : List Nat}, l ∈ D → l.length ≤ D.flatten.length
  | l' :: D, l, h => by
    rw [List.flatten_cons, List.length_append]
    rcases List.mem_cons.mp h with e | h
    · rw [e]; omega
    · have := lot_le_flat h
      omega
theorem IsDeal.flen {n : Nat} {D : List (List Nat)} (h : IsDeal n D) : D.flatten.length = n := by rw [h.cov.length_eq, List.length_range]
theorem IsDeal.len {n : Nat} {D : List (List Nat)} (h : IsDeal n D) : D.length ≤ n := by
  have := len_le_flat (D := D) fun l hl => (h.lot l hl).1
  rw [h.flen] at this
  exact this
theorem IsDeal.ne {n : Nat} {D : List (List Nat)} (h : IsDeal n D) : D ≠ [] := fun e => by
  have := h.flen
  rw [e] at this
  have := h.n1
  simp at *
  omega
theorem IsDeal.llen {n : Nat} {D : List (List Nat)} (h : IsDeal n D) {l : List Nat} (hl : l ∈ D) : l.length ≤ n := by
  have := lot_le_flat hl
  rw [h.flen] at this
  exact this
theorem sum_ints : ∀ l : List Nat, (l.map fun n : Nat => (n : Int)).sum = ((l.sum : Nat) : Int)
  | [] => rfl
  | n :: l => by rw [List.map_cons, List.sum_cons, List.sum_cons, sum_ints l]; omega
theorem bT {p : Prop} [Decidable p] (h : p) : PyData.bool true = .bool (decide p) := congrArg PyData.bool (decide_eq_true h).symm
theorem bF {p : Prop} [Decidable p] (h : ¬p) : PyData.bool false = .bool (decide p) := congrArg PyData.bool (decide_eq_false h).symm
theorem kit_ii : kitB "int" "int" = some true := by decide +kernel
theorem kit_ib : kitB "int" "bool" = some false := by decide +kernel
theorem kit_tt : kitB "tuple" "tuple" = some true := by decide +kernel
section
variable {P : Program} {w : World} {K : PySem.W.Frag} {mg : Str → Option Value} {base : Heap} {f : Addr} {fd : FuncData}
abbrev R_is_whole : List PyData → PyData → Prop := fun ds d => ∃ i : Int, ds = [.int i] ∧ d = .bool true
abbrev N_is_whole : List Str := ["thing"]
theorem sc_is_whole : FnScope N_is_whole ["thing"] (defScope s_is_whole) := ⟨rfl, rfl, rfl, by decide +kernel, rfl, by decide +kernel, by decide +kernel⟩
theorem c_is_whole (T : Txt mg) (h : Has K mg "is_whole" s_is_whole f fd) : Cal P w K mg base 1 "is_whole" ["thing"] R_is_whole := by
  refine CalS.mk' h (fn_D h.1 sc_is_whole (fun ds d ⟨i, e, _⟩ => by rw [e]; rfl) (fun cdv A outer s H E hr => ⟨_, (dss_one (ds_ret (de_and (de_isi (x := "int") (T := "int") rfl rfl T.isinstance rfl T.int (by decide +kernel) (by decide +kernel) (by decide +kernel) (de_var 0)) (de_one (de_not (de_isi (x := "bool") (T := "bool") rfl rfl T.isinstance rfl T.bool (by decide +kernel) (by decide +kernel) (by decide +kernel) (de_var 0))))))), fun ds d ⟨i, e1, e2⟩ => ?_⟩)) (fun _ _ _ _ _ _ us hl => match us, hl with | [_], _ => rfl)
  subst e1 e2
  exact ⟨_, ⟨true, ⟨_, true, rfl, trivial, kit_ii, rfl⟩, iteT ⟨false, ⟨_, false, rfl, trivial, kit_ib, rfl⟩, rfl⟩⟩, rfl⟩
abbrev R_is_among : List PyData → PyData → Prop := fun ds d => ∃ i a b : Int, a ≤ i ∧ i ≤ b ∧ ds = [.int i, .int a, .int b] ∧ d = .bool true
abbrev N_is_among : List Str := ["thing", "least", "most"]
theorem sc_is_among : FnScope N_is_among ["thing", "least", "most"] (defScope s_is_among) := ⟨rfl, rfl, rfl, by decide +kernel, rfl, by decide +kernel, by decide +kernel⟩
theorem c_is_among (T : Txt mg) (C_is_whole : Cal P w K mg base 1 "is_whole" ["thing"] R_is_whole) (h : Has K mg "is_among" s_is_among f fd) : Cal P w K mg base 2 "is_among" ["thing", "least", "most"] R_is_among := by
  refine CalS.mk' h (fn_D h.1 sc_is_among (fun ds d ⟨i, a, b, _, _, e, _⟩ => by rw [e]; rfl) (fun cdv A outer s H E hr => ⟨_, (dss_one (ds_ret (de_and (de_cal C_is_whole hr (by decide) rfl (da_cons (de_var 0) da_nil)) (de_one (de_chain op_le vop_B op_le vop_B (de_var 1) (de_var 0) (de_var 2)))))), fun ds d ⟨i, a, b, h1, h2, e1, e2⟩ => ?_⟩)) (fun _ _ _ _ _ _ us hl => match us, hl with | [_, _, _], _ => rfl)
  subst e1 e2
  exact ⟨_, ⟨true, ⟨_, ⟨_, _, rfl, rfl, rfl⟩, i, rfl, rfl⟩, iteT ⟨_, _, true, rfl, rfl, ⟨a, i, rfl, rfl, bT h1⟩, iteT ⟨_, rfl, i, b, rfl, rfl, bT h2⟩⟩⟩, rfl⟩
abbrev R_is_lot : List PyData → PyData → Prop := fun ds d => ∃ l : List Nat, IsLot l ∧ l.length ≤ 8 ∧ (∀ s ∈ l, s < 8) ∧ ds = [eLot l] ∧ d = .bool true
abbrev N_is_lot : List Str := ["thing", "one"]
theorem sc_is_lot : FnScope N_is_lot ["thing"] (defScope s_is_lot) := ⟨rfl, rfl, rfl, by decide +kernel, rfl, by decide +kernel, by decide +kernel⟩
theorem c_is_lot (T : Txt mg) (C_is_among : Cal P w K mg base 2 "is_among" ["thing", "least", "most"] R_is_among) (h : Has K mg "is_lot" s_is_lot f fd) : Cal P w K mg base 3 "is_lot" ["thing"] R_is_lot := by
  refine CalS.mk' h (fn_D h.1 sc_is_lot (fun ds d ⟨l, _, _, _, e, _⟩ => by rw [e]; rfl) (fun cdv A outer s H E hr => ⟨_, (dss_cons (ds_if (DW.dt (dw_or (dt_not (dt_val (de_isi (x := "tuple") (T := "tuple") rfl rfl T.isinstance rfl T.tuple (by decide +kernel) (by decide +kernel) (by decide +kernel) (de_var 0)))) (dw_or1 (dt_not (dt_chain op_le vop_B op_le vop_B de_int (de_callB call_len_seq vc_len rfl T.len (by decide +kernel) (da_cons (de_var 0) da_nil)) (de_gint rfl T.cMOST_SEATS)))))) (dss_one (ds_ret de_bl)) dss_nil)
      (dss_cons (ds_if (dt_not (dt_val (de_callB (cr_all rfl) vc_all rfl T.all (by decide +kernel) (da_cons (de_lc (own := [("one", 1)]) rfl sc_is_lot.nd (di_tup (de_var 0)) (blkOk_by (own := [("one", 1)]) (N := N_is_lot) (sc := defScope s_is_lot) (by decide +kernel)) (fun _ _ _ _ _ => (dg_name (i := 1) sc_is_lot.nd rfl (Or.inl rfl))) (fun _ _ _ _ _ => dts_nil) (fun _ _ _ _ _ => (de_cal C_is_among hr (by decide) rfl (da_cons (de_var 1) (da_cons de_int (da_cons (de_op op_sub vop_I (de_gint rfl T.cMOST_SEATS) de_int) da_nil)))))) da_nil)))) (dss_one (ds_ret de_bl)) dss_nil)
      (dss_one (ds_ret (de_cmp (op_eqD hr.units) vop_eq (de_callTy call_list_of vc_list rfl T.list (by decide +kernel) (da_cons (de_var 0) da_nil)) (de_sortSet rfl rfl T.sorted rfl T.set (de_var 0)) (nomark _)))))), fun ds d ⟨l, hl, h8, hs, e1, e2⟩ => ?_⟩)) (fun _ _ _ _ _ _ us hl => match us, hl with | [_], _ => rfl)
  subst e1 e2
  have hlen : (1 : Int) ≤ (((zs l).map PyData.int).length : Int) := by
    rw [List.length_map, zs_len]
    have : l.length ≠ 0 := fun e => hl.1 (List.eq_nil_of_length_eq_zero e)
    omega
  have hlen8 : (((zs l).map PyData.int).length : Int) ≤ 8 := by
    rw [List.length_map, zs_len]
    omega
  refine ⟨false, ⟨false, ⟨_, true, rfl, trivial, kit_tt, rfl⟩, iteF ⟨_, _, true, rfl, ⟨_, ⟨_, _, rfl, rfl, rfl⟩, _, .inr rfl, rfl⟩, ⟨_, _, rfl, rfl, bT hlen⟩, iteT ⟨_, rfl, _, _, rfl, rfl, (bT hlen8)⟩⟩⟩, iteF ?_⟩
  refine ⟨false, ⟨_, ⟨_, _, ⟨_, _, rfl, by rw [List.length_map, zs_len]; omega, LcAll.ofMap (f := PyData.int) (h := fun _ => PyData.bool true) (as := zs l) (fun a ha => ?_), rfl⟩, rfl, rfl⟩, (zs l).map (fun _ => true), by rw [List.map_map]; rfl, ?_⟩, iteF ?_⟩
  · obtain ⟨n, hn, e⟩ := zs_mem.mp ha
    have := hs n hn
    exact ⟨_, rfl, true, rfl, iteT ⟨_, ⟨_, ⟨_, _, rfl, ⟨_, _, rfl, ⟨_, _, ⟨_, _, rfl, rfl, 8, 1, rfl, rfl, rfl⟩, rfl, rfl⟩, rfl⟩, rfl⟩, a, 0, 7, by omega, by omega, rfl, rfl⟩, rfl⟩⟩
  · have e : ((zs l).map fun _ => true).all id = true := List.all_eq_true.mpr fun b hb => by
      obtain ⟨_, _, e⟩ := List.mem_map.mp hb
      rw [← e] <;> rfl
    rw [e] <;> rfl
  · refine ⟨_, ⟨_, _, ⟨_, ⟨_, _, rfl, rfl, rfl⟩, _, .inr rfl, rfl⟩, ⟨zs l, zs l, rfl, by rw [zs_len]; omega, zs_pw hl.2, fun _ => Iff.rfl, rfl⟩, sh_li _, sh_li _, rfl⟩, ?_⟩
    show PyData.bool (PyData.eqvAll _ _) = _
    rw [eqv_ints, decide_eq_true rfl]
abbrev R_is_deal : List PyData → PyData → Prop := fun ds d => ∃ n D, IsDeal n D ∧ ds = [eDeal D] ∧ d = .bool true
abbrev N_is_deal : List Str := ["thing", "seats", "one", "lot"]
theorem sc_is_deal : FnScope N_is_deal ["thing"] (defScope s_is_deal) := ⟨rfl, rfl, rfl, by decide +kernel, rfl, by decide +kernel, by decide +kernel⟩
theorem c_is_deal (T : Txt mg) (C_is_lot : Cal P w K mg base 3 "is_lot" ["thing"] R_is_lot) (h : Has K mg "is_deal" s_is_deal f fd) : Cal P w K mg base 4 "is_deal" ["thing"] R_is_deal := by
  refine CalS.mk' h (fn_D h.1 sc_is_deal (fun ds d ⟨n, D, _, e, _⟩ => by rw [e]; rfl) (fun cdv A outer s H E hr => ⟨_, (dss_cons (ds_if (DW.dt (dw_or (dt_not (dt_val (de_isi (x := "tuple") (T := "tuple") rfl rfl T.isinstance rfl T.tuple (by decide +kernel) (by decide +kernel) (by decide +kernel) (de_var 0)))) (dw_or1 (dt_not (dt_chain op_le vop_B op_le vop_B de_int (de_callB call_len_seq vc_len rfl T.len (by decide +kernel) (da_cons (de_var 0) da_nil)) (de_gint rfl T.cMOST_SEATS)))))) (dss_one (ds_ret de_bl)) dss_nil)
      (dss_cons (ds_if (dt_not (dt_val (de_callB (cr_all rfl) vc_all rfl T.all (by decide +kernel) (da_cons (de_lc (own := [("one", 2)]) rfl sc_is_deal.nd (di_tup (de_var 0)) (blkOk_by (own := [("one", 2)]) (N := N_is_deal) (sc := defScope s_is_deal) (by decide +kernel)) (fun _ _ _ _ _ => (dg_name (i := 2) sc_is_deal.nd rfl (Or.inl rfl))) (fun _ _ _ _ _ => dts_nil) (fun _ _ _ _ _ => (de_cal C_is_lot hr (by decide) rfl (da_cons (de_var 2) da_nil)))) da_nil)))) (dss_one (ds_ret de_bl)) dss_nil)
      (dss_cons (ds_set (i := 1) sc_is_deal.nd rfl (Or.inl rfl) (de_callB (cr_sumL rfl) vc_sumL rfl T.sum (by decide +kernel) (da_cons (de_lc (own := [("lot", 3)]) rfl sc_is_deal.nd (di_tup (de_var 0)) (blkOk_by (own := [("lot", 3)]) (N := N_is_deal) (sc := defScope s_is_deal) (by decide +kernel)) (fun _ _ _ _ _ => (dg_name (i := 3) sc_is_deal.nd rfl (Or.inl rfl))) (fun _ _ _ _ _ => dts_nil) (fun _ _ _ _ _ => (de_callTy call_list_of vc_list rfl T.list (by decide +kernel) (da_cons (de_var 3) da_nil)))) (da_cons (de_lst da_nil) da_nil))))
      (dss_one (ds_ret (de_and (de_cmp (op_eqD hr.units) vop_eq (de_callB cr_sortIT vc_sortI rfl T.sorted (by decide +kernel) (da_cons (de_var 1) da_nil)) (de_listRg rfl rfl T.list rfl T.range (de_callB call_len_seq vc_len rfl T.len (by decide +kernel) (da_cons (de_var 1) da_nil))) (nomark _)) (de_one (de_cmp (op_eqD hr.units) vop_eq (de_callTy call_list_of vc_list rfl T.list (by decide +kernel) (da_cons (de_var 0) da_nil)) (de_callB cr_sortLx vc_sortLx rfl T.sorted (by decide +kernel) (da_cons (de_var 0) da_nil)) (nomark _))))))))), fun ds d ⟨n, D, hD, e1, e2⟩ => ?_⟩)) (fun _ _ _ _ _ _ us hl => match us, hl with | [_], _ => rfl)
  subst e1 e2
  have n8 := hD.n8
  have dl := hD.len
  have hlen : (1 : Int) ≤ ((D.map eLot).length : Int) := by
    rw [List.length_map]
    have : D.length ≠ 0 := fun e => hD.ne (List.eq_nil_of_length_eq_zero e)
    omega
  have hlen8 : ((D.map eLot).length : Int) ≤ 8 := by
    rw [List.length_map]
    omega
  refine ⟨false, ⟨false, ⟨_, true, rfl, trivial, kit_tt, rfl⟩, iteF ⟨_, _, true, rfl, ⟨_, ⟨_, _, rfl, rfl, rfl⟩, _, .inr rfl, rfl⟩, ⟨_, _, rfl, rfl, bT hlen⟩, iteT ⟨_, rfl, _, _, rfl, rfl, (bT hlen8)⟩⟩⟩, iteF ?_⟩
  refine ⟨false, ⟨_, ⟨_, _, ⟨_, _, rfl, by rw [List.length_map]; omega, LcAll.ofMap (f := eLot) (h := fun _ => PyData.bool true) (as := D) (fun l hl => ?_), rfl⟩, rfl, rfl⟩, D.map (fun _ => true), by rw [List.map_map]; rfl, ?_⟩, iteF ?_⟩
  · have := hD.llen hl
    exact ⟨_, rfl, true, rfl, iteT ⟨_, ⟨_, ⟨_, _, rfl, rfl, rfl⟩, l, hD.lot l hl, by omega, fun s hs => by have := hD.lt hl hs; omega, rfl, rfl⟩, rfl⟩⟩
  · have e : (D.map fun _ => true).all id = true := List.all_eq_true.mpr fun b hb => by
      obtain ⟨_, _, e⟩ := List.mem_map.mp hb
      rw [← e] <;> rfl
    rw [e] <;> rfl
  · have hfl := hD.flen
    have fe : ∀ D : List (List Nat), (D.map fun l => (zs l).map PyData.int).flatten = (zs D.flatten).map PyData.int := fun D => by
      unfold zs
      rw [List.map_flatten, List.map_flatten, List.map_map]
      rfl
    refine ⟨.list ((zs D.flatten).map .int), ⟨_, ⟨_, _, ⟨_, _, rfl, by rw [List.length_map]; omega, LcAll.ofMap (f := eLot) (h := fun l => PyData.list ((zs l).map .int)) (as := D) (fun l hl => ?_), rfl⟩, ⟨_, _, ⟨_, rfl, by show 0 ≤ sizeLine; exact Nat.zero_le _, rfl⟩, rfl, rfl⟩, rfl⟩, D.map (fun l => (zs l).map .int), by rw [List.map_map]; rfl, by rw [fe, List.length_map, zs_len]; omega, by rw [fe]⟩, ?_⟩
    · exact ⟨_, rfl, true, rfl, iteT ⟨_, ⟨_, ⟨_, _, rfl, rfl, rfl⟩, _, .inr rfl, rfl⟩, rfl⟩⟩
    · have hp : (zs (List.range n)).Perm (zs D.flatten) := (hD.cov.map _).symm
      have hs : (zs (List.range n)).Pairwise (· ≤ ·) := (zs_pw List.pairwise_lt_range).imp fun h => Int.le_of_lt h
      refine ⟨_, ⟨true, ⟨_, _, ⟨_, ⟨_, _, rfl, rfl, rfl⟩, zs D.flatten, zs (List.range n), .inl rfl, hp, hs, rfl⟩, ⟨n, ⟨_, ⟨_, _, rfl, rfl, rfl⟩, _, .inl rfl, by rw [List.length_map, zs_len, hfl]⟩, by omega, rfl⟩, sh_li _, sh_li _, ?_⟩, iteT ⟨_, _, ⟨_, ⟨_, _, rfl, rfl, rfl⟩, _, .inr rfl, rfl⟩, ⟨_, ⟨_, _, rfl, rfl, rfl⟩, D.map zs, D.map zs, .inr (by rw [List.map_map]; rfl), fun l hl => ?_, List.Perm.refl _, hD.ord, rfl⟩, sh_lots D, by rw [List.map_map]; exact sh_lots D, rfl⟩⟩, ?_⟩
      · show _ = PyData.bool (PyData.eqvAll _ _)
        rw [eqv_ints]
        exact (congrArg PyData.bool (decide_eq_true rfl)).symm
      · obtain ⟨k, hk, e⟩ := List.mem_map.mp hl
        intro z
        rw [z] at e
        have := zs_len k
        rw [e] at this
        exact (hD.lot k hk).1 (List.eq_nil_of_length_eq_zero this.symm)
      · show PyData.bool (PyData.eqvAll (D.map eLot) ((D.map zs).map tI)) = _
        have e : (D.map zs).map tI = D.map eLot := by rw [List.map_map]; rfl
        rw [e, eqv_lotsA]
        exact congrArg PyData.bool (decide_eq_true rfl)
end
end Rng
namespace Rng
open PySem PySem.Spec PyProof.Rows L2
theorem lcT_of {g : DGt} {tt : RB} {re : RD} {ρ ρ' : DEnv} {d y : PyData} {k : Bool} (hg : g d ρ ρ') (ht : tt ρ' k) (hy : k = true → re ρ' y) : LcT g tt re ρ d (if k = true then [y] else []) := by
  cases k with
  | true => exact ⟨ρ', hg, true, ht, iteT ⟨y, hy rfl, rfl⟩⟩
  | false => exact ⟨ρ', hg, false, ht, iteF rfl⟩
theorem lcT_1 {g : DGt} {re : RD} {ρ ρ' : DEnv} {d y : PyData} (hg : g d ρ ρ') (hy : re ρ' y) : LcT g (fun _ b => b = true) re ρ d [y] := ⟨ρ', hg, true, rfl, iteT ⟨y, hy, rfl⟩⟩
theorem in_lot (s : Nat) (l : List Nat) : RInT (eN s) (eLot l) (.bool (decide (s ∈ l))) := ⟨_, rfl, sh_int _, sh_lot l, congrArg PyData.bool (any_lot s l).symm⟩
theorem eq_lot (a b : List Nat) : REq (eLot a) (eLot b) (.bool (decide (a = b))) := ⟨sh_lot _, sh_lot _, congrArg PyData.bool (eqv_lot a b).symm⟩
theorem ne_lot (a b : List Nat) : RNe (eLot a) (eLot b) (.bool (!decide (a = b))) := ⟨sh_lot _, sh_lot _, congrArg (fun b => PyData.bool (!b)) (eqv_lot a b).symm⟩
theorem lotW_spec {D : List (List Nat)} {s : Nat} (h : ∃ l ∈ D, s ∈ l) : lotW D s ∈ D ∧ s ∈ lotW D s ∧ (D.filter fun l => decide (s ∈ l)).head? = some (lotW D s) := by
  unfold lotW
  rw [List.head?_filter]
  cases q : D.find? fun l => decide (s ∈ l) with
  | none =>
    obtain ⟨l, h1, h2⟩ := h
    have := List.find?_eq_none.mp q l h1
    simp [h2] at this
  | some l =>
    have h1 := List.mem_of_find?_eq_some q
    have h2 := List.find?_some q
    exact ⟨h1, of_decide_eq_true h2, rfl⟩
theorem atI_0 {α : Type} {xs : List α} {x : α} (h : xs.head? = some x) : atI xs 0 = some x := by
  cases xs with
  | nil => cases h
  | cons y ys =>
    have e : y = x := Option.some.inj h
    subst e
    unfold atI ixN
    rw [if_pos (Int.le_refl 0), if_pos (by rw [List.length_cons]; omega)]
    rfl
def isFour (D : List (List Nat)) (a b c d : Nat) : Bool := (decide (a < b) && (decide (b < c) && decide (c < d))) && (!decide (lotW D a = lotW D b) && (decide (c ∈ lotW D a) && decide (d ∈ lotW D b)))
section
variable {P : Program} {w : World} {K : PySem.W.Frag} {mg : Str → Option Value} {base : Heap} {f : Addr} {fd : FuncData}
abbrev R_need_deal : List PyData → PyData → Prop := fun ds d => ∃ n D, IsDeal n D ∧ ds = [eDeal D] ∧ d = .none
abbrev N_need_deal : List Str := ["thing"]
theorem sc_need_deal : FnScope N_need_deal ["thing"] (defScope s_need_deal) := ⟨rfl, rfl, rfl, by decide +kernel, rfl, by decide +kernel, by decide +kernel⟩
theorem c_need_deal (T : Txt mg) (C_is_deal : Cal P w K mg base 4 "is_deal" ["thing"] R_is_deal) (h : Has K mg "need_deal" s_need_deal f fd) : Cal P w K mg base 5 "need_deal" ["thing"] R_need_deal := by
  refine CalS.mk' h (fn_DN h.1 sc_need_deal (fun ds d ⟨n, D, _, e, _⟩ => by rw [e]; rfl) (fun cdv A outer s H E hr => ⟨_, (dss_one (ds_if (dt_not (dt_val (de_cal C_is_deal hr (by decide) rfl (da_cons (de_var 0) da_nil)))) (dss_one ds_never) dss_nil)), fun ds d ⟨n, D, hD, e1, e2⟩ => ?_⟩)) (fun _ _ _ _ _ _ us hl => match us, hl with | [_], _ => rfl)
  subst e1 e2
  exact ⟨false, ⟨_, ⟨_, _, rfl, rfl, rfl⟩, n, D, hD, rfl, rfl⟩, iteF rfl⟩
abbrev R_size : List PyData → PyData → Prop := fun ds d => ∃ D : List (List Nat), D.length ≤ 100 ∧ ds = [eDeal D] ∧ d = eN D.flatten.length
abbrev N_size : List Str := ["deal", "lot"]
theorem sc_size : FnScope N_size ["deal"] (defScope s_size) := ⟨rfl, rfl, rfl, by decide +kernel, rfl, by decide +kernel, by decide +kernel⟩
theorem c_size (T : Txt mg) (h : Has K mg "size" s_size f fd) : Cal P w K mg base 1 "size" ["deal"] R_size := by
  refine CalS.mk' h (fn_D h.1 sc_size (fun ds d ⟨D, _, e, _⟩ => by rw [e]; rfl) (fun cdv A outer s H E hr => ⟨_, (dss_one (ds_ret (de_callB (cr_sum rfl) vc_sumI rfl T.sum (by decide +kernel) (da_cons (de_lc (own := [("lot", 1)]) rfl sc_size.nd (di_tup (de_var 0)) (blkOk_by (own := [("lot", 1)]) (N := N_size) (sc := defScope s_size) (by decide +kernel)) (fun _ _ _ _ _ => (dg_name (i := 1) sc_size.nd rfl (Or.inl rfl))) (fun _ _ _ _ _ => dts_nil) (fun _ _ _ _ _ => (de_callB call_len_seq vc_len rfl T.len (by decide +kernel) (da_cons (de_var 1) da_nil)))) da_nil)))), fun ds d ⟨D, hD, e1, e2⟩ => ?_⟩)) (fun _ _ _ _ _ _ us hl => match us, hl with | [_], _ => rfl)
  subst e1 e2
  refine ⟨_, ⟨_, ⟨_, _, ⟨_, _, rfl, by rw [List.length_map]; omega, LcAll.ofMap (f := eLot) (h := fun l => PyData.int (((zs l).map PyData.int).length : Int)) (as := D) (fun l hl => lcT_1 rfl ⟨_, ⟨_, _, rfl, rfl, rfl⟩, _, .inr rfl, rfl⟩), rfl⟩, rfl, rfl⟩, D.map (fun l => (((zs l).map PyData.int).length : Int)), by rw [List.map_map]; rfl, rfl⟩, ?_⟩
  have e : (D.map fun l => (((zs l).map PyData.int).length : Int)) = (D.map List.length).map fun n : Nat => (n : Int) := by
    rw [List.map_map]
    exact List.map_congr_left fun l _ => by rw [List.length_map, zs_len]; rfl
  rw [e, sum_ints, sum_len]
abbrev R_lot_with : List PyData → PyData → Prop := fun ds d => ∃ (D : List (List Nat)) (s : Nat), (∃ l ∈ D, s ∈ l) ∧ D.length ≤ 100 ∧ ds = [eDeal D, eN s] ∧ d = eLot (lotW D s)
abbrev N_lot_with : List Str := ["deal", "seat", "lot"]
theorem sc_lot_with : FnScope N_lot_with ["deal", "seat"] (defScope s_lot_with) := ⟨rfl, rfl, rfl, by decide +kernel, rfl, by decide +kernel, by decide +kernel⟩
theorem c_lot_with (T : Txt mg) (h : Has K mg "lot_with" s_lot_with f fd) : Cal P w K mg base 1 "lot_with" ["deal", "seat"] R_lot_with := by
  refine CalS.mk' h (fn_D h.1 sc_lot_with (fun ds d ⟨D, _, _, _, e, _⟩ => by rw [e]; rfl) (fun cdv A outer s H E hr => ⟨_, (dss_one (ds_ret (de_ixL (de_lc (own := [("lot", 2)]) rfl sc_lot_with.nd (di_tup (de_var 0)) (blkOk_by (own := [("lot", 2)]) (N := N_lot_with) (sc := defScope s_lot_with) (by decide +kernel)) (fun _ _ _ _ _ => (dg_name (i := 2) sc_lot_with.nd rfl (Or.inl rfl))) (fun _ _ _ _ _ => (dts_one (dt_cmp (op_inT hr.u65) vop_inT (de_var 1) (de_var 2) (by rfl)))) (fun _ _ _ _ _ => (de_var 2))) de_int (fun _ _ => rfl)))), fun ds d ⟨D, s, hs, hD, e1, e2⟩ => ?_⟩)) (fun _ _ _ _ _ _ us hl => match us, hl with | [_, _], _ => rfl)
  subst e1 e2
  refine ⟨_, ⟨_, _, ⟨_, _, rfl, by rw [List.length_map]; omega, LcAll.of (f := eLot) (h := eLot) (p := fun l => decide (s ∈ l)) (as := D) (fun l hl => lcT_of rfl ⟨_, _, rfl, rfl, in_lot s l⟩ (fun _ => rfl)), rfl⟩, rfl, _, _, rfl, rfl, atI_0 ?_⟩, rfl⟩
  rw [List.head?_map, (lotW_spec hs).2.2]
  rfl
abbrev R_lot_of : List PyData → PyData → Prop := fun ds d => ∃ n D s, IsDeal n D ∧ s < n ∧ ds = [eDeal D, eN s] ∧ d = eLot (lotW D s)
abbrev N_lot_of : List Str := ["deal", "seat"]
theorem sc_lot_of : FnScope N_lot_of ["deal", "seat"] (defScope s_lot_of) := ⟨rfl, rfl, rfl, by decide +kernel, rfl, by decide +kernel, by decide +kernel⟩
theorem c_lot_of (T : Txt mg) (C_is_among : Cal P w K mg base 2 "is_among" ["thing", "least", "most"] R_is_among) (C_need_deal : Cal P w K mg base 5 "need_deal" ["thing"] R_need_deal) (C_size : Cal P w K mg base 1 "size" ["deal"] R_size) (C_lot_with : Cal P w K mg base 1 "lot_with" ["deal", "seat"] R_lot_with)
    (h : Has K mg "lot_of" s_lot_of f fd) : Cal P w K mg base 6 "lot_of" ["deal", "seat"] R_lot_of := by
  refine CalS.mk' h (fn_D h.1 sc_lot_of (fun ds d ⟨n, D, s, _, _, e, _⟩ => by rw [e]; rfl) (fun cdv A outer s H E hr => ⟨_, (dss_cons (ds_expr (de_cal C_need_deal hr (by decide) rfl (da_cons (de_var 0) da_nil)))
      (dss_cons (ds_if (dt_not (dt_val (de_cal C_is_among hr (by decide) rfl (da_cons (de_var 1) (da_cons de_int (da_cons (de_op op_sub vop_I (de_cal C_size hr (by decide) rfl (da_cons (de_var 0) da_nil)) de_int) da_nil)))))) (dss_one ds_never) dss_nil)
      (dss_one (ds_ret (de_cal C_lot_with hr (by decide) rfl (da_cons (de_var 0) (da_cons (de_var 1) da_nil))))))), fun ds d ⟨n, D, s, hD, hs, e1, e2⟩ => ?_⟩)) (fun _ _ _ _ _ _ us hl => match us, hl with | [_, _], _ => rfl)
  subst e1 e2
  have hl := hD.len
  have n8 := hD.n8
  refine ⟨.none, ⟨_, ⟨_, _, rfl, rfl, rfl⟩, n, D, hD, rfl, rfl⟩, false, ⟨_, ⟨_, _, rfl, ⟨_, _, rfl, ⟨_, _, ⟨_, _, ⟨_, ⟨_, _, rfl, rfl, rfl⟩, D, by omega, rfl, rfl⟩, rfl, _, _, rfl, rfl, rfl⟩, rfl, rfl⟩, rfl⟩, rfl⟩, s, 0, _, by omega, ?_, rfl, rfl⟩, iteF ⟨_, ⟨_, ⟨_, _, rfl, ⟨_, _, rfl, rfl, rfl⟩, rfl⟩, D, s, hD.has hs, by omega, rfl, rfl⟩, rfl⟩⟩
  show (s : Int) ≤ (D.flatten.length : Int) - 1
  rw [hD.flen]
  omega
abbrev R_is_four : List PyData → PyData → Prop := fun ds r => ∃ n D a b c d, IsDeal n D ∧ a < n ∧ b < n ∧ c < n ∧ d < n ∧ ds = [eDeal D, eLot [a, b, c, d]] ∧ r = .bool (isFour D a b c d)
abbrev N_is_four : List Str := ["deal", "four", "a", "b", "c", "d", "one", "other"]
theorem sc_is_four : FnScope N_is_four ["deal", "four"] (defScope s_is_four) := ⟨rfl, rfl, rfl, by decide +kernel, rfl, by decide +kernel, by decide +kernel⟩
theorem c_is_four (T : Txt mg) (C_lot_with : Cal P w K mg base 1 "lot_with" ["deal", "seat"] R_lot_with) (h : Has K mg "is_four" s_is_four f fd) : Cal P w K mg base 2 "is_four" ["deal", "four"] R_is_four := by
  refine CalS.mk' h (fn_D h.1 sc_is_four (fun ds r ⟨n, D, a, b, c, d, _, _, _, _, _, e, _⟩ => by rw [e]; rfl) (fun cdv A outer s H E hr => ⟨_, (dss_cons (ds_asg (de_var 1) (dg_four (i := 2) (j := 3) (m := 4) (l := 5) rfl sc_is_four.nd rfl rfl rfl rfl (Or.inl rfl) (Or.inl rfl) (Or.inl rfl) (Or.inl rfl)))
      (dss_cons (ds_if (dt_not (dt_lt4 (de_var 2) (de_var 3) (de_var 4) (de_var 5))) (dss_one (ds_ret de_bl)) dss_nil)
      (dss_cons (ds_par (i := 6) (j := 7) rfl sc_is_four.nd rfl rfl (by decide) rfl rfl (da_cons (de_cal C_lot_with hr (by decide) rfl (da_cons (de_var 0) (da_cons (de_var 2) da_nil))) (da_cons (de_cal C_lot_with hr (by decide) rfl (da_cons (de_var 0) (da_cons (de_var 3) da_nil))) da_nil)) (by rfl))
      (dss_one (ds_ret (de_and (de_cmp (op_neD hr.units) vop_ne (de_var 6) (de_var 7) (nomark _)) (de_and (de_cmp (op_inT hr.u65) vop_inT (de_var 4) (de_var 6) (by rfl)) (de_one (de_cmp (op_inT hr.u65) vop_inT (de_var 5) (de_var 7) (by rfl)))))))))), fun ds r ⟨n, D, a, b, c, d, hD, ha, hb, hc, hd, e1, e2⟩ => ?_⟩)) (fun _ _ _ _ _ _ us hl => match us, hl with | [_, _], _ => rfl)
  subst e1 e2
  have hl := hD.len
  have n8 := hD.n8
  refine ⟨_, _, rfl, ⟨_, _, _, _, rfl, rfl⟩, !(decide ((a : Int) < b) && (decide ((b : Int) < c) && decide ((c : Int) < d))), ⟨_, _, _, _, rfl, rfl, rfl, rfl, Bool.not_not _⟩, ?_⟩
  have ei : (decide ((a : Int) < b) && (decide ((b : Int) < c) && decide ((c : Int) < d))) = (decide (a < b) && (decide (b < c) && decide (c < d))) := by
    rw [decide_eq_decide.mpr (show (a : Int) < b ↔ a < b by omega), decide_eq_decide.mpr (show (b : Int) < c ↔ b < c by omega), decide_eq_decide.mpr (show (c : Int) < d ↔ c < d by omega)]
  rw [ei]
  unfold isFour
  cases hq : (decide (a < b) && (decide (b < c) && decide (c < d))) with
  | false => exact iteT ⟨_, rfl, rfl⟩
  | true =>
    refine iteF ⟨_, _, ⟨_, _, ⟨_, ⟨_, _, rfl, ⟨_, _, rfl, rfl, rfl⟩, rfl⟩, D, a, hD.has ha, by omega, rfl, rfl⟩, ⟨_, _, ⟨_, ⟨_, _, rfl, ⟨_, _, rfl, rfl, rfl⟩, rfl⟩, D, b, hD.has hb, by omega, rfl, rfl⟩, rfl, rfl⟩, rfl⟩, ?_⟩
    refine ⟨_, ⟨_, ⟨_, _, rfl, rfl, ne_lot _ _⟩, ?_⟩, rfl⟩
    cases h1 : decide (lotW D a = lotW D b) with
    | true => exact iteF rfl
    | false =>
      refine iteT ⟨_, ⟨_, _, rfl, rfl, in_lot c _⟩, ?_⟩
      cases h2 : decide (c ∈ lotW D a) with
      | false => exact iteF rfl
      | true => exact iteT ⟨_, _, rfl, rfl, in_lot d _⟩
end
end Rng
namespace Rng
open PySem PySem.Spec PyProof.Rows L2
/-! ### fours, crossing -/
def lxN (a b : List Nat) : Bool := !lxl (zs b) (zs a)
def srtLx (L : List (List Nat)) : List (List Nat) := L.mergeSort lxN
theorem srtLx_perm (L : List (List Nat)) : (srtLx L).Perm L := List.mergeSort_perm _ _
theorem lxN_total (a b : List Nat) : (lxN a b || lxN b a) = true := by
  unfold lxN
  cases h : lxl (zs b) (zs a) with
  | false => rfl
  | true => rw [lxl_asym _ _ h]; rfl
theorem lxN_trans (a b c : List Nat) (h1 : lxN a b = true) (h2 : lxN b c = true) : lxN a c = true := by
  unfold lxN at *
  rw [Bool.not_eq_true'] at *
  exact lxl_ntr (zs a) (zs b) (zs c) h1 h2
theorem srtLx_lxs (L : List (List Nat)) : LxS ((srtLx L).map zs) := by
  have h := List.pairwise_mergeSort (le := lxN) lxN_trans lxN_total L
  exact List.pairwise_map.mpr (h.imp fun {a b} h => by unfold lxN at h; rwa [Bool.not_eq_true'] at h)
theorem srtLx_id {L : List (List Nat)} (h : LxS (L.map zs)) : srtLx L = L := by
  unfold srtLx
  refine List.mergeSort_of_pairwise ?_
  exact (List.pairwise_map.mp h).imp fun {a b} h => by unfold lxN; rw [h]; rfl
theorem rsort_lx {L : List (List Nat)} (h : ∀ l ∈ L, l ≠ []) : RSortLx [eLots L] (eLots (srtLx L)) := by
  refine ⟨L.map zs, (srtLx L).map zs, .inl (by rw [List.map_map]; rfl), fun l hl e => ?_, (srtLx_perm L).map _, srtLx_lxs L, by rw [List.map_map]; rfl⟩
  obtain ⟨k, hk, e2⟩ := List.mem_map.mp hl
  rw [e] at e2
  exact h k hk (List.map_eq_nil_iff.mp e2)
def stepF (L : List (List Nat)) (k : Nat) : List (List Nat) := L ++ (L.filter fun p => decide (p.length < 4)).map (· ++ [k])
def foundL : Nat → List (List Nat)
  | 0 => [[]]
  | k + 1 => stepF (foundL k) k
def foursL (n : Nat) : List (List Nat) := srtLx ((foundL n).filter fun p => decide (p.length = 4))
theorem foundL_len : ∀ n : Nat, (foundL n).length ≤ 2 ^ n
  | 0 => Nat.le_refl _
  | k + 1 => by
    have ih := foundL_len k
    show (stepF (foundL k) k).length ≤ _
    unfold stepF
    rw [List.length_append, List.length_map]
    have := List.length_filter_le (fun p => decide (p.length < 4)) (foundL k)
    rw [Nat.pow_succ]
    omega
theorem foundL_len8 {n : Nat} (h : n ≤ 8) : (foundL n).length ≤ 256 := Nat.le_trans (foundL_len n) (Nat.pow_le_pow_right (by decide) h)
theorem foundL_mem : ∀ (n : Nat) (x : List Nat), x ∈ foundL n ↔ x.Pairwise (· < ·) ∧ (∀ y ∈ x, y < n) ∧ x.length ≤ 4
  | 0, x => by
    show x ∈ [[]] ↔ _
    rw [List.mem_singleton]
    constructor
    · intro e
      subst e
      exact ⟨List.Pairwise.nil, (fun y h => by cases h), Nat.zero_le _⟩
    · rintro ⟨_, h, _⟩
      cases x with
      | nil => rfl
      | cons y ys => exact absurd (h y List.mem_cons_self) (Nat.not_lt_zero _)
  | k + 1, x => by
    show x ∈ stepF (foundL k) k ↔ _
    unfold stepF
    rw [List.mem_append, foundL_mem k x]
    constructor
    · rintro (⟨h1, h2, h3⟩ | h)
      · exact ⟨h1, fun y hy => Nat.lt_succ_of_lt (h2 y hy), h3⟩
      · obtain ⟨p, hp, e⟩ := List.mem_map.mp h
        obtain ⟨hp, hl⟩ := List.mem_filter.mp hp
        obtain ⟨h1, h2, h3⟩ := (foundL_mem k p).mp hp
        have e : p ++ [k] = x := e
        subst e
        refine ⟨List.pairwise_append.mpr ⟨h1, List.pairwise_singleton _ _, fun a ha b hb => ?_⟩, fun y hy => ?_, ?_⟩
        · rw [List.mem_singleton.mp hb]
          exact h2 a ha
        · rcases List.mem_append.mp hy with h | h
          · exact Nat.lt_succ_of_lt (h2 y h)
          · rw [List.mem_singleton.mp h]
            omega
        · rw [List.length_append, List.length_singleton]
          have := of_decide_eq_true hl
          omega
    · rintro ⟨h1, h2, h3⟩
      by_cases hk : k ∈ x
      · refine .inr ?_
        obtain ⟨s, t, e⟩ := List.append_of_mem hk
        subst e
        obtain ⟨p1, p2, p3⟩ := List.pairwise_append.mp h1
        have ht : t = [] := by
          cases t with
          | nil => rfl
          | cons y ys =>
            have a1 := (List.pairwise_cons.mp p2).1 y List.mem_cons_self
            have a2 := h2 y (by simp)
            omega
        subst ht
        rw [List.length_append, List.length_singleton] at h3
        refine List.mem_map.mpr ⟨s, List.mem_filter.mpr ⟨(foundL_mem k s).mpr ⟨p1, fun y hy => p3 y hy k List.mem_cons_self, by omega⟩, decide_eq_true (by omega)⟩, rfl⟩
      · refine .inl ⟨h1, fun y hy => ?_, h3⟩
        have := h2 y hy
        have : y ≠ k := fun e => hk (e ▸ hy)
        omega
theorem foursL_mem (n : Nat) (x : List Nat) : x ∈ foursL n ↔ ∃ a b c d, x = [a, b, c, d] ∧ a < b ∧ b < c ∧ c < d ∧ d < n := by
  unfold foursL
  rw [(srtLx_perm _).mem_iff, List.mem_filter, foundL_mem]
  constructor
  · rintro ⟨⟨h1, h2, _⟩, h3⟩
    have h3 := of_decide_eq_true h3
    match x, h3 with
    | [a, b, c, d], _ =>
      obtain ⟨q1, h1⟩ := List.pairwise_cons.mp h1
      obtain ⟨q2, h1⟩ := List.pairwise_cons.mp h1
      obtain ⟨q3, h1⟩ := List.pairwise_cons.mp h1
      exact ⟨a, b, c, d, rfl, q1 b (by simp), q2 c (by simp), q3 d (by simp), h2 d (by simp)⟩
  · rintro ⟨a, b, c, d, rfl, h1, h2, h3, h4⟩
    refine ⟨⟨?_, ?_, by simp⟩, by simp⟩
    · simp
      omega
    · simp
      omega
def isFourL (D : List (List Nat)) : List Nat → Bool
  | [a, b, c, d] => isFour D a b c d
  | _ => false
abbrev dClear : PyData := .tuple [.str "clear"]
abbrev dCross (x : List Nat) : PyData := .tuple (.str "cross" :: (zs x).map .int)
def crossF (D : List (List Nat)) (n : Nat) : Option (List Nat) := (foursL n).find? (isFourL D)
def crossD (D : List (List Nat)) (n : Nat) : PyData := match crossF D n with
  | some x => dCross x
  | none => dClear
theorem rngD_at {n i : Nat} {d : PyData} (h : (rngD 0 n)[i]? = some d) : d = eN i ∧ i < n := by
  have hi : i < n := by
    have := (List.getElem?_eq_some_iff.mp h).1
    rwa [rngD_len] at this
  unfold rngD at h
  rw [List.getElem?_map, List.getElem?_range hi] at h
  cases h
  exact ⟨by show PyData.int (0 + (i : Int)) = PyData.int i; rw [Int.zero_add], hi⟩
theorem cut_from {ds : List PyData} (k : Nat) : cutD ds (some (k : Int)) none = ds.drop k := by
  unfold cutD
  rw [HT.sIx_nat, HT.sIx_none]
  by_cases h : k ≤ ds.length
  · rw [Nat.min_eq_left h]
    exact List.take_of_length_le (by rw [List.length_drop]; exact Nat.le_refl _)
  · rw [Nat.min_eq_right (by omega), List.drop_of_length_le (Nat.le_refl _), List.drop_of_length_le (by omega), List.take_nil]
section
variable {P : Program} {w : World} {K : PySem.W.Frag} {mg : Str → Option Value} {base : Heap} {f : Addr} {fd : FuncData}
abbrev R_fours : List PyData → PyData → Prop := fun ds d => ∃ n : Nat, n ≤ 8 ∧ ds = [eN n] ∧ d = eLots (foursL n)
abbrev N_fours : List Str := ["many", "found", "seat", "part"]
theorem sc_fours : FnScope N_fours ["many"] (defScope s_fours) := ⟨rfl, rfl, rfl, by decide +kernel, rfl, by decide +kernel, by decide +kernel⟩
theorem c_fours (T : Txt mg) (h : Has K mg "fours" s_fours f fd) : Cal P w K mg base 1 "fours" ["many"] R_fours := by
  refine CalS.mk' h (fn_D h.1 sc_fours (fun ds d ⟨n, _, e, _⟩ => by rw [e]; rfl) (fun cdv A outer s H E hr => ⟨_, (dss_cons (ds_set (i := 1) sc_fours.nd rfl (Or.inl rfl) (de_lst (da_cons (de_tup da_nil) da_nil)))
      (dss_cons (ds_for PassesOwn.never rfl (di_range1 rfl T.range (de_var 0)) (dg_name (i := 2) sc_fours.nd rfl (Or.inr rfl)) (dss_one (ds_set (i := 1) sc_fours.nd rfl (Or.inl rfl) (de_op op_cat vop_catL (de_var 1) (de_lc (own := [("part", 3)]) rfl sc_fours.nd (di_list (de_var 1)) (blkOk_by (own := [("part", 3)]) (N := N_fours) (sc := defScope s_fours) (by decide +kernel)) (fun _ _ _ _ _ => (dg_name (i := 3) sc_fours.nd rfl (Or.inl rfl))) (fun _ _ _ _ _ => (dts_one (dt_cmp op_lt vop_B (de_callB call_len_seq vc_len rfl T.len (by decide +kernel) (da_cons (de_var 3) da_nil)) de_int (nomark _)))) (fun _ _ _ _ _ => (de_op op_catA vop_catT (de_var 3) (de_tup (da_cons (de_var 2) da_nil)))))))))
      (dss_one (ds_ret (de_callB cr_sortLx vc_sortLx rfl T.sorted (by decide +kernel) (da_cons (de_lc (own := [("part", 3)]) rfl sc_fours.nd (di_list (de_var 1)) (blkOk_by (own := [("part", 3)]) (N := N_fours) (sc := defScope s_fours) (by decide +kernel)) (fun _ _ _ _ _ => (dg_name (i := 3) sc_fours.nd rfl (Or.inl rfl))) (fun _ _ _ _ _ => (dts_one (dt_cmp (op_eqD hr.units) vop_eq (de_callB call_len_seq vc_len rfl T.len (by decide +kernel) (da_cons (de_var 3) da_nil)) de_int (nomark _)))) (fun _ _ _ _ _ => (de_var 3))) da_nil)))))), fun ds d ⟨n, n8, e1, e2⟩ => ?_⟩)) (fun _ _ _ _ _ _ us hl => match us, hl with | [_], _ => rfl)
  subst e1 e2
  refine ⟨_, ⟨_, ⟨_, _, ⟨_, rfl, Nat.zero_le _, rfl⟩, rfl, rfl⟩, by show 1 ≤ sizeLine; decide, rfl⟩, rngD 0 n, fun i ρ => ∃ o, ρ = [some (eN n), some (eLots (foundL i)), o, none], ⟨n, rfl, by omega, rfl⟩, ⟨none, rfl⟩, ?_, ?_⟩
  · rintro i d ρ hd ⟨o, rfl⟩
    obtain ⟨rfl, hi⟩ := rngD_at hd
    have hz := foundL_len8 (show i ≤ 8 by omega)
    have hz2 := foundL_len8 (show i + 1 ≤ 8 by omega)
    refine ⟨_, rfl, _, ⟨_, _, rfl, ⟨_, _, rfl, by rw [List.length_map]; omega, LcAll.of (f := eLot) (h := fun p => eLot (p ++ [i])) (p := fun p => decide (p.length < 4)) (as := foundL i) (fun p hp => ?_), rfl⟩, _, _, rfl, rfl, ?_, rfl⟩, some (eN i), ?_⟩
    · refine lcT_of rfl ⟨_, _, ⟨_, ⟨_, _, rfl, rfl, rfl⟩, _, .inr rfl, rfl⟩, rfl, _, _, rfl, rfl, ?_⟩ fun _ => ⟨_, _, rfl, ⟨_, ⟨_, _, rfl, rfl, rfl⟩, by show 1 ≤ sizeLine; decide, rfl⟩, _, _, rfl, rfl, ?_, ?_⟩
      · refine congrArg PyData.bool ?_
        show decide (p.length < 4) = decide ((((zs p).map PyData.int).length : Int) < 4)
        rw [List.length_map, zs_len]
        exact decide_eq_decide.mpr (by omega)
      · have := ((foundL_mem i p).mp hp).2.2
        rw [List.length_map, zs_len, List.length_singleton]
        omega
      · show eLot (p ++ [i]) = _
        unfold eLot tI
        rw [zs_append, List.map_append]
        rfl
    · rw [List.length_map, List.length_map]
      have := List.length_filter_le (fun p => decide (p.length < 4)) (foundL i)
      omega
    · show [some (eN n), some (.list ((foundL i).map eLot ++ ((foundL i).filter fun p => decide (p.length < 4)).map fun p => eLot (p ++ [i]))), some (eN i), none] = [some (eN n), some (eLots (foundL (i + 1))), some (eN i), none]
      have e : (foundL (i + 1)).map eLot = (foundL i).map eLot ++ ((foundL i).filter fun p => decide (p.length < 4)).map fun p => eLot (p ++ [i]) := by
        show (stepF (foundL i) i).map eLot = _
        unfold stepF
        rw [List.map_append, List.map_map]
        rfl
      rw [← e]
  · rintro ρ ⟨o, rfl⟩
    rw [rngD_len]
    have hz := foundL_len8 n8
    refine ⟨_, ⟨_, ⟨_, _, ⟨_, _, rfl, by rw [List.length_map]; omega, LcAll.of (f := eLot) (h := eLot) (p := fun p => decide (p.length = 4)) (as := foundL n) (fun p hp => ?_), rfl⟩, rfl, rfl⟩, rsort_lx (L := (foundL n).filter fun p => decide (p.length = 4)) fun l hl => ?_⟩, rfl⟩
    · refine lcT_of rfl ⟨_, _, ⟨_, ⟨_, _, rfl, rfl, rfl⟩, _, .inr rfl, rfl⟩, rfl, sh_int _, sh_int _, ?_⟩ fun _ => rfl
      refine congrArg PyData.bool ?_
      have e := eqv_N ((zs p).map PyData.int).length 4
      rw [List.length_map, zs_len] at e
      show _ = PyData.eqv (eN ((zs p).map PyData.int).length) (eN 4)
      rw [List.length_map, zs_len]
      exact e.symm
    · intro e
      rw [e] at hl
      have := of_decide_eq_true (List.mem_filter.mp hl).2
      cases this
abbrev R_crossing_by : List PyData → PyData → Prop := fun ds d => ∃ n D, IsDeal n D ∧ ds = [eDeal D] ∧ d = crossD D n
abbrev N_crossing_by : List Str := ["deal", "four"]
theorem sc_crossing_by : FnScope N_crossing_by ["deal"] (defScope s_crossing_by) := ⟨rfl, rfl, rfl, by decide +kernel, rfl, by decide +kernel, by decide +kernel⟩
theorem c_crossing_by (T : Txt mg) (C_size : Cal P w K mg base 1 "size" ["deal"] R_size) (C_fours : Cal P w K mg base 1 "fours" ["many"] R_fours) (C_is_four : Cal P w K mg base 2 "is_four" ["deal", "four"] R_is_four) (h : Has K mg "crossing_by" s_crossing_by f fd) : Cal P w K mg base 3 "crossing_by" ["deal"] R_crossing_by := by
  refine CalS.mk' h (fn_D h.1 sc_crossing_by (fun ds d ⟨n, _, _, e, _⟩ => by rw [e]; rfl) (fun cdv A outer s H E hr => ⟨_, (dss_cons (ds_for PassesOwn.never rfl (di_list (de_cal C_fours hr (by decide) rfl (da_cons (de_cal C_size hr (by decide) rfl (da_cons (de_var 0) da_nil)) da_nil))) (dg_name (i := 1) sc_crossing_by.nd rfl (Or.inl rfl)) (dss_one (ds_if (dt_val (de_cal C_is_four hr (by decide) rfl (da_cons (de_var 0) (da_cons (de_var 1) da_nil)))) (dss_one (ds_ret (de_op op_catA vop_catT (de_tup (da_cons (de_gstr rfl T.cCROSS) da_nil)) (de_var 1)))) dss_nil)))
      (dss_one (ds_ret (de_tup (da_cons (de_gstr rfl T.cCLEAR) da_nil))))), fun ds d ⟨n, D, hD, e1, e2⟩ => ?_⟩)) (fun _ _ _ _ _ _ us hl => match us, hl with | [_], _ => rfl)
  subst e1 e2
  have hl := hD.len
  have n8 := hD.n8
  refine ⟨(foursL n).map eLot, fun i ρ => (∃ o, ρ = [some (eDeal D), o]) ∧ ∀ x ∈ (foursL n).take i, isFourL D x = false, ⟨_, ⟨_, _, ⟨_, ⟨_, _, rfl, rfl, rfl⟩, D, by omega, rfl, rfl⟩, rfl, rfl⟩, n, n8, by rw [hD.flen], rfl⟩, ⟨⟨none, rfl⟩, fun x h => by cases h⟩, ?_, ?_⟩
  · rintro i d ρ hd ⟨⟨o, rfl⟩, hw⟩
    rw [List.getElem?_map] at hd
    cases hx : (foursL n)[i]? with
    | none => rw [hx] at hd; cases hd
    | some x =>
      rw [hx] at hd
      cases hd
      obtain ⟨a, b, c, d, rfl, h1, h2, h3, h4⟩ := (foursL_mem n x).mp (List.mem_of_getElem? hx)
      have hi := (List.getElem?_eq_some_iff.mp hx).1
      have ht : (foursL n).take (i + 1) = (foursL n).take i ++ [[a, b, c, d]] := by rw [List.take_add_one, hx]; rfl
      refine ⟨_, rfl, isFour D a b c d, ⟨_, ⟨_, _, rfl, ⟨_, _, rfl, rfl, rfl⟩, rfl⟩, n, D, a, b, c, d, hD, by omega, by omega, by omega, h4, rfl, rfl⟩, ?_⟩
      cases hf : isFour D a b c d with
      | true =>
        refine iteT ⟨_, ⟨_, _, ⟨_, ⟨_, _, rfl, rfl, rfl⟩, by show 1 ≤ sizeLine; decide, rfl⟩, rfl, _, _, rfl, rfl, by show 5 ≤ 100000; omega, rfl⟩, ?_⟩
        have e : crossF D n = some [a, b, c, d] := by
          unfold crossF
          have es : foursL n = (foursL n).take i ++ [a, b, c, d] :: (foursL n).drop (i + 1) := by
            have q := List.take_append_drop i (foursL n)
            rw [List.drop_eq_getElem_cons hi] at q
            have e2 : (foursL n)[i] = [a, b, c, d] := by
              rw [List.getElem?_eq_getElem hi] at hx
              exact Option.some.inj hx
            rw [e2] at q
            exact q.symm
          rw [es, List.find?_append, List.find?_eq_none.mpr (fun y hy => by rw [hw y hy]; decide), List.find?_cons]
          have e3 : isFourL D [a, b, c, d] = true := hf
          rw [e3]
          rfl
        unfold crossD
        rw [e]
        rfl
      | false =>
        refine iteF ⟨⟨_, rfl⟩, fun y hy => ?_⟩
        rw [ht] at hy
        rcases List.mem_append.mp hy with h | h
        · exact hw y h
        · rw [List.mem_singleton.mp h]
          exact hf
  · rintro ρ ⟨⟨o, rfl⟩, hw⟩
    rw [List.length_map, List.take_length] at hw
    refine ⟨_, ⟨_, ⟨_, _, rfl, rfl, rfl⟩, by show 1 ≤ sizeLine; decide, rfl⟩, ?_⟩
    unfold crossD crossF
    rw [List.find?_eq_none.mpr fun y hy => by rw [hw y hy]; decide]
abbrev R_crossing : List PyData → PyData → Prop := R_crossing_by
abbrev N_crossing : List Str := ["deal"]
theorem sc_crossing : FnScope N_crossing ["deal"] (defScope s_crossing) := ⟨rfl, rfl, rfl, by decide +kernel, rfl, by decide +kernel, by decide +kernel⟩
theorem c_crossing (T : Txt mg) (C_need_deal : Cal P w K mg base 5 "need_deal" ["thing"] R_need_deal) (C_crossing_by : Cal P w K mg base 3 "crossing_by" ["deal"] R_crossing_by) (h : Has K mg "crossing" s_crossing f fd) : Cal P w K mg base 6 "crossing" ["deal"] R_crossing := by
  refine CalS.mk' h (fn_D h.1 sc_crossing (fun ds d ⟨n, _, _, e, _⟩ => by rw [e]; rfl) (fun cdv A outer s H E hr => ⟨_, (dss_cons (ds_expr (de_cal C_need_deal hr (by decide) rfl (da_cons (de_var 0) da_nil)))
      (dss_one (ds_ret (de_cal C_crossing_by hr (by decide) rfl (da_cons (de_var 0) da_nil))))), fun ds d ⟨n, D, hD, e1, e2⟩ => ?_⟩)) (fun _ _ _ _ _ _ us hl => match us, hl with | [_], _ => rfl)
  subst e1 e2
  exact ⟨.none, ⟨_, ⟨_, _, rfl, rfl, rfl⟩, n, D, hD, rfl, rfl⟩, _, ⟨_, ⟨_, _, rfl, rfl, rfl⟩, n, D, hD, rfl, rfl⟩, rfl⟩
end
end Rng
namespace Rng
open PySem PySem.Spec PyProof.Rows L2
/-! ### crossing lots; clear; in order -/
/-- the seats of l in order -/
def sset (l : List Nat) : List Nat := (List.range 8).filter fun s => decide (s ∈ l)
theorem sset_mem {l : List Nat} (h : ∀ s ∈ l, s < 8) (s : Nat) : s ∈ sset l ↔ s ∈ l := by
  unfold sset
  rw [List.mem_filter, List.mem_range, decide_eq_true_iff]
  exact ⟨fun h => h.2, fun k => ⟨h s k, k⟩⟩
theorem sset_lt {l : List Nat} {s : Nat} (h : s ∈ sset l) : s < 8 ∧ s ∈ l := by
  unfold sset at h
  obtain ⟨h1, h2⟩ := List.mem_filter.mp h
  exact ⟨List.mem_range.mp h1, of_decide_eq_true h2⟩
theorem sset_pw (l : List Nat) : (sset l).Pairwise (· < ·) := List.Pairwise.filter _ List.pairwise_lt_range
theorem pw_ext {a b : List Nat} (ha : a.Pairwise (· < ·)) (hb : b.Pairwise (· < ·)) (h : ∀ k, k ∈ a ↔ k ∈ b) : a = b := zs_inj (lt_same (zs_pw ha) (zs_pw hb) fun k => by rw [zs_mem, zs_mem]; exact ⟨fun ⟨n, h1, h2⟩ => ⟨n, (h n).mp h1, h2⟩, fun ⟨n, h1, h2⟩ => ⟨n, (h n).mpr h1, h2⟩⟩)
theorem sset_id {l : List Nat} (h : l.Pairwise (· < ·)) (h8 : ∀ s ∈ l, s < 8) : sset l = l := pw_ext (sset_pw l) h (sset_mem h8)
theorem sset_len (l : List Nat) : (sset l).length ≤ 8 := by
  have := List.length_filter_le (fun s => decide (s ∈ l)) (List.range 8)
  rw [List.length_range] at this
  exact this
theorem nd_perm {a b : List Nat} (ha : a.Nodup) (hb : b.Nodup) (h : ∀ k, k ∈ a ↔ k ∈ b) : a.Perm b := (List.perm_ext_iff_of_nodup ha hb).mpr h
theorem pw_nd {a : List Nat} (h : a.Pairwise (· < ·)) : a.Nodup := h.imp fun {a b} h => Nat.ne_of_lt h
theorem sset_perm {l : List Nat} (h : l.Nodup) (h8 : ∀ s ∈ l, s < 8) : (sset l).Perm l := nd_perm (pw_nd (sset_pw l)) h (sset_mem h8)
theorem zs_le {l : List Nat} (h : l.Pairwise (· < ·)) : (zs l).Pairwise (· ≤ ·) := (zs_pw h).imp fun h => Int.le_of_lt h
theorem len8 {l : List Nat} (h : l.Nodup) (h8 : ∀ s ∈ l, s < 8) : l.length ≤ 8 := by
  rw [← (sset_perm h h8).length_eq]
  exact sset_len l
theorem rsort_lot {l : List Nat} (h : l.Nodup) (h8 : ∀ s ∈ l, s < 8) : RSortI [eLot l] (.list ((zs (sset l)).map .int)) := ⟨zs l, zs (sset l), .inr rfl, (sset_perm h h8).map _, zs_le (sset_pw l), rfl⟩
def chg (l : List Bool) : Nat := ((l.zip (l.drop 1)).filter fun p => !decide (p.1 = p.2)).length
def doCross (a b : List Nat) : Bool := decide (2 < chg ((sset (a ++ b)).map fun s => decide (s ∈ a)))
/-- the lots later in the row that cross -/
def isClear : List (List Nat) → Bool
  | [] => true
  | l :: r => !(r.any fun k => doCross l k) && isClear r
theorem eqv_bool (a b : Bool) : PyData.eqv (.bool a) (.bool b) = decide (a = b) := by cases a <;> cases b <;> decide +kernel
/-- two lots of a row -/
structure LotP (x y : List Nat) : Prop where
  pa : x.Pairwise (· < ·)
  pb : y.Pairwise (· < ·)
  dj : ∀ s ∈ x, s ∉ y
  la : ∀ s ∈ x, s < 8
  lb : ∀ s ∈ y, s < 8
theorem LotP.nd {a b : List Nat} (h : LotP a b) : (a ++ b).Nodup := List.nodup_append.mpr ⟨pw_nd h.pa, pw_nd h.pb, fun x hx y hy e => h.dj x hx (e ▸ hy)⟩
theorem LotP.l8 {a b : List Nat} (h : LotP a b) : ∀ s ∈ a ++ b, s < 8 := fun s hs => (List.mem_append.mp hs).elim (h.la s) (h.lb s)
theorem LotP.symm {a b : List Nat} (h : LotP a b) : LotP b a := ⟨h.pb, h.pa, fun s hs ht => h.dj s ht hs, h.lb, h.la⟩
section
variable {P : Program} {w : World} {K : PySem.W.Frag} {mg : Str → Option Value} {base : Heap} {f : Addr} {fd : FuncData}
abbrev R_do_cross : List PyData → PyData → Prop := fun ds d => ∃ a b, LotP a b ∧ ds = [eLot a, eLot b] ∧ d = .bool (doCross a b)
abbrev N_do_cross : List Str := ["one", "other", "marks", "seat", "mark", "later"]
theorem sc_do_cross : FnScope N_do_cross ["one", "other"] (defScope s_do_cross) := ⟨rfl, rfl, rfl, by decide +kernel, rfl, by decide +kernel, by decide +kernel⟩
theorem c_do_cross (T : Txt mg) (h : Has K mg "do_cross" s_do_cross f fd) : Cal P w K mg base 1 "do_cross" ["one", "other"] R_do_cross := by
  refine CalS.mk' h (fn_D h.1 sc_do_cross (fun ds d ⟨a, b, _, e, _⟩ => by rw [e]; rfl) (fun cdv A outer s H E hr => ⟨_, (dss_cons (ds_setLc (i := 2) (own := [("seat", 3)]) rfl sc_do_cross.nd rfl rfl (sw_true rfl rfl rfl (by decide +kernel)) (di_list (de_callB cr_sortIT vc_sortI rfl T.sorted (by decide +kernel) (da_cons (de_op op_catA vop_catT (de_var 0) (de_var 1)) da_nil))) (blkOk_by (own := [("seat", 3)]) (N := N_do_cross) (sc := defScope s_do_cross) (by decide +kernel)) (fun _ _ _ _ _ => (dg_name (i := 3) sc_do_cross.nd rfl (Or.inl rfl))) (fun _ _ _ _ _ => dts_nil) (fun _ _ _ _ _ => (de_cmp (op_inT hr.u65) vop_inT (de_var 3) (de_var 0) (by rfl))))
      (dss_one (ds_ret (de_cmp op_gt vop_B (de_callB call_len_seq vc_len rfl T.len (by decide +kernel) (da_cons (de_lc (own := [("mark", 4), ("later", 5)]) rfl sc_do_cross.nd (di_zip rfl T.zip (de_var 2) (de_slL (de_var 2) (do_some de_int) do_none)) (blkOk_by (own := [("mark", 4), ("later", 5)]) (N := N_do_cross) (sc := defScope s_do_cross) (by decide +kernel)) (fun _ _ _ _ _ => (dg_two (i := 4) (j := 5) rfl sc_do_cross.nd rfl rfl (Or.inl rfl) (Or.inl rfl))) (fun _ _ _ _ _ => (dts_one (dt_cmp (op_neD hr.units) vop_ne (de_var 4) (de_var 5) (nomark _)))) (fun _ _ _ _ _ => de_int)) da_nil)) de_int (nomark _))))), fun ds d ⟨a, b, hab, e1, e2⟩ => ?_⟩)) (fun _ _ _ _ _ _ us hl => match us, hl with | [_, _], _ => rfl)
  subst e1 e2
  have hl := len8 hab.nd hab.l8
  rw [List.length_append] at hl
  have hs := sset_len (a ++ b)
  generalize hm : ((sset (a ++ b)).map fun s => decide (s ∈ a)) = ms
  have hms : ms.length ≤ 8 := by rw [← hm, List.length_map]; exact hs
  refine ⟨.list (ms.map .bool), ⟨_, _, ⟨_, ⟨_, _, ⟨_, _, rfl, rfl, _, _, rfl, rfl, by rw [List.length_map, List.length_map, zs_len, zs_len]; omega, rfl⟩, rfl, rfl⟩, ?_⟩, ?_, LcAll.ofMap (f := eN) (h := fun s => PyData.bool (decide (s ∈ a))) (as := sset (a ++ b)) (fun s hs => lcT_1 rfl ⟨_, _, rfl, rfl, in_lot s a⟩), by rw [← hm, List.map_map]; rfl⟩, ?_⟩
  · have q := rsort_lot hab.nd hab.l8
    unfold eLot tI at q
    rw [zs_append, List.map_append] at q
    have e : (zs (sset (a ++ b))).map PyData.int = (sset (a ++ b)).map eN := by unfold zs; rw [List.map_map]; rfl
    rw [e] at q
    exact q
  · rw [List.length_map]; omega
  · have hz : zipD (ms.map .bool) ((ms.map PyData.bool).drop 1) = (ms.zip (ms.drop 1)).map fun p => PyData.tuple [.bool p.1, .bool p.2] := by
      unfold zipD
      rw [← List.map_drop, List.zip_map, List.map_map]
      rfl
    have hzl : (ms.zip (ms.drop 1)).length ≤ 8 := by rw [List.length_zip]; omega
    refine ⟨_, ⟨_, _, ⟨_, ⟨_, _, ⟨(ms.zip (ms.drop 1)).map (fun p : Bool × Bool => PyData.tuple [.bool p.1, .bool p.2]), _, ⟨_, _, rfl, ⟨_, _, _, rfl, ⟨1, rfl, rfl⟩, rfl, _, rfl, rfl⟩, ?_⟩, ?_, LcAll.of (h := fun _ => PyData.int 1) (p := fun p : Bool × Bool => !decide (p.1 = p.2)) (fun p hp => ?_), rfl⟩, rfl, rfl⟩, _, .inl rfl, rfl⟩, rfl, _, _, rfl, rfl, ?_⟩, rfl⟩
    · have q := cut_from (ds := ms.map PyData.bool) 1
      exact hz.symm.trans (congrArg (zipD (ms.map .bool)) q.symm)
    · rw [List.length_map]; omega
    · exact lcT_of ⟨_, _, rfl, rfl⟩ ⟨_, _, rfl, rfl, sh_bool _, sh_bool _, congrArg (fun b => PyData.bool (!b)) (eqv_bool p.1 p.2).symm⟩ fun _ => rfl
    · refine congrArg PyData.bool ?_
      unfold doCross
      rw [hm]
      show decide (2 < chg ms) = decide (2 < ((((ms.zip (ms.drop 1)).filter fun p : Bool × Bool => !decide (p.1 = p.2)).map fun _ => PyData.int 1).length : Int))
      rw [List.length_map]
      unfold chg
      exact decide_eq_decide.mpr (by omega)
abbrev R_is_clear : List PyData → PyData → Prop := fun ds d => ∃ n D, IsDeal n D ∧ ds = [eDeal D] ∧ d = .bool (isClear D)
abbrev N_is_clear : List Str := ["deal", "at", "one", "other"]
theorem sc_is_clear : FnScope N_is_clear ["deal"] (defScope s_is_clear) := ⟨rfl, rfl, rfl, by decide +kernel, rfl, by decide +kernel, by decide +kernel⟩
theorem c_is_clear (T : Txt mg) (C_do_cross : Cal P w K mg base 1 "do_cross" ["one", "other"] R_do_cross) (h : Has K mg "is_clear" s_is_clear f fd) : Cal P w K mg base 2 "is_clear" ["deal"] R_is_clear := by
  refine CalS.mk' h (fn_D h.1 sc_is_clear (fun ds d ⟨n, D, _, e, _⟩ => by rw [e]; rfl) (fun cdv A outer s H E hr => ⟨_, (dss_cons (ds_for PassesOwn.never rfl (di_enumT rfl T.enumerate (de_var 0)) (dg_two (i := 1) (j := 2) rfl sc_is_clear.nd rfl rfl (Or.inl rfl) (Or.inr rfl)) (dss_one (ds_if (dt_val (de_callB (cr_any rfl) vc_any rfl T.any (by decide +kernel) (da_cons (de_lc (own := [("other", 3)]) rfl sc_is_clear.nd (di_tup (de_slT (de_var 0) (do_some (de_op op_add vop_I (de_var 1) de_int)) do_none)) (blkOk_by (own := [("other", 3)]) (N := N_is_clear) (sc := defScope s_is_clear) (by decide +kernel)) (fun _ _ _ _ _ => (dg_name (i := 3) sc_is_clear.nd rfl (Or.inl rfl))) (fun _ _ _ _ _ => dts_nil) (fun _ _ _ _ _ => (de_cal C_do_cross hr (by decide) rfl (da_cons (de_var 2) (da_cons (de_var 3) da_nil))))) da_nil))) (dss_one (ds_ret de_bl)) dss_nil)))
      (dss_one (ds_ret de_bl))), fun ds d ⟨n, D, hD, e1, e2⟩ => ?_⟩)) (fun _ _ _ _ _ _ us hl => match us, hl with | [_], _ => rfl)
  subst e1 e2
  have hl := hD.len
  have n8 := hD.n8
  refine ⟨enumD (D.map eLot), fun i ρ => (∃ o o2, ρ = [some (eDeal D), o, o2, none]) ∧ isClear D = isClear (D.drop i), ⟨_, rfl, rfl⟩, ⟨⟨none, none, rfl⟩, rfl⟩, ?_, ?_⟩
  · rintro i d ρ hd ⟨⟨o, o2, rfl⟩, hw⟩
    obtain ⟨d', hd', rfl⟩ := enumD_at hd
    rw [List.getElem?_map] at hd'
    cases hx : D[i]? with
    | none => rw [hx] at hd'; cases hd'
    | some l =>
      rw [hx] at hd'
      have e : eLot l = d' := Option.some.inj hd'
      subst e
      obtain ⟨hi, hx2⟩ := List.getElem?_eq_some_iff.mp hx
      have ed : D.drop i = l :: D.drop (i + 1) := by rw [List.drop_eq_getElem_cons hi, hx2]
      have hlm : l ∈ D := List.mem_of_getElem? hx
      rw [ed] at hw
      refine ⟨_, ⟨_, _, rfl, rfl⟩, (D.drop (i + 1)).any (doCross l), ⟨_, ⟨_, _, ⟨(D.drop (i + 1)).map eLot, _, ⟨_, _, _, rfl, ⟨_, ⟨_, _, rfl, rfl, _, _, rfl, rfl, rfl⟩, rfl⟩, rfl, _, rfl, ?_⟩, ?_, LcAll.ofMap (h := fun k => PyData.bool (doCross l k)) (fun k hk => lcT_1 rfl ⟨_, ⟨_, _, rfl, ⟨_, _, rfl, rfl, rfl⟩, rfl⟩, l, k, ?_, rfl, rfl⟩), rfl⟩, rfl, rfl⟩, (D.drop (i + 1)).map (doCross l), by rw [List.map_map]; rfl, ?_⟩, ?_⟩
      · have q := cut_from (ds := D.map eLot) (i + 1)
        rw [List.map_drop]
        exact congrArg PyData.tuple q.symm
      · rw [List.length_map, List.length_drop]; omega
      · have hkm : k ∈ D := List.mem_of_mem_drop hk
        have nd : D.flatten.Nodup := hD.cov.nodup_iff.mpr List.nodup_range
        refine ⟨(hD.lot l hlm).2, (hD.lot k hkm).2, fun s h1 h2 => ?_, fun s hs => by have := hD.lt hlm hs; omega, fun s hs => by have := hD.lt hkm hs; omega⟩
        have e3 : D = D.take i ++ l :: D.drop (i + 1) := by rw [← ed, List.take_append_drop]
        rw [e3, List.flatten_append, List.flatten_cons] at nd
        have nd2 := (List.nodup_append.mp nd).2.1
        exact (List.nodup_append.mp nd2).2.2 s h1 s (List.mem_flatten.mpr ⟨k, hk, h2⟩) rfl
      · rw [List.any_map]
        rfl
      · cases hq : (D.drop (i + 1)).any (doCross l) with
        | true =>
          refine iteT ⟨_, rfl, ?_⟩
          rw [hw]
          show _ = PyData.bool (!((D.drop (i + 1)).any fun k => doCross l k) && isClear (D.drop (i + 1)))
          rw [show ((D.drop (i + 1)).any fun k => doCross l k) = true from hq]
          rfl
        | false =>
          refine iteF ⟨⟨_, _, rfl⟩, ?_⟩
          rw [hw]
          show (!((D.drop (i + 1)).any fun k => doCross l k) && isClear (D.drop (i + 1))) = _
          rw [show ((D.drop (i + 1)).any fun k => doCross l k) = false from hq]
          rfl
  · rintro ρ ⟨⟨o, o2, rfl⟩, hw⟩
    rw [enumD_len, List.length_map, List.drop_length] at hw
    exact ⟨_, rfl, by rw [hw]; rfl⟩
theorem eqv_str (a b : Str) : PyData.eqv (.str a) (.str b) = decide (a = b) := by rw [PyData.eqv, Bool.eq_iff_iff]; simp
theorem sh_sCross : SeqAt.shaped (.str "cross") = true := by decide +kernel
theorem sh_clear : SeqAt.shaped dClear = true := by decide +kernel
abbrev R_shows_four : List PyData → PyData → Prop := fun ds r => ∃ n D a b c d, IsDeal n D ∧ a < n ∧ b < n ∧ c < n ∧ d < n ∧ ds = [eDeal D, dCross [a, b, c, d]] ∧ r = .bool (isFour D a b c d)
abbrev N_shows_four : List Str := ["deal", "thing", "one"]
theorem sc_shows_four : FnScope N_shows_four ["deal", "thing"] (defScope s_shows_four) := ⟨rfl, rfl, rfl, by decide +kernel, rfl, by decide +kernel, by decide +kernel⟩
theorem c_shows_four (T : Txt mg) (C_is_among : Cal P w K mg base 2 "is_among" ["thing", "least", "most"] R_is_among) (C_size : Cal P w K mg base 1 "size" ["deal"] R_size) (C_is_four : Cal P w K mg base 2 "is_four" ["deal", "four"] R_is_four) (h : Has K mg "shows_four" s_shows_four f fd) : Cal P w K mg base 3 "shows_four" ["deal", "thing"] R_shows_four := by
  refine CalS.mk' h (fn_D h.1 sc_shows_four (fun ds r ⟨n, D, a, b, c, d, _, _, _, _, _, e, _⟩ => by rw [e]; rfl) (fun cdv A outer s H E hr => ⟨_, (dss_cons (ds_if (DW.dt (dw_or (dt_not (dt_val (de_isi (x := "tuple") (T := "tuple") rfl rfl T.isinstance rfl T.tuple (by decide +kernel) (by decide +kernel) (by decide +kernel) (de_var 1)))) (dw_or (dt_cmp (op_neD hr.units) vop_ne (de_callB call_len_seq vc_len rfl T.len (by decide +kernel) (da_cons (de_var 1) da_nil)) de_int (nomark _)) (dw_or1 (dt_cmp (op_neD hr.units) vop_ne (de_ixT (de_var 1) de_int (fun _ _ => rfl)) (de_gstr rfl T.cCROSS) (nomark _)))))) (dss_one (ds_ret de_bl)) dss_nil)
      (dss_cons (ds_if (dt_not (dt_val (de_callB (cr_all rfl) vc_all rfl T.all (by decide +kernel) (da_cons (de_lc (own := [("one", 2)]) rfl sc_shows_four.nd (di_tup (de_slT (de_var 1) (do_some de_int) do_none)) (blkOk_by (own := [("one", 2)]) (N := N_shows_four) (sc := defScope s_shows_four) (by decide +kernel)) (fun _ _ _ _ _ => (dg_name (i := 2) sc_shows_four.nd rfl (Or.inl rfl))) (fun _ _ _ _ _ => dts_nil) (fun _ _ _ _ _ => (de_cal C_is_among hr (by decide) rfl (da_cons (de_var 2) (da_cons de_int (da_cons (de_op op_sub vop_I (de_cal C_size hr (by decide) rfl (da_cons (de_var 0) da_nil)) de_int) da_nil)))))) da_nil)))) (dss_one (ds_ret de_bl)) dss_nil)
      (dss_one (ds_ret (de_cal C_is_four hr (by decide) rfl (da_cons (de_var 0) (da_cons (de_slT (de_var 1) (do_some de_int) do_none) da_nil))))))), fun ds r ⟨n, D, a, b, c, d, hD, ha, hb, hc, hd, e1, e2⟩ => ?_⟩)) (fun _ _ _ _ _ _ us hl => match us, hl with | [_, _], _ => rfl)
  subst e1 e2
  have hl := hD.len
  have n8 := hD.n8
  have hcut : PyData.tuple ((zs [a, b, c, d]).map .int) = .tuple (cutD (.str "cross" :: (zs [a, b, c, d]).map .int) (some 1) none) := congrArg PyData.tuple (cut_from (ds := .str "cross" :: (zs [a, b, c, d]).map .int) 1).symm
  refine ⟨false, ⟨false, ⟨_, true, rfl, trivial, kit_tt, rfl⟩, iteF ⟨false, ⟨_, _, ⟨_, ⟨_, _, rfl, rfl, rfl⟩, _, .inr rfl, rfl⟩, rfl, sh_int _, sh_int _, congrArg (fun b => PyData.bool (!b)) (eqv_N 5 5).symm⟩, iteF ⟨.str "cross", _, ⟨_, _, rfl, rfl, _, _, rfl, rfl, rfl⟩, rfl, sh_sCross, sh_sCross, congrArg (fun b => PyData.bool (!b)) ((eqv_str "cross" "cross").trans (decide_eq_true rfl)).symm⟩⟩⟩, iteF ?_⟩
  refine ⟨false, ⟨_, ⟨_, _, ⟨(zs [a, b, c, d]).map .int, _, ⟨_, _, _, rfl, ⟨1, rfl, rfl⟩, rfl, _, rfl, hcut⟩, by rw [List.length_map, zs_len]; show 4 ≤ _; omega, LcAll.ofMap (h := fun _ => PyData.bool true) (fun s hs => lcT_1 rfl ⟨_, ⟨_, _, rfl, ⟨_, _, rfl, ⟨_, _, ⟨_, _, ⟨_, ⟨_, _, rfl, rfl, rfl⟩, D, by omega, rfl, rfl⟩, rfl, _, _, rfl, rfl, rfl⟩, rfl, rfl⟩, rfl⟩, rfl⟩, s, 0, _, ?_, ?_, rfl, rfl⟩), rfl⟩, rfl, rfl⟩, [true, true, true, true], rfl, rfl⟩, iteF ?_⟩
  · obtain ⟨k, hk, e⟩ := zs_mem.mp hs
    omega
  · obtain ⟨k, hk, e⟩ := zs_mem.mp hs
    show s ≤ (D.flatten.length : Int) - 1
    rw [hD.flen]
    simp at hk
    omega
  · exact ⟨_, ⟨_, ⟨_, _, rfl, ⟨_, _, ⟨_, _, _, rfl, ⟨1, rfl, rfl⟩, rfl, _, rfl, rfl⟩, rfl, rfl⟩, rfl⟩, n, D, a, b, c, d, hD, ha, hb, hc, hd, by rw [← hcut], rfl⟩, rfl⟩
abbrev R_shows_crossing : List PyData → PyData → Prop := fun ds r => (∃ n D, IsDeal n D ∧ ds = [eDeal D, dClear] ∧ r = .bool (isClear D)) ∨ ∃ n D a b c d, IsDeal n D ∧ a < n ∧ b < n ∧ c < n ∧ d < n ∧ ds = [eDeal D, dCross [a, b, c, d]] ∧ r = .bool (isFour D a b c d)
theorem sh_cross (x : List Nat) : SeqAt.shaped (dCross x) = true := by
  unfold SeqAt.shaped
  have e : PyData.canLay0 (.str "cross") = true := by decide +kernel
  have e2 : PyData.depth (.str "cross") = 0 := by decide +kernel
  rw [PyData.canLay0, PyData.canLayAll0, can_ints, e, PyData.depth, PyData.depthAll, dep_ints, e2]
  rfl
theorem eqv_cross (x : List Nat) : PyData.eqv (dCross x) dClear = false := by
  have e : PyData.eqv (.str "cross") (.str "clear") = false := (eqv_str _ _).trans (decide_eq_false (by decide))
  rw [PyData.eqv, PyData.eqvAll, e]
  rfl
theorem eqv_clear : PyData.eqv dClear dClear = true := by
  have e : PyData.eqv (.str "clear") (.str "clear") = true := (eqv_str _ _).trans (decide_eq_true rfl)
  rw [PyData.eqv, PyData.eqvAll, e]
  rfl
abbrev N_shows_crossing : List Str := ["deal", "thing"]
theorem sc_shows_crossing : FnScope N_shows_crossing ["deal", "thing"] (defScope s_shows_crossing) := ⟨rfl, rfl, rfl, by decide +kernel, rfl, by decide +kernel, by decide +kernel⟩
theorem c_shows_crossing (T : Txt mg) (C_need_deal : Cal P w K mg base 5 "need_deal" ["thing"] R_need_deal) (C_is_clear : Cal P w K mg base 2 "is_clear" ["deal"] R_is_clear) (C_shows_four : Cal P w K mg base 3 "shows_four" ["deal", "thing"] R_shows_four) (h : Has K mg "shows_crossing" s_shows_crossing f fd) : Cal P w K mg base 6 "shows_crossing" ["deal", "thing"] R_shows_crossing := by
  refine CalS.mk' h (fn_D h.1 sc_shows_crossing (fun ds r hR => ?_) (fun cdv A outer s H E hr => ⟨_, (dss_cons (ds_expr (de_cal C_need_deal hr (by decide) rfl (da_cons (de_var 0) da_nil)))
      (dss_cons (ds_if (DW.dt (dw_and (dt_val (de_isi (x := "tuple") (T := "tuple") rfl rfl T.isinstance rfl T.tuple (by decide +kernel) (by decide +kernel) (by decide +kernel) (de_var 1))) (dw_and1 (dt_cmp (op_eqD hr.units) vop_eq (de_var 1) (de_tup (da_cons (de_gstr rfl T.cCLEAR) da_nil)) (nomark _))))) (dss_one (ds_ret (de_cal C_is_clear hr (by decide) rfl (da_cons (de_var 0) da_nil)))) dss_nil)
      (dss_one (ds_ret (de_cal C_shows_four hr (by decide) rfl (da_cons (de_var 0) (da_cons (de_var 1) da_nil))))))), fun ds r hR => ?_⟩)) (fun _ _ _ _ _ _ us hl => match us, hl with | [_, _], _ => rfl)
  · rcases hR with ⟨n, D, _, e, _⟩ | ⟨n, D, a, b, c, d, _, _, _, _, _, e, _⟩ <;> rw [e] <;> rfl
  rcases hR with ⟨n, D, hD, e, e2⟩ | ⟨n, D, a, b, c, d, hD, ha, hb, hc, hd, e, e2⟩
  · subst e e2
    exact ⟨.none, ⟨_, ⟨_, _, rfl, rfl, rfl⟩, n, D, hD, rfl, rfl⟩, true, ⟨true, ⟨_, true, rfl, trivial, kit_tt, rfl⟩, iteT ⟨_, _, rfl, ⟨_, ⟨_, _, rfl, rfl, rfl⟩, by show 1 ≤ sizeLine; decide, rfl⟩, sh_clear, sh_clear, congrArg PyData.bool eqv_clear.symm⟩⟩, iteT ⟨_, ⟨_, ⟨_, _, rfl, rfl, rfl⟩, n, D, hD, rfl, rfl⟩, rfl⟩⟩
  · subst e e2
    exact ⟨.none, ⟨_, ⟨_, _, rfl, rfl, rfl⟩, n, D, hD, rfl, rfl⟩, false, ⟨true, ⟨_, true, rfl, trivial, kit_tt, rfl⟩, iteT ⟨_, _, rfl, ⟨_, ⟨_, _, rfl, rfl, rfl⟩, by show 1 ≤ sizeLine; decide, rfl⟩, sh_cross _, sh_clear, congrArg PyData.bool (eqv_cross _).symm⟩⟩, iteF ⟨_, ⟨_, ⟨_, _, rfl, ⟨_, _, rfl, rfl, rfl⟩, rfl⟩, n, D, a, b, c, d, hD, ha, hb, hc, hd, rfl, rfl⟩, rfl⟩⟩
abbrev R_is_parting : List PyData → PyData → Prop := fun ds d => ∃ n D, IsDeal n D ∧ ds = [eDeal D] ∧ d = .bool (isClear D)
abbrev N_is_parting : List Str := ["thing"]
theorem sc_is_parting : FnScope N_is_parting ["thing"] (defScope s_is_parting) := ⟨rfl, rfl, rfl, by decide +kernel, rfl, by decide +kernel, by decide +kernel⟩
theorem c_is_parting (T : Txt mg) (C_is_deal : Cal P w K mg base 4 "is_deal" ["thing"] R_is_deal) (C_is_clear : Cal P w K mg base 2 "is_clear" ["deal"] R_is_clear) (h : Has K mg "is_parting" s_is_parting f fd) : Cal P w K mg base 5 "is_parting" ["thing"] R_is_parting := by
  refine CalS.mk' h (fn_D h.1 sc_is_parting (fun ds d ⟨n, D, _, e, _⟩ => by rw [e]; rfl) (fun cdv A outer s H E hr => ⟨_, (dss_one (ds_ret (de_and (de_cal C_is_deal hr (by decide) rfl (da_cons (de_var 0) da_nil)) (de_one (de_cal C_is_clear hr (by decide) rfl (da_cons (de_var 0) da_nil)))))), fun ds d ⟨n, D, hD, e1, e2⟩ => ?_⟩)) (fun _ _ _ _ _ _ us hl => match us, hl with | [_], _ => rfl)
  subst e1 e2
  exact ⟨_, ⟨true, ⟨_, ⟨_, _, rfl, rfl, rfl⟩, n, D, hD, rfl, rfl⟩, iteT ⟨_, ⟨_, _, rfl, rfl, rfl⟩, n, D, hD, rfl, rfl⟩⟩, rfl⟩
abbrev R_need_parting : List PyData → PyData → Prop := fun ds d => ∃ n D, IsDeal n D ∧ isClear D = true ∧ ds = [eDeal D] ∧ d = .none
abbrev N_need_parting : List Str := ["thing"]
theorem sc_need_parting : FnScope N_need_parting ["thing"] (defScope s_need_parting) := ⟨rfl, rfl, rfl, by decide +kernel, rfl, by decide +kernel, by decide +kernel⟩
theorem c_need_parting (T : Txt mg) (C_is_parting : Cal P w K mg base 5 "is_parting" ["thing"] R_is_parting) (h : Has K mg "need_parting" s_need_parting f fd) : Cal P w K mg base 6 "need_parting" ["thing"] R_need_parting := by
  refine CalS.mk' h (fn_DN h.1 sc_need_parting (fun ds d ⟨n, D, _, _, e, _⟩ => by rw [e]; rfl) (fun cdv A outer s H E hr => ⟨_, (dss_one (ds_if (dt_not (dt_val (de_cal C_is_parting hr (by decide) rfl (da_cons (de_var 0) da_nil)))) (dss_one ds_never) dss_nil)), fun ds d ⟨n, D, hD, hc, e1, e2⟩ => ?_⟩)) (fun _ _ _ _ _ _ us hl => match us, hl with | [_], _ => rfl)
  subst e1 e2
  exact ⟨false, ⟨_, ⟨_, _, rfl, rfl, rfl⟩, n, D, hD, rfl, by rw [hc]; rfl⟩, iteF rfl⟩
/-- lots as a deal -/
def inOrder (L : List (List Nat)) : List (List Nat) := srtLx (L.map sset)
structure LotsP (L : List (List Nat)) : Prop where
  ne : ∀ l ∈ L, l ≠ []
  nd : ∀ l ∈ L, l.Nodup
  l8 : ∀ l ∈ L, ∀ s ∈ l, s < 8
  le : L.length ≤ 100
theorem sset_ne {l : List Nat} (h : l ≠ []) (h8 : ∀ s ∈ l, s < 8) : sset l ≠ [] := fun e => by
  cases l with
  | nil => exact h rfl
  | cons x l =>
    have := (sset_mem h8 x).mpr List.mem_cons_self
    rw [e] at this
    cases this
theorem in_order_D {L : List (List Nat)} (h : LotsP L) {g : DGt} {re : RD} {ρ : DEnv} (hg : ∀ l ∈ L, ∃ ρ', g (eLot l) ρ ρ' ∧ re ρ' (eLot (sset l))) : LcAll g (fun _ b => b = true) re ρ (L.map eLot) ((L.map sset).map eLot) := by
  have e : (L.map sset).map eLot = L.map fun l => eLot (sset l) := by rw [List.map_map]; rfl
  rw [e]
  exact LcAll.ofMap fun l hl => by
    obtain ⟨ρ', h1, h2⟩ := hg l hl
    exact lcT_1 h1 h2
theorem LotsP.ne' {L : List (List Nat)} (h : LotsP L) : ∀ l ∈ L.map sset, l ≠ [] := fun l hl => by
  obtain ⟨k, hk, e⟩ := List.mem_map.mp hl
  rw [← e]
  exact sset_ne (h.ne k hk) (h.l8 k hk)
abbrev R_in_order : List PyData → PyData → Prop := fun ds d => ∃ L, LotsP L ∧ ds = [eLots L] ∧ d = eDeal (inOrder L)
abbrev N_in_order : List Str := ["lots", "lot"]
theorem sc_in_order : FnScope N_in_order ["lots"] (defScope s_in_order) := ⟨rfl, rfl, rfl, by decide +kernel, rfl, by decide +kernel, by decide +kernel⟩
theorem c_in_order (T : Txt mg) (h : Has K mg "in_order" s_in_order f fd) : Cal P w K mg base 1 "in_order" ["lots"] R_in_order := by
  refine CalS.mk' h (fn_D h.1 sc_in_order (fun ds d ⟨L, _, e, _⟩ => by rw [e]; rfl) (fun cdv A outer s H E hr => ⟨_, (dss_one (ds_ret (de_callTy call_tuple_of vc_tuple rfl T.tuple (by decide +kernel) (da_cons (de_callB cr_sortLx vc_sortLx rfl T.sorted (by decide +kernel) (da_cons (de_lc (own := [("lot", 1)]) rfl sc_in_order.nd (di_list (de_var 0)) (blkOk_by (own := [("lot", 1)]) (N := N_in_order) (sc := defScope s_in_order) (by decide +kernel)) (fun _ _ _ _ _ => (dg_name (i := 1) sc_in_order.nd rfl (Or.inl rfl))) (fun _ _ _ _ _ => dts_nil) (fun _ _ _ _ _ => (de_callTy call_tuple_of vc_tuple rfl T.tuple (by decide +kernel) (da_cons (de_callB cr_sortIT vc_sortI rfl T.sorted (by decide +kernel) (da_cons (de_var 1) da_nil)) da_nil)))) da_nil)) da_nil)))), fun ds d ⟨L, hL, e1, e2⟩ => ?_⟩)) (fun _ _ _ _ _ _ us hl => match us, hl with | [_], _ => rfl)
  subst e1 e2
  have hl := hL.le
  exact ⟨_, ⟨_, ⟨_, _, ⟨_, ⟨_, _, ⟨_, _, rfl, by rw [List.length_map]; omega, in_order_D hL (fun l hl => ⟨_, rfl, _, ⟨_, _, ⟨_, ⟨_, _, rfl, rfl, rfl⟩, rsort_lot (hL.nd l hl) (hL.l8 l hl)⟩, rfl, rfl⟩, _, .inl rfl, rfl⟩), rfl⟩, rfl, rfl⟩, rsort_lx hL.ne'⟩, rfl, rfl⟩, _, .inl rfl, rfl⟩, rfl⟩
end
end Rng
namespace Rng
open PySem PySem.Spec PyProof.Rows L2
/-! ### the module of partings -/
def partsTwo (A B : List (List Nat)) (s t : Nat) : Bool := decide (s < t) && (decide (t ∈ lotW A s) && !decide (t ∈ lotW B s))
abbrev dFiner : PyData := .tuple [.str "finer"]
abbrev dApart (s t : Nat) : PyData := .tuple [.str "apart", eN s, eN t]
def FinerD (A B : List (List Nat)) (n : Nat) (d : PyData) : Prop := ((∀ s t, s < t → t < n → partsTwo A B s t = false) ∧ d = dFiner) ∨ ∃ s t, s < t ∧ t < n ∧ partsTwo A B s t = true ∧ (∀ s' t', s' < t' → t' < n → (s' < s ∨ s' = s ∧ t' < t) → partsTwo A B s' t' = false) ∧ d = dApart s t
theorem notin_lot (s : Nat) (l : List Nat) : RNotInT (eN s) (eLot l) (.bool (!decide (s ∈ l))) := ⟨_, rfl, sh_int _, sh_lot l, congrArg (fun b => PyData.bool (!b)) (any_lot s l).symm⟩
def mustJoin (a b : List Nat) : Bool := !decide ((a.filter fun s => decide (s ∈ b)) = []) || doCross a b
def findJoin : List (List Nat) → Option (List Nat × List Nat)
  | [] => none
  | l :: r => match r.find? (mustJoin l) with
    | some k => some (l, k)
    | none => findJoin r
/-- what is left with the two joined -/
def joined (M : List (List Nat)) (a b : List Nat) : List (List Nat) := (M.filter fun l => !(decide (l = a) || decide (l = b))) ++ [a ++ b]
def putT : Nat → List (List Nat) → List (List Nat)
  | 0, L => L.map sset
  | n + 1, L => match findJoin (L.map sset) with
    | some p => putT n (joined (L.map sset) p.1 p.2)
    | none => L.map sset
structure LotsOk (L : List (List Nat)) : Prop where
  ne : ∀ l ∈ L, l ≠ []
  l8 : ∀ l ∈ L, ∀ s ∈ l, s < 8
  le : ∀ l ∈ L, l.length ≤ 16
theorem LotsOk.sset {L : List (List Nat)} (h : LotsOk L) : LotsOk (L.map Rng.sset) := ⟨fun l hl => by
    obtain ⟨k, hk, rfl⟩ := List.mem_map.mp hl
    exact sset_ne (h.ne k hk) (h.l8 k hk), fun l hl s hs => by
    obtain ⟨k, hk, rfl⟩ := List.mem_map.mp hl
    exact (sset_lt hs).1, fun l hl => by
    obtain ⟨k, hk, rfl⟩ := List.mem_map.mp hl
    exact Nat.le_trans (sset_len k) (by decide)⟩
theorem findJoin_mem : ∀ {M : List (List Nat)} {a b : List Nat}, findJoin M = some (a, b) → ∃ M1 M2 M3, M = M1 ++ a :: M2 ++ b :: M3 ∧ mustJoin a b = true
  | [], a, b, h => by cases h
  | l :: r, a, b, h => by
    unfold findJoin at h
    cases q : r.find? (mustJoin l) with
    | some k =>
      rw [q] at h
      cases h
      obtain ⟨h1, s, t, e, _⟩ := List.find?_eq_some_iff_append.mp q
      exact ⟨[], s, t, by rw [e]; rfl, h1⟩
    | none =>
      rw [q] at h
      obtain ⟨M1, M2, M3, e, hm⟩ := findJoin_mem h
      exact ⟨l :: M1, M2, M3, by rw [e]; rfl, hm⟩
theorem joined_len {M M1 M2 M3 : List (List Nat)} {a b : List Nat} (e : M = M1 ++ a :: M2 ++ b :: M3) : (joined M a b).length + 1 ≤ M.length := by
  have key : ∀ N : List (List Nat), (N.filter fun l => !(decide (l = a) || decide (l = b))).length ≤ N.length := fun N => List.length_filter_le _ _
  have h1 := key M1
  have h2 := key M2
  have h3 := key M3
  subst e
  unfold joined
  simp only [List.filter_append, List.filter_cons, List.length_append, List.length_cons, List.length_singleton, decide_true, Bool.or_true, Bool.true_or, Bool.not_true, Bool.false_eq_true, if_false, List.length_nil]
  omega
theorem joined_ok {M : List (List Nat)} {a b : List Nat} (h : LotsOk M) (ha : a ∈ M) (hb : b ∈ M) (la : a.length ≤ 8) (lb : b.length ≤ 8) : LotsOk (joined M a b) := by
  unfold joined
  refine ⟨fun l hl => ?_, fun l hl s hs => ?_, fun l hl => ?_⟩
  · rcases List.mem_append.mp hl with q | q
    · exact h.ne l (List.mem_filter.mp q).1
    · rw [List.mem_singleton.mp q]
      intro e
      exact h.ne a ha (List.append_eq_nil_iff.mp e).1
  · rcases List.mem_append.mp hl with q | q
    · exact h.l8 l (List.mem_filter.mp q).1 s hs
    · rw [List.mem_singleton.mp q] at hs
      exact (List.mem_append.mp hs).elim (h.l8 a ha s) (h.l8 b hb s)
  · rcases List.mem_append.mp hl with q | q
    · exact h.le l (List.mem_filter.mp q).1
    · rw [List.mem_singleton.mp q, List.length_append]
      omega
section
variable {P : Program} {w : World} {K : PySem.W.Frag} {mg : Str → Option Value} {base : Heap} {f : Addr} {fd : FuncData}
abbrev R_need_two : List PyData → PyData → Prop := fun ds d => ∃ n A B, IsDeal n A ∧ IsDeal n B ∧ isClear A = true ∧ isClear B = true ∧ ds = [eDeal A, eDeal B] ∧ d = .none
abbrev N_need_two : List Str := ["one", "other"]
theorem sc_need_two : FnScope N_need_two ["one", "other"] (defScope s_need_two) := ⟨rfl, rfl, rfl, by decide +kernel, rfl, by decide +kernel, by decide +kernel⟩
theorem c_need_two (T : Txt mg) (C_need_parting : Cal P w K mg base 6 "need_parting" ["thing"] R_need_parting) (C_size : Cal P w K mg base 1 "size" ["deal"] R_size) (h : Has K mg "need_two" s_need_two f fd) : Cal P w K mg base 7 "need_two" ["one", "other"] R_need_two := by
  refine CalS.mk' h (fn_DN h.1 sc_need_two (fun ds d ⟨n, A, B, _, _, _, _, e, _⟩ => by rw [e]; rfl) (fun cdv Ar outer s H E hr => ⟨_, (dss_cons (ds_expr (de_cal C_need_parting hr (by decide) rfl (da_cons (de_var 0) da_nil)))
      (dss_cons (ds_expr (de_cal C_need_parting hr (by decide) rfl (da_cons (de_var 1) da_nil)))
      (dss_one (ds_if (dt_cmp (op_neD hr.units) vop_ne (de_cal C_size hr (by decide) rfl (da_cons (de_var 0) da_nil)) (de_cal C_size hr (by decide) rfl (da_cons (de_var 1) da_nil)) (nomark _)) (dss_one ds_never) dss_nil)))), fun ds d ⟨n, A, B, hA, hB, cA, cB, e1, e2⟩ => ?_⟩)) (fun _ _ _ _ _ _ us hl => match us, hl with | [_, _], _ => rfl)
  subst e1 e2
  have n8 := hA.n8
  have lA := hA.len
  have lB := hB.len
  refine ⟨.none, ⟨_, ⟨_, _, rfl, rfl, rfl⟩, n, A, hA, cA, rfl, rfl⟩, .none, ⟨_, ⟨_, _, rfl, rfl, rfl⟩, n, B, hB, cB, rfl, rfl⟩, false, ⟨_, _, ⟨_, ⟨_, _, rfl, rfl, rfl⟩, A, by omega, rfl, rfl⟩, ⟨_, ⟨_, _, rfl, rfl, rfl⟩, B, by omega, rfl, rfl⟩, sh_int _, sh_int _, ?_⟩, iteF rfl⟩
  rw [hA.flen, hB.flen, eqv_N, decide_eq_true rfl]
  rfl
abbrev R_parts_two : List PyData → PyData → Prop := fun ds d => ∃ n A B s t, IsDeal n A ∧ IsDeal n B ∧ s < n ∧ t < n ∧ ds = [eDeal A, eDeal B, eN s, eN t] ∧ d = .bool (partsTwo A B s t)
abbrev N_parts_two : List Str := ["one", "other", "s", "t"]
theorem sc_parts_two : FnScope N_parts_two ["one", "other", "s", "t"] (defScope s_parts_two) := ⟨rfl, rfl, rfl, by decide +kernel, rfl, by decide +kernel, by decide +kernel⟩
theorem c_parts_two (T : Txt mg) (C_lot_with : Cal P w K mg base 1 "lot_with" ["deal", "seat"] R_lot_with) (h : Has K mg "parts_two" s_parts_two f fd) : Cal P w K mg base 2 "parts_two" ["one", "other", "s", "t"] R_parts_two := by
  refine CalS.mk' h (fn_D h.1 sc_parts_two (fun ds d ⟨n, A, B, s, t, _, _, _, _, e, _⟩ => by rw [e]; rfl) (fun cdv Ar outer s H E hr => ⟨_, (dss_one (ds_ret (de_and (de_cmp op_lt vop_B (de_var 2) (de_var 3) (nomark _)) (de_and (de_cmp (op_inT hr.u65) vop_inT (de_var 3) (de_cal C_lot_with hr (by decide) rfl (da_cons (de_var 0) (da_cons (de_var 2) da_nil))) (by rfl)) (de_one (de_cmp (op_notInT hr.u65) vop_notInT (de_var 3) (de_cal C_lot_with hr (by decide) rfl (da_cons (de_var 1) (da_cons (de_var 2) da_nil))) (by rfl))))))), fun ds d ⟨n, A, B, s, t, hA, hB, hs, ht, e1, e2⟩ => ?_⟩)) (fun _ _ _ _ _ _ us hl => match us, hl with | [_, _, _, _], _ => rfl)
  subst e1 e2
  have n8 := hA.n8
  have lA := hA.len
  have lB := hB.len
  refine ⟨_, ⟨decide (s < t), ⟨_, _, rfl, rfl, _, _, rfl, rfl, congrArg PyData.bool (decide_eq_decide.mpr (by omega))⟩, ?_⟩, rfl⟩
  unfold partsTwo
  cases h1 : decide (s < t) with
  | false => exact iteF rfl
  | true =>
    refine iteT ⟨_, ⟨_, _, rfl, ⟨_, ⟨_, _, rfl, ⟨_, _, rfl, rfl, rfl⟩, rfl⟩, A, s, hA.has hs, by omega, rfl, rfl⟩, in_lot t _⟩, ?_⟩
    cases h2 : decide (t ∈ lotW A s) with
    | false => exact iteF rfl
    | true => exact iteT ⟨_, _, rfl, ⟨_, ⟨_, _, rfl, ⟨_, _, rfl, rfl, rfl⟩, rfl⟩, B, s, hB.has hs, by omega, rfl, rfl⟩, notin_lot t _⟩
abbrev R_finer_by : List PyData → PyData → Prop := fun ds d => ∃ n A B, IsDeal n A ∧ IsDeal n B ∧ ds = [eDeal A, eDeal B] ∧ FinerD A B n d
abbrev N_finer_by : List Str := ["one", "other", "s", "t"]
theorem sc_finer_by : FnScope N_finer_by ["one", "other"] (defScope s_finer_by) := ⟨rfl, rfl, rfl, by decide +kernel, rfl, by decide +kernel, by decide +kernel⟩
theorem rngD_at2 {m n i : Nat} {d : PyData} (h : (rngD m n)[i]? = some d) : d = eN (m + i) ∧ i < n := by
  have hi : i < n := by
    have := (List.getElem?_eq_some_iff.mp h).1
    rwa [rngD_len] at this
  unfold rngD at h
  rw [List.getElem?_map, List.getElem?_range hi] at h
  cases h
  exact ⟨rfl, hi⟩
theorem c_finer_by (T : Txt mg) (C_size : Cal P w K mg base 1 "size" ["deal"] R_size) (C_parts_two : Cal P w K mg base 2 "parts_two" ["one", "other", "s", "t"] R_parts_two) (h : Has K mg "finer_by" s_finer_by f fd) : Cal P w K mg base 3 "finer_by" ["one", "other"] R_finer_by := by
  refine CalS.mk' h (fn_D h.1 sc_finer_by (fun ds d ⟨n, A, B, _, _, e, _⟩ => by rw [e]; rfl) (fun cdv Ar outer s H E hr => ⟨_, (dss_cons (ds_for PassesOwn.never rfl (di_range1 rfl T.range (de_cal C_size hr (by decide) rfl (da_cons (de_var 0) da_nil))) (dg_name (i := 2) sc_finer_by.nd rfl (Or.inl rfl)) (dss_one (ds_for PassesOwn.never rfl (di_range2 rfl T.range (de_op op_add vop_I (de_var 2) de_int) (de_cal C_size hr (by decide) rfl (da_cons (de_var 0) da_nil))) (dg_name (i := 3) sc_finer_by.nd rfl (Or.inl rfl)) (dss_one (ds_if (dt_val (de_cal C_parts_two hr (by decide) rfl (da_cons (de_var 0) (da_cons (de_var 1) (da_cons (de_var 2) (da_cons (de_var 3) da_nil)))))) (dss_one (ds_ret (de_tup (da_cons (de_gstr rfl T.cAPART) (da_cons (de_var 2) (da_cons (de_var 3) da_nil)))))) dss_nil)))))
      (dss_one (ds_ret (de_tup (da_cons (de_gstr rfl T.cFINER) da_nil))))), fun ds r ⟨n, A, B, hA, hB, e1, hF⟩ => ?_⟩)) (fun _ _ _ _ _ _ us hl => match us, hl with | [_, _], _ => rfl)
  subst e1
  have n8 := hA.n8
  have lA := hA.len
  have lB := hB.len
  have szA : ∀ ρ : DEnv, ρ[0]? = some (some (eDeal A)) → rCall R_size (fun ρ ds => ∃ d es', ρ[0]? = some (some d) ∧ es' = [] ∧ ds = d :: es') ρ (.int n) := fun ρ e => ⟨_, ⟨_, _, e, rfl, rfl⟩, A, by omega, rfl, by rw [hA.flen]⟩
  refine ⟨rngD 0 n, fun i ρ => (∃ o o2, ρ = [some (eDeal A), some (eDeal B), o, o2]) ∧ ∀ s t, s < i → s < t → t < n → partsTwo A B s t = false, ⟨n, szA _ rfl, by omega, rfl⟩, ⟨⟨none, none, rfl⟩, fun s t h => absurd h (Nat.not_lt_zero _)⟩, ?_, ?_⟩
  · rintro i d ρ hd ⟨⟨o, o2, rfl⟩, hw⟩
    obtain ⟨rfl, hi⟩ := rngD_at hd
    refine ⟨_, rfl, rngD ((i + 1 : Nat) : Int) (n - (i + 1)), fun j ρ => (∃ o, ρ = [some (eDeal A), some (eDeal B), some (eN i), o]) ∧ ∀ t, i < t → t < i + 1 + j → t < n → partsTwo A B i t = false, ⟨i + 1, n, ⟨_, _, rfl, rfl, _, _, rfl, rfl, rfl⟩, szA _ rfl, by omega, by omega, rfl⟩, ⟨⟨_, rfl⟩, fun t h1 h2 => by omega⟩, ?_, ?_⟩
    · rintro j d ρ hd ⟨⟨o, rfl⟩, hw2⟩
      obtain ⟨rfl, hj⟩ := rngD_at2 hd
      refine ⟨_, rfl, partsTwo A B i (i + 1 + j), ⟨_, ⟨_, _, rfl, ⟨_, _, rfl, ⟨_, _, rfl, ⟨_, _, rfl, rfl, rfl⟩, rfl⟩, rfl⟩, rfl⟩, n, A, B, i, i + 1 + j, hA, hB, hi, by omega, rfl, rfl⟩, ?_⟩
      cases hp : partsTwo A B i (i + 1 + j) with
      | true =>
        refine iteT ⟨_, ⟨_, ⟨_, _, rfl, ⟨_, _, rfl, ⟨_, _, rfl, rfl, rfl⟩, rfl⟩, rfl⟩, by show 3 ≤ sizeLine; decide, rfl⟩, ?_⟩
        show dApart i (i + 1 + j) = r
        rcases hF with ⟨h1, _⟩ | ⟨s, t, h1, h2, h3, h4, e⟩
        · rw [h1 i (i + 1 + j) (by omega) (by omega)] at hp
          cases hp
        · have a1 : ¬ (s < i ∨ s = i ∧ t < i + 1 + j) := fun q => by
            rcases q with q | ⟨q, q2⟩
            · rw [hw s t q h1 h2] at h3
              cases h3
            · subst q
              rw [hw2 t h1 q2 h2] at h3
              cases h3
          have a2 : ¬ (i < s ∨ i = s ∧ i + 1 + j < t) := fun q => by
            rw [h4 i (i + 1 + j) (by omega) (by omega) q] at hp
            cases hp
          have e1 : s = i := by omega
          have e2 : t = i + 1 + j := by omega
          rw [e, e1, e2]
      | false =>
        refine iteF ⟨⟨_, rfl⟩, fun t h1 h2 h3 => ?_⟩
        by_cases q : t = i + 1 + j
        · rw [q]; exact hp
        · exact hw2 t h1 (by omega) h3
    · rintro ρ ⟨⟨o, rfl⟩, hw2⟩
      rw [rngD_len] at hw2
      refine ⟨⟨_, _, rfl⟩, fun s t h1 h2 h3 => ?_⟩
      by_cases q : s = i
      · subst q
        exact hw2 t h2 (by omega) h3
      · exact hw s t (by omega) h2 h3
  · rintro ρ ⟨⟨o, o2, rfl⟩, hw⟩
    rw [rngD_len] at hw
    refine ⟨_, ⟨_, ⟨_, _, rfl, rfl, rfl⟩, by show 1 ≤ sizeLine; decide, rfl⟩, ?_⟩
    show dFiner = r
    rcases hF with ⟨_, e⟩ | ⟨s, t, h1, h2, h3, h4, e⟩
    · exact e.symm
    · rw [hw s t (by omega) h1 h2] at h3
      cases h3
abbrev R_finer : List PyData → PyData → Prop := fun ds d => ∃ n A B, IsDeal n A ∧ IsDeal n B ∧ isClear A = true ∧ isClear B = true ∧ ds = [eDeal A, eDeal B] ∧ FinerD A B n d
abbrev N_finer : List Str := ["one", "other"]
theorem sc_finer : FnScope N_finer ["one", "other"] (defScope s_finer) := ⟨rfl, rfl, rfl, by decide +kernel, rfl, by decide +kernel, by decide +kernel⟩
theorem c_finer (T : Txt mg) (C_need_two : Cal P w K mg base 7 "need_two" ["one", "other"] R_need_two) (C_finer_by : Cal P w K mg base 3 "finer_by" ["one", "other"] R_finer_by) (h : Has K mg "finer" s_finer f fd) : Cal P w K mg base 8 "finer" ["one", "other"] R_finer := by
  refine CalS.mk' h (fn_D h.1 sc_finer (fun ds d ⟨n, A, B, _, _, _, _, e, _⟩ => by rw [e]; rfl) (fun cdv Ar outer s H E hr => ⟨_, (dss_cons (ds_expr (de_cal C_need_two hr (by decide) rfl (da_cons (de_var 0) (da_cons (de_var 1) da_nil))))
      (dss_one (ds_ret (de_cal C_finer_by hr (by decide) rfl (da_cons (de_var 0) (da_cons (de_var 1) da_nil)))))), fun ds r ⟨n, A, B, hA, hB, cA, cB, e1, hF⟩ => ?_⟩)) (fun _ _ _ _ _ _ us hl => match us, hl with | [_, _], _ => rfl)
  subst e1
  exact ⟨.none, ⟨_, ⟨_, _, rfl, ⟨_, _, rfl, rfl, rfl⟩, rfl⟩, n, A, B, hA, hB, cA, cB, rfl, rfl⟩, r, ⟨_, ⟨_, _, rfl, ⟨_, _, rfl, rfl, rfl⟩, rfl⟩, n, A, B, hA, hB, rfl, hF⟩, rfl⟩
abbrev R_must_join : List PyData → PyData → Prop := fun ds d => ∃ a b : List Nat, a.Pairwise (· < ·) ∧ b.Pairwise (· < ·) ∧ (∀ s ∈ a, s < 8) ∧ (∀ s ∈ b, s < 8) ∧ ds = [eLot a, eLot b] ∧ d = .bool (mustJoin a b)
abbrev N_must_join : List Str := ["one", "other", "seat"]
theorem sc_must_join : FnScope N_must_join ["one", "other"] (defScope s_must_join) := ⟨rfl, rfl, rfl, by decide +kernel, rfl, by decide +kernel, by decide +kernel⟩
theorem c_must_join (T : Txt mg) (C_do_cross : Cal P w K mg base 1 "do_cross" ["one", "other"] R_do_cross) (h : Has K mg "must_join" s_must_join f fd) : Cal P w K mg base 2 "must_join" ["one", "other"] R_must_join := by
  refine CalS.mk' h (fn_D h.1 sc_must_join (fun ds d ⟨a, b, _, _, _, _, e, _⟩ => by rw [e]; rfl) (fun cdv Ar outer s H E hr => ⟨_, (dss_one (ds_ret (de_or (de_cmp (op_neD hr.units) vop_ne (de_lc (own := [("seat", 2)]) rfl sc_must_join.nd (di_tup (de_var 0)) (blkOk_by (own := [("seat", 2)]) (N := N_must_join) (sc := defScope s_must_join) (by decide +kernel)) (fun _ _ _ _ _ => (dg_name (i := 2) sc_must_join.nd rfl (Or.inl rfl))) (fun _ _ _ _ _ => (dts_one (dt_cmp (op_inT hr.u65) vop_inT (de_var 2) (de_var 1) (by rfl)))) (fun _ _ _ _ _ => (de_var 2))) (de_lst da_nil) (nomark _)) (de_one (de_cal C_do_cross hr (by decide) rfl (da_cons (de_var 0) (da_cons (de_var 1) da_nil))))))), fun ds r ⟨a, b, pa, pb, la, lb, e1, e2⟩ => ?_⟩)) (fun _ _ _ _ _ _ us hl => match us, hl with | [_, _], _ => rfl)
  subst e1 e2
  have l8 := len8 (pw_nd pa) la
  have e0 : ∀ l : List Nat, PyData.eqv (.list (l.map eN)) (.list []) = decide (l = []) := fun l => by
    cases l with
    | nil => simp [PyData.eqv, PyData.eqvAll]
    | cons x l => simp [PyData.eqv, PyData.eqvAll]
  have e1 : (zs a).map PyData.int = a.map eN := by unfold zs; rw [List.map_map]; rfl
  have shl : ∀ l : List Nat, SeqAt.shaped (.list (l.map eN)) = true := fun l => by
    have q := sh_li (zs l)
    unfold zs at q
    rw [List.map_map] at q
    exact q
  refine ⟨_, ⟨!decide ((a.filter fun s => decide (s ∈ b)) = []), ⟨.list ((a.filter fun s => decide (s ∈ b)).map eN), .list [], ⟨a.map eN, _, by rw [← e1]; rfl, by rw [List.length_map]; omega, LcAll.of (f := eN) (h := eN) (p := fun s => decide (s ∈ b)) (as := a) (fun s hs => lcT_of rfl ⟨_, _, rfl, rfl, in_lot s b⟩ fun _ => rfl), rfl⟩, ⟨_, rfl, Nat.zero_le _, rfl⟩, shl _, by decide +kernel, ?_⟩, ?_⟩, rfl⟩
  · rw [e0]
  · unfold mustJoin
    cases hq : !decide ((a.filter fun s => decide (s ∈ b)) = []) with
    | true => exact iteT rfl
    | false =>
      have hn : (a.filter fun s => decide (s ∈ b)) = [] := by simpa using hq
      refine iteF ⟨_, ⟨_, _, rfl, ⟨_, _, rfl, rfl, rfl⟩, rfl⟩, a, b, ⟨pa, pb, fun s h1 h2 => ?_, la, lb⟩, rfl, rfl⟩
      have := List.filter_eq_nil_iff.mp hn s h1
      exact this (decide_eq_true h2)
end
end Rng
namespace Rng
open PySem PySem.Spec PyProof.Rows L2
theorem findJoin_none : ∀ {M : List (List Nat)}, (∀ a b M1 M2 M3, M = M1 ++ a :: M2 ++ b :: M3 → mustJoin a b = false) → findJoin M = none
  | [], _ => rfl
  | l :: r, h => by
    unfold findJoin
    rw [List.find?_eq_none.mpr fun k hk => by
      obtain ⟨s, t, e⟩ := List.append_of_mem hk
      rw [h l k [] s t (by rw [e]; rfl)]
      decide]
    exact findJoin_none fun a b M1 M2 M3 e => h a b (l :: M1) M2 M3 (by rw [e]; rfl)
/-- nothing found before row i, and in row i before column j -/
theorem findJoin_skip : ∀ {M : List (List Nat)} {i : Nat}, (∀ k < i, ∀ l, M[k]? = some l → ∀ x ∈ M.drop (k + 1), mustJoin l x = false) → findJoin M = findJoin (M.drop i)
  | M, 0, _ => rfl
  | [], i + 1, _ => rfl
  | l :: r, i + 1, h => by
    have e : findJoin (l :: r) = findJoin r := by
      conv => lhs; unfold findJoin
      rw [List.find?_eq_none.mpr fun k hk => by
        rw [h 0 (Nat.succ_pos _) l rfl k hk]
        decide]
    rw [e]
    exact findJoin_skip fun k hk l' hl x hx => h (k + 1) (by omega) l' hl x hx
theorem findJoin_here {l : List Nat} {r s t : List (List Nat)} {k : List Nat} (e : r = s ++ k :: t) (hk : mustJoin l k = true) (hs : ∀ x ∈ s, mustJoin l x = false) : findJoin (l :: r) = some (l, k) := by
  unfold findJoin
  rw [e, List.find?_append, List.find?_eq_none.mpr (fun x hx => by rw [hs x hx]; decide), List.find?_cons, hk]
  rfl
theorem eqv_any2 (l a b : List Nat) : ([eLot a, eLot b].any fun z => PyData.eqv z (eLot l)) = (decide (l = a) || decide (l = b)) := by
  rw [List.any_cons, List.any_cons, List.any_nil, eqv_lot, eqv_lot, Bool.or_false, decide_eq_decide.mpr (eq_comm (a := a) (b := l)), decide_eq_decide.mpr (eq_comm (a := b) (b := l))]
section
variable {P : Program} {w : World} {K : PySem.W.Frag} {mg : Str → Option Value} {base : Heap} {f : Addr} {fd : FuncData}
abbrev R_put (n : Nat) : List PyData → PyData → Prop := fun ds d => ∃ L, LotsOk L ∧ L.length ≤ n ∧ ds = [eLots L] ∧ d = eLots (putT n L)
abbrev N_put_together : List Str := ["lots", "at", "one", "other", "rest", "lot"]
theorem sc_put_together : FnScope N_put_together ["lots"] (defScope s_put_together) := ⟨rfl, rfl, rfl, by decide +kernel, rfl, by decide +kernel, by decide +kernel⟩
theorem c_put_bot (h : Has K mg "put_together" s_put_together f fd) : Cal P w K mg base 1 "put_together" ["lots"] (fun _ _ => False) :=
  CalS.mk' h (fn_D h.1 sc_put_together (fun ds d h => h.elim) (fun cdv Ar outer s H E hr => ⟨_, dss_never, fun ds d h => h.elim⟩)) (fun _ _ _ _ _ _ us hl => match us, hl with | [_], _ => rfl)
theorem c_put_step (T : Txt mg) {n j : Nat} (n16 : n ≤ 16) (hj : j ≤ n + 2) {Rr : List PyData → PyData → Prop} (hR : ∀ L m, n = m + 1 → LotsOk L → L.length ≤ m → Rr [eLots L] (eLots (putT m L))) (C_must_join : Cal P w K mg base 2 "must_join" ["one", "other"] R_must_join) (C_put_together : Cal P w K mg base j "put_together" ["lots"] Rr)
    (h : Has K mg "put_together" s_put_together f fd) : Cal P w K mg base (n + 3) "put_together" ["lots"] (R_put n) := by
  refine CalS.mk' h (fn_D h.1 sc_put_together (fun ds d ⟨L, _, _, e, _⟩ => by rw [e]; rfl) (fun cdv Ar outer s H E hr => ⟨_, (dss_cons (ds_setLc (i := 0) (own := [("lot", 5)]) rfl sc_put_together.nd rfl rfl (sw_true rfl rfl rfl (by decide +kernel)) (di_list (de_var 0)) (blkOk_by (own := [("lot", 5)]) (N := N_put_together) (sc := defScope s_put_together) (by decide +kernel)) (fun _ _ _ _ _ => (dg_name (i := 5) sc_put_together.nd rfl (Or.inl rfl))) (fun _ _ _ _ _ => dts_nil) (fun _ _ _ _ _ => (de_callTy call_tuple_of vc_tuple rfl T.tuple (by decide +kernel) (da_cons (de_sortSet rfl rfl T.sorted rfl T.set (de_var 5)) da_nil))))
      (dss_cons (ds_for PassesOwn.never rfl (di_enumL rfl T.enumerate (de_var 0)) (dg_two (i := 1) (j := 2) rfl sc_put_together.nd rfl rfl (Or.inl rfl) (Or.inr rfl)) (dss_one (ds_for PassesOwn.never rfl (di_list (de_slL (de_var 0) (do_some (de_op op_add vop_I (de_var 1) de_int)) do_none)) (dg_name (i := 3) sc_put_together.nd rfl (Or.inr rfl)) (dss_one (ds_if (dt_val (de_cal C_must_join hr (by omega) rfl (da_cons (de_var 2) (da_cons (de_var 3) da_nil)))) (dss_cons (ds_setLc (i := 4) (own := [("lot", 5)]) rfl sc_put_together.nd rfl rfl (sw_true rfl rfl rfl (by decide +kernel)) (di_list (de_var 0)) (blkOk_by (own := [("lot", 5)]) (N := N_put_together) (sc := defScope s_put_together) (by decide +kernel)) (fun _ _ _ _ _ => (dg_name (i := 5) sc_put_together.nd rfl (Or.inl rfl))) (fun _ _ _ _ _ => (dts_one (dt_cmp (op_notInT hr.u65) vop_notInT (de_var 5) (de_tup (da_cons (de_var 2) (da_cons (de_var 3) da_nil))) (by rfl)))) (fun _ _ _ _ _ => (de_var 5)))
      (dss_one (ds_ret (de_cal C_put_together hr (by omega) rfl (da_cons (de_op op_cat vop_catL (de_var 4) (de_lst (da_cons (de_op op_catA vop_catT (de_var 2) (de_var 3)) da_nil))) da_nil))))) dss_nil)))))
      (dss_one (ds_ret (de_var 0))))), fun ds d ⟨L, ok, hL, e1, e2⟩ => ?_⟩)) (fun _ _ _ _ _ _ us hl => match us, hl with | [_], _ => rfl)
  subst e1 e2
  have okM := ok.sset
  have hMl : (L.map sset).length ≤ n := by rw [List.length_map]; exact hL
  have sM : ∀ l ∈ L.map sset, l.Pairwise (· < ·) ∧ (∀ s ∈ l, s < 8) ∧ l.length ≤ 8 := fun l hl => by
    obtain ⟨k, _, rfl⟩ := List.mem_map.mp hl
    exact ⟨sset_pw k, fun s hs => (sset_lt hs).1, sset_len k⟩
  have hput : ∀ m, n = m + 1 → ∀ p, findJoin (L.map sset) = some p → putT n L = putT m (joined (L.map sset) p.1 p.2) := fun m e p hp => by
    subst e
    show (match findJoin (L.map sset) with | some p => putT m (joined (L.map sset) p.1 p.2) | none => L.map sset) = _
    rw [hp]
  have hput0 : findJoin (L.map sset) = none → putT n L = L.map sset := fun e => by
    cases n with
    | zero => rfl
    | succ m =>
      show (match findJoin (L.map sset) with | some p => putT m (joined (L.map sset) p.1 p.2) | none => L.map sset) = _
      rw [e]
  refine ⟨eLots (L.map sset), ⟨L.map eLot, _, rfl, by rw [List.length_map]; omega, LcAll.ofMap (f := eLot) (h := fun l => eLot (sset l)) (as := L) (fun l hl => lcT_1 rfl ⟨_, ⟨_, _, ⟨zs l, zs (sset l), rfl, by rw [zs_len]; have := ok.le l hl; omega, zs_pw (sset_pw l), fun k => ?_, rfl⟩, rfl, rfl⟩, _, .inl rfl, rfl⟩), congrArg PyData.list List.map_map⟩, ?_⟩
  · rw [zs_mem, zs_mem]
    exact ⟨fun ⟨m, h1, h2⟩ => ⟨m, (sset_mem (ok.l8 l hl) m).mp h1, h2⟩, fun ⟨m, h1, h2⟩ => ⟨m, (sset_mem (ok.l8 l hl) m).mpr h1, h2⟩⟩
  generalize hM : L.map sset = M at okM hMl sM hput hput0 ⊢
  refine ⟨enumD (M.map eLot), fun i ρ => (∃ o1 o2 o3, ρ = [some (eLots M), o1, o2, o3, none, none]) ∧ ∀ k < i, ∀ l, M[k]? = some l → ∀ x ∈ M.drop (k + 1), mustJoin l x = false, ⟨_, rfl, rfl⟩, ⟨⟨none, none, none, rfl⟩, fun k hk => absurd hk (Nat.not_lt_zero _)⟩, ?_, ?_⟩
  · rintro i d ρ hd ⟨⟨o1, o2, o3, rfl⟩, hw⟩
    obtain ⟨d', hd', rfl⟩ := enumD_at hd
    rw [List.getElem?_map] at hd'
    cases hx : M[i]? with
    | none => rw [hx] at hd'; cases hd'
    | some l =>
      rw [hx] at hd'
      have e : eLot l = d' := Option.some.inj hd'
      subst e
      obtain ⟨hi, hx2⟩ := List.getElem?_eq_some_iff.mp hx
      have ed : M.drop i = l :: M.drop (i + 1) := by rw [List.drop_eq_getElem_cons hi, hx2]
      have hlm : l ∈ M := List.mem_of_getElem? hx
      refine ⟨_, ⟨_, _, rfl, rfl⟩, (M.drop (i + 1)).map eLot, fun j ρ => (∃ o3, ρ = [some (eLots M), some (eN i), some (eLot l), o3, none, none]) ∧ ∀ x ∈ (M.drop (i + 1)).take j, mustJoin l x = false, ⟨_, _, _, rfl, ⟨_, ⟨_, _, rfl, rfl, _, _, rfl, rfl, rfl⟩, rfl⟩, rfl, _, rfl, ?_⟩, ⟨⟨_, rfl⟩, fun x hx => by cases hx⟩, ?_, ?_⟩
      · have q := cut_from (ds := M.map eLot) (i + 1)
        rw [List.map_drop]
        exact congrArg PyData.list q.symm
      · rintro j d ρ hd ⟨⟨o3, rfl⟩, hw2⟩
        rw [List.getElem?_map] at hd
        cases hy : (M.drop (i + 1))[j]? with
        | none => rw [hy] at hd; cases hd
        | some k =>
          rw [hy] at hd
          have e : eLot k = d := Option.some.inj hd
          subst e
          obtain ⟨hj, hy2⟩ := List.getElem?_eq_some_iff.mp hy
          have hkm : k ∈ M := List.mem_of_mem_drop (List.mem_of_getElem? hy)
          refine ⟨_, rfl, mustJoin l k, ⟨_, ⟨_, _, rfl, ⟨_, _, rfl, rfl, rfl⟩, rfl⟩, l, k, (sM l hlm).1, (sM k hkm).1, (sM l hlm).2.1, (sM k hkm).2.1, rfl, rfl⟩, ?_⟩
          cases hq : mustJoin l k with
          | false =>
            refine iteF ⟨⟨_, rfl⟩, fun x hx => ?_⟩
            rw [List.take_add_one, hy] at hx
            rcases List.mem_append.mp hx with h | h
            · exact hw2 x h
            · have e : x = k := by simpa using h
              rw [e]
              exact hq
          | true =>
            have e3 : M.drop (i + 1) = (M.drop (i + 1)).take j ++ k :: (M.drop (i + 1)).drop (j + 1) := by
              have q := List.take_append_drop j (M.drop (i + 1))
              rw [List.drop_eq_getElem_cons hj, hy2] at q
              exact q.symm
            have hf : findJoin M = some (l, k) := by
              rw [findJoin_skip hw, ed]
              exact findJoin_here e3 hq hw2
            have e4 : M = M.take i ++ l :: (M.drop (i + 1)).take j ++ k :: (M.drop (i + 1)).drop (j + 1) := by
              rw [List.append_assoc, List.cons_append, ← e3, ← ed, List.take_append_drop]
            have hjl := joined_len e4
            have hlk : l.length ≤ 8 := (sM l hlm).2.2
            have hkk : k.length ≤ 8 := (sM k hkm).2.2
            have hm : n = (n - 1) + 1 := by omega
            refine iteT ⟨eLots (M.filter fun x => !(decide (x = l) || decide (x = k))), ⟨M.map eLot, _, rfl, by rw [List.length_map]; omega, LcAll.of (f := eLot) (h := eLot) (as := M) (fun x hx => lcT_of rfl ⟨_, .tuple [eLot l, eLot k], rfl, ⟨_, ⟨_, _, rfl, ⟨_, _, rfl, rfl, rfl⟩, rfl⟩, by show 2 ≤ sizeLine; decide, rfl⟩, _, rfl, sh_lot x, sh_deal [l, k], congrArg (fun b => PyData.bool (!b)) (eqv_any2 x l k).symm⟩ fun _ => rfl), rfl⟩, ?_⟩
            refine ⟨eLots (putT (n - 1) (joined M l k)), ⟨_, ⟨_, _, ⟨_, _, rfl, ⟨_, ⟨_, _, ⟨_, _, rfl, rfl, _, _, rfl, rfl, by rw [List.length_map, List.length_map, zs_len, zs_len]; omega, rfl⟩, rfl, rfl⟩, by show 1 ≤ sizeLine; decide, rfl⟩, _, _, rfl, rfl, ?_, rfl⟩, rfl, rfl⟩, ?_⟩, ?_⟩
            · rw [List.length_map, List.length_singleton]
              have := List.length_filter_le (fun x => !(decide (x = l) || decide (x = k))) M
              omega
            · have q := hR (joined M l k) (n - 1) hm (joined_ok okM hlm hkm hlk hkk) (by omega)
              have e : (joined M l k).map eLot = (M.filter fun x => !(decide (x = l) || decide (x = k))).map eLot ++ [.tuple ((zs l).map .int ++ (zs k).map .int)] := by
                unfold joined
                rw [List.map_append, List.map_singleton]
                unfold eLot tI
                rw [zs_append, List.map_append]
              unfold eLots at q ⊢
              rw [e] at q
              exact q
            · show eLots _ = eLots _
              rw [hput (n - 1) hm (l, k) hf]
      · rintro ρ ⟨⟨o3, rfl⟩, hw2⟩
        rw [List.length_map, List.take_length] at hw2
        refine ⟨⟨_, _, _, rfl⟩, fun k hk l' hl' x hx => ?_⟩
        by_cases q : k = i
        · rw [q] at hl' hx
          have e : l' = l := Option.some.inj (hl'.symm.trans ‹M[i]? = some l›)
          rw [e]
          exact hw2 x hx
        · exact hw k (by omega) l' hl' x hx
  · rintro ρ ⟨⟨o1, o2, o3, rfl⟩, hw⟩
    rw [enumD_len, List.length_map] at hw
    have hf : findJoin M = none := by
      rw [findJoin_skip hw, List.drop_length]
      rfl
    exact ⟨_, rfl, by rw [hput0 hf]⟩
theorem c_put (T : Txt mg) (C_must_join : Cal P w K mg base 2 "must_join" ["one", "other"] R_must_join) (h : Has K mg "put_together" s_put_together f fd) : ∀ n : Nat, n ≤ 16 → Cal P w K mg base (n + 3) "put_together" ["lots"] (R_put n)
  | 0, h0 => c_put_step T h0 (by omega) (fun L m e => by omega) C_must_join (c_put_bot h) h
  | n + 1, h0 => c_put_step T h0 (by omega) (fun L m e ok hl => by
      have e : m = n := by omega
      subst e
      exact ⟨L, ok, hl, rfl, rfl⟩) C_must_join (c_put T C_must_join h n (by omega)) h
end
end Rng
namespace Rng
open PySem PySem.Spec PyProof.Rows L2
theorem sset_ok {L : List (List Nat)} (h : LotsOk L) (hl : L.length ≤ 100) : LotsP (L.map sset) := ⟨h.sset.ne, fun l hl => by
    obtain ⟨k, _, rfl⟩ := List.mem_map.mp hl
    exact pw_nd (sset_pw k), h.sset.l8, by rw [List.length_map]; exact hl⟩
theorem join_mem {M M1 M2 M3 : List (List Nat)} {a b : List Nat} (e : M = M1 ++ a :: M2 ++ b :: M3) : a ∈ M ∧ b ∈ M := by rw [e]; simp
theorem putT_ok : ∀ (n : Nat) {L : List (List Nat)}, LotsOk L → L.length ≤ 100 → LotsP (putT n L)
  | 0, L, h, hl => sset_ok h hl
  | n + 1, L, h, hl => by
    show LotsP (match findJoin (L.map sset) with | some p => putT n (joined (L.map sset) p.1 p.2) | none => L.map sset)
    cases q : findJoin (L.map sset) with
    | none => exact sset_ok h hl
    | some p =>
      obtain ⟨a, b⟩ := p
      obtain ⟨M1, M2, M3, e, _⟩ := findJoin_mem q
      obtain ⟨ha, hb⟩ := join_mem e
      have hj := joined_len e
      rw [List.length_map] at hj
      have l8 : ∀ l ∈ L.map sset, l.length ≤ 8 := fun l hl => by
        obtain ⟨k, _, rfl⟩ := List.mem_map.mp hl
        exact sset_len k
      have hj2 : (joined (L.map sset) a b).length ≤ 100 := by omega
      exact putT_ok n (joined_ok h.sset ha hb (l8 a ha) (l8 b hb)) hj2
def clearedBy (L : List (List Nat)) : List (List Nat) := inOrder (putT 16 L)
def overL (A B : List (List Nat)) : List (List Nat) := A ++ B.filter fun l => !decide (l ∈ A)
theorem IsDeal.ok {n : Nat} {D : List (List Nat)} (h : IsDeal n D) : LotsOk D := ⟨fun l hl => (h.lot l hl).1, fun l hl s hs => by have := h.lt hl hs; have := h.n8; omega, fun l hl => by have := h.llen hl; have := h.n8; omega⟩
theorem overL_ok {n m : Nat} {A B : List (List Nat)} (hA : IsDeal n A) (hB : IsDeal m B) : LotsOk (overL A B) ∧ (overL A B).length ≤ 16 := by
  refine ⟨⟨fun l hl => ?_, fun l hl => ?_, fun l hl => ?_⟩, ?_⟩
  · rcases List.mem_append.mp hl with q | q
    · exact hA.ok.ne l q
    · exact hB.ok.ne l (List.mem_filter.mp q).1
  · rcases List.mem_append.mp hl with q | q
    · exact hA.ok.l8 l q
    · exact hB.ok.l8 l (List.mem_filter.mp q).1
  · rcases List.mem_append.mp hl with q | q
    · exact hA.ok.le l q
    · exact hB.ok.le l (List.mem_filter.mp q).1
  · unfold overL
    have h1 := hA.len
    have h2 := hB.len
    have h3 := hA.n8
    have h4 := hB.n8
    have := List.length_filter_le (fun l => !decide (l ∈ A)) B
    rw [List.length_append]
    omega
theorem notin_lots (l : List Nat) (D : List (List Nat)) : RNotInT (eLot l) (eDeal D) (.bool (!decide (l ∈ D))) := ⟨_, rfl, sh_lot l, sh_deal D, congrArg (fun b => PyData.bool (!b)) (any_lots l D).symm⟩
theorem notin_lotsL (l : List Nat) (D : List (List Nat)) : RNotInL (eLot l) (eLots D) (.bool (!decide (l ∈ D))) := ⟨_, rfl, sh_lot l, sh_lots D, congrArg (fun b => PyData.bool (!b)) (any_lots l D).symm⟩
/-! ### the law's own -/
def lawBoth (D : List (List Nat)) (a b : Nat) : List (List Nat) := D.filter fun l => decide (l.headD 0 = a) || decide (l.headD 0 = b)
def lawPutL (D : List (List Nat)) (a b : Nat) : List (List Nat) := (D.filter fun l => !decide (l ∈ lawBoth D a b)) ++ [(lawBoth D a b).headD [] ++ ((lawBoth D a b).drop 1).headD []]
def hasAll (A D : List (List Nat)) : Bool := D.all fun l => decide ((l.filter fun s => !decide (lotW A s = lotW A (l.headD 0))) = [])
theorem atI_lot0 {l : List Nat} (h : l ≠ []) : atI ((zs l).map PyData.int) 0 = some (eN (l.headD 0)) := by
  cases l with
  | nil => exact absurd rfl h
  | cons x l => exact atI_0 rfl
theorem atI_1 {α : Type} {xs : List α} {x y : α} {r : List α} (h : xs = x :: y :: r) : atI xs 1 = some y := by
  subst h
  unfold atI ixN
  rw [if_pos (by omega), if_pos (by rw [List.length_cons, List.length_cons]; omega)]
  rfl
theorem eqv_any2N (s a b : Nat) : ([eN a, eN b].any fun z => PyData.eqv z (eN s)) = (decide (s = a) || decide (s = b)) := by
  rw [List.any_cons, List.any_cons, List.any_nil, eqv_N, eqv_N, Bool.or_false, decide_eq_decide.mpr (eq_comm (a := a) (b := s)), decide_eq_decide.mpr (eq_comm (a := b) (b := s))]
theorem list_eq0 (l : List PyData) : PyData.eqv (.list l) (.list []) = decide (l = []) := by
  cases l with
  | nil => simp [PyData.eqv, PyData.eqvAll]
  | cons x l => simp [PyData.eqv, PyData.eqvAll]
theorem sh_nil : SeqAt.shaped (.list []) = true := by decide +kernel
theorem sh_lN (l : List Nat) : SeqAt.shaped (.list (l.map eN)) = true := by
  have q := sh_li (zs l)
  unfold zs at q
  rw [List.map_map] at q
  exact q
section
variable {P : Program} {w : World} {K : PySem.W.Frag} {mg : Str → Option Value} {base : Heap} {f : Addr} {fd : FuncData}
abbrev R_cleared_by : List PyData → PyData → Prop := fun ds d => ∃ L, LotsOk L ∧ L.length ≤ 16 ∧ ds = [eLots L] ∧ d = eDeal (clearedBy L)
abbrev N_cleared_by : List Str := ["lots"]
theorem sc_cleared_by : FnScope N_cleared_by ["lots"] (defScope s_cleared_by) := ⟨rfl, rfl, rfl, by decide +kernel, rfl, by decide +kernel, by decide +kernel⟩
theorem c_cleared_by (T : Txt mg) (C_in_order : Cal P w K mg base 1 "in_order" ["lots"] R_in_order) (C_put_together : Cal P w K mg base 19 "put_together" ["lots"] (R_put 16)) (h : Has K mg "cleared_by" s_cleared_by f fd) : Cal P w K mg base 20 "cleared_by" ["lots"] R_cleared_by := by
  refine CalS.mk' h (fn_D h.1 sc_cleared_by (fun ds d ⟨L, _, _, e, _⟩ => by rw [e]; rfl) (fun cdv Ar outer s H E hr => ⟨_, (dss_one (ds_ret (de_cal C_in_order hr (by decide) rfl (da_cons (de_cal C_put_together hr (by decide) rfl (da_cons (de_var 0) da_nil)) da_nil)))), fun ds r ⟨L, ok, hl, e1, e2⟩ => ?_⟩)) (fun _ _ _ _ _ _ us hl => match us, hl with | [_], _ => rfl)
  subst e1 e2
  exact ⟨_, ⟨_, ⟨_, _, ⟨_, ⟨_, _, rfl, rfl, rfl⟩, L, ok, hl, rfl, rfl⟩, rfl, rfl⟩, putT 16 L, putT_ok 16 ok (by omega), rfl, rfl⟩, rfl⟩
abbrev R_over : List PyData → PyData → Prop := fun ds d => ∃ n A B, IsDeal n A ∧ IsDeal n B ∧ isClear A = true ∧ isClear B = true ∧ ds = [eDeal A, eDeal B] ∧ d = eDeal (clearedBy (overL A B))
abbrev N_over : List Str := ["one", "other", "lot"]
theorem sc_over : FnScope N_over ["one", "other"] (defScope s_over) := ⟨rfl, rfl, rfl, by decide +kernel, rfl, by decide +kernel, by decide +kernel⟩
theorem c_over (T : Txt mg) (C_need_two : Cal P w K mg base 7 "need_two" ["one", "other"] R_need_two) (C_cleared_by : Cal P w K mg base 20 "cleared_by" ["lots"] R_cleared_by) (h : Has K mg "over" s_over f fd) : Cal P w K mg base 21 "over" ["one", "other"] R_over := by
  refine CalS.mk' h (fn_D h.1 sc_over (fun ds d ⟨n, A, B, _, _, _, _, e, _⟩ => by rw [e]; rfl) (fun cdv Ar outer s H E hr => ⟨_, (dss_cons (ds_expr (de_cal C_need_two hr (by decide) rfl (da_cons (de_var 0) (da_cons (de_var 1) da_nil))))
      (dss_one (ds_ret (de_cal C_cleared_by hr (by decide) rfl (da_cons (de_op op_cat vop_catL (de_callTy call_list_of vc_list rfl T.list (by decide +kernel) (da_cons (de_var 0) da_nil)) (de_lc (own := [("lot", 2)]) rfl sc_over.nd (di_tup (de_var 1)) (blkOk_by (own := [("lot", 2)]) (N := N_over) (sc := defScope s_over) (by decide +kernel)) (fun _ _ _ _ _ => (dg_name (i := 2) sc_over.nd rfl (Or.inl rfl))) (fun _ _ _ _ _ => (dts_one (dt_cmp (op_notInT hr.u65) vop_notInT (de_var 2) (de_var 0) (by rfl)))) (fun _ _ _ _ _ => (de_var 2)))) da_nil))))), fun ds r ⟨n, A, B, hA, hB, cA, cB, e1, e2⟩ => ?_⟩)) (fun _ _ _ _ _ _ us hl => match us, hl with | [_, _], _ => rfl)
  subst e1 e2
  obtain ⟨h1, h2⟩ := overL_ok hA hB
  have h3 := hB.len
  have h4 := hB.n8
  have h5 := hA.len
  refine ⟨.none, ⟨_, ⟨_, _, rfl, ⟨_, _, rfl, rfl, rfl⟩, rfl⟩, n, A, B, hA, hB, cA, cB, rfl, rfl⟩, _, ⟨_, ⟨_, _, ⟨_, _, ⟨_, ⟨_, _, rfl, rfl, rfl⟩, _, .inr rfl, rfl⟩, ⟨B.map eLot, _, rfl, by rw [List.length_map]; omega, LcAll.of (f := eLot) (h := eLot) (p := fun l => !decide (l ∈ A)) (as := B) (fun l hl => lcT_of rfl ⟨_, _, rfl, rfl, notin_lots l A⟩ fun _ => rfl), rfl⟩, _, _, rfl, rfl, ?_, rfl⟩, rfl, rfl⟩, overL A B, h1, h2, ?_, rfl⟩, rfl⟩
  · rw [List.length_map, List.length_map]
    have := List.length_filter_le (fun l => !decide (l ∈ A)) B
    omega
  · show _ = [PyData.list ((overL A B).map eLot)]
    unfold overL
    rw [List.map_append]
abbrev R_cleared : List PyData → PyData → Prop := fun ds d => ∃ n D, IsDeal n D ∧ ds = [eDeal D] ∧ d = eDeal (clearedBy D)
abbrev N_cleared : List Str := ["deal"]
theorem sc_cleared : FnScope N_cleared ["deal"] (defScope s_cleared) := ⟨rfl, rfl, rfl, by decide +kernel, rfl, by decide +kernel, by decide +kernel⟩
theorem c_cleared (T : Txt mg) (C_need_deal : Cal P w K mg base 5 "need_deal" ["thing"] R_need_deal) (C_cleared_by : Cal P w K mg base 20 "cleared_by" ["lots"] R_cleared_by) (h : Has K mg "cleared" s_cleared f fd) : Cal P w K mg base 21 "cleared" ["deal"] R_cleared := by
  refine CalS.mk' h (fn_D h.1 sc_cleared (fun ds d ⟨n, D, _, e, _⟩ => by rw [e]; rfl) (fun cdv Ar outer s H E hr => ⟨_, (dss_cons (ds_expr (de_cal C_need_deal hr (by decide) rfl (da_cons (de_var 0) da_nil)))
      (dss_one (ds_ret (de_cal C_cleared_by hr (by decide) rfl (da_cons (de_callTy call_list_of vc_list rfl T.list (by decide +kernel) (da_cons (de_var 0) da_nil)) da_nil))))), fun ds r ⟨n, D, hD, e1, e2⟩ => ?_⟩)) (fun _ _ _ _ _ _ us hl => match us, hl with | [_], _ => rfl)
  subst e1 e2
  have h1 := hD.len
  have h2 := hD.n8
  exact ⟨.none, ⟨_, ⟨_, _, rfl, rfl, rfl⟩, n, D, hD, rfl, rfl⟩, _, ⟨_, ⟨_, _, ⟨_, ⟨_, _, rfl, rfl, rfl⟩, _, .inr rfl, rfl⟩, rfl, rfl⟩, D, hD.ok, by omega, rfl, rfl⟩, rfl⟩
abbrev R_law_in_order : List PyData → PyData → Prop := R_in_order
abbrev N_law_in_order : List Str := ["_law_lots", "_law_lot"]
theorem sc_law_in_order : FnScope N_law_in_order ["_law_lots"] (defScope s_law_in_order) := ⟨rfl, rfl, rfl, by decide +kernel, rfl, by decide +kernel, by decide +kernel⟩
theorem c_law_in_order (T : Txt mg) (h : Has K mg "_law_in_order" s_law_in_order f fd) : Cal P w K mg base 1 "_law_in_order" ["_law_lots"] R_law_in_order := by
  refine CalS.mk' h (fn_D h.1 sc_law_in_order (fun ds d ⟨L, _, e, _⟩ => by rw [e]; rfl) (fun cdv A outer s H E hr => ⟨_, (dss_one (ds_ret (de_callTy call_tuple_of vc_tuple rfl T.tuple (by decide +kernel) (da_cons (de_callB cr_sortLx vc_sortLx rfl T.sorted (by decide +kernel) (da_cons (de_lc (own := [("_law_lot", 1)]) rfl sc_law_in_order.nd (di_list (de_var 0)) (blkOk_by (own := [("_law_lot", 1)]) (N := N_law_in_order) (sc := defScope s_law_in_order) (by decide +kernel)) (fun _ _ _ _ _ => (dg_name (i := 1) sc_law_in_order.nd rfl (Or.inl rfl))) (fun _ _ _ _ _ => dts_nil) (fun _ _ _ _ _ => (de_callTy call_tuple_of vc_tuple rfl T.tuple (by decide +kernel) (da_cons (de_callB cr_sortIT vc_sortI rfl T.sorted (by decide +kernel) (da_cons (de_var 1) da_nil)) da_nil)))) da_nil)) da_nil)))), fun ds d ⟨L, hL, e1, e2⟩ => ?_⟩)) (fun _ _ _ _ _ _ us hl => match us, hl with | [_], _ => rfl)
  subst e1 e2
  have hl := hL.le
  exact ⟨_, ⟨_, ⟨_, _, ⟨_, ⟨_, _, ⟨_, _, rfl, by rw [List.length_map]; omega, in_order_D hL (fun l hl => ⟨_, rfl, _, ⟨_, _, ⟨_, ⟨_, _, rfl, rfl, rfl⟩, rsort_lot (hL.nd l hl) (hL.l8 l hl)⟩, rfl, rfl⟩, _, .inl rfl, rfl⟩), rfl⟩, rfl, rfl⟩, rsort_lx hL.ne'⟩, rfl, rfl⟩, _, .inl rfl, rfl⟩, rfl⟩
abbrev R_law_put : List PyData → PyData → Prop := fun ds d => ∃ n D a b x y r, IsDeal n D ∧ lawBoth D a b = x :: y :: r ∧ LotsP (lawPutL D a b) ∧ ds = [eDeal D, eN a, eN b] ∧ d = eDeal (inOrder (lawPutL D a b))
abbrev N_law_put : List Str := ["_law_parting_here", "_law_a", "_law_b", "_law_both", "_law_lot"]
theorem sc_law_put : FnScope N_law_put ["_law_parting_here", "_law_a", "_law_b"] (defScope s_law_put) := ⟨rfl, rfl, rfl, by decide +kernel, rfl, by decide +kernel, by decide +kernel⟩
theorem c_law_put (T : Txt mg) (C_law_in_order : Cal P w K mg base 1 "_law_in_order" ["_law_lots"] R_law_in_order) (h : Has K mg "_law_put" s_law_put f fd) : Cal P w K mg base 2 "_law_put" ["_law_parting_here", "_law_a", "_law_b"] R_law_put := by
  refine CalS.mk' h (fn_D h.1 sc_law_put (fun ds d ⟨n, D, a, b, x, y, r, _, _, _, e, _⟩ => by rw [e]; rfl) (fun cdv Ar outer s H E hr => ⟨_, (dss_cons (ds_set (i := 3) sc_law_put.nd rfl (Or.inr rfl) (de_lc (own := [("_law_lot", 4)]) rfl sc_law_put.nd (di_tup (de_var 0)) (blkOk_by (own := [("_law_lot", 4)]) (N := N_law_put) (sc := defScope s_law_put) (by decide +kernel)) (fun _ _ _ _ _ => (dg_name (i := 4) sc_law_put.nd rfl (Or.inl rfl))) (fun _ _ _ _ _ => (dts_one (dt_cmp (op_inT hr.u65) vop_inT (de_ixT (de_var 4) de_int (fun _ _ => rfl)) (de_tup (da_cons (de_var 1) (da_cons (de_var 2) da_nil))) (by rfl)))) (fun _ _ _ _ _ => (de_var 4))))
      (dss_one (ds_ret (de_cal C_law_in_order hr (by decide) rfl (da_cons (de_op op_cat vop_catL (de_lc (own := [("_law_lot", 4)]) rfl sc_law_put.nd (di_tup (de_var 0)) (blkOk_by (own := [("_law_lot", 4)]) (N := N_law_put) (sc := defScope s_law_put) (by decide +kernel)) (fun _ _ _ _ _ => (dg_name (i := 4) sc_law_put.nd rfl (Or.inl rfl))) (fun _ _ _ _ _ => (dts_one (dt_cmp (op_notInD hr.u65) vop_notInL (de_var 4) (de_var 3) (by rfl)))) (fun _ _ _ _ _ => (de_var 4))) (de_lst (da_cons (de_op op_catA vop_catT (de_ixL (de_var 3) de_int (fun _ _ => rfl)) (de_ixL (de_var 3) de_int (fun _ _ => rfl))) da_nil))) da_nil))))), fun ds d ⟨n, D, a, b, x, y, r, hD, hxy, hP, e1, e2⟩ => ?_⟩)) (fun _ _ _ _ _ _ us hl => match us, hl with | [_, _, _], _ => rfl)
  subst e1 e2
  have h1 := hD.len
  have h2 := hD.n8
  have hmem : ∀ z ∈ lawBoth D a b, z ∈ D := fun z hz => (List.mem_filter.mp hz).1
  have hx := hD.llen (hmem x (by rw [hxy]; simp))
  have hy := hD.llen (hmem y (by rw [hxy]; simp))
  refine ⟨eLots (lawBoth D a b), ⟨D.map eLot, _, rfl, by rw [List.length_map]; omega, LcAll.of (f := eLot) (h := eLot) (p := fun l => decide (l.headD 0 = a) || decide (l.headD 0 = b)) (as := D) (fun l hl => lcT_of rfl ⟨_, .tuple [eN a, eN b], ⟨_, _, rfl, rfl, _, _, rfl, rfl, atI_lot0 (hD.lot l hl).1⟩, ⟨_, ⟨_, _, rfl, ⟨_, _, rfl, rfl, rfl⟩, rfl⟩, by show 2 ≤ sizeLine; decide, rfl⟩, _, rfl, sh_int _, sh_lot [a, b], congrArg PyData.bool (eqv_any2N _ a b).symm⟩ fun _ => rfl), rfl⟩, ?_⟩
  refine ⟨_, ⟨_, ⟨_, _, ⟨_, _, ⟨D.map eLot, _, rfl, by rw [List.length_map]; omega, LcAll.of (f := eLot) (h := eLot) (p := fun l => !decide (l ∈ lawBoth D a b)) (as := D) (fun l hl => lcT_of rfl ⟨_, _, rfl, rfl, notin_lotsL l _⟩ fun _ => rfl), rfl⟩, ⟨_, ⟨_, _, ⟨eLot x, eLot y, ⟨_, _, rfl, rfl, _, _, rfl, rfl, ?_⟩, ⟨_, _, rfl, rfl, _, _, rfl, rfl, ?_⟩, _, _, rfl, rfl, by rw [List.length_map, List.length_map, zs_len, zs_len]; omega, rfl⟩, rfl, rfl⟩, by show 1 ≤ sizeLine; decide, rfl⟩, _, _, rfl, rfl, ?_, rfl⟩, rfl, rfl⟩, lawPutL D a b, hP, ?_, rfl⟩, rfl⟩
  · refine atI_0 ?_
    rw [List.head?_map, hxy]
    rfl
  · exact atI_1 (r := r.map eLot) (by rw [hxy]; rfl)
  · rw [List.length_map, List.length_singleton]
    have := List.length_filter_le (fun l => !decide (l ∈ lawBoth D a b)) D
    omega
  · show _ = [PyData.list ((lawPutL D a b).map eLot)]
    unfold lawPutL
    rw [List.map_append, hxy, List.map_singleton]
    show _ = [PyData.list (_ ++ [eLot (x ++ y)])]
    unfold eLot tI
    rw [zs_append, List.map_append]
abbrev R_law_has_all : List PyData → PyData → Prop := fun ds d => ∃ n A D, IsDeal n A ∧ IsDeal n D ∧ ds = [eDeal A, eDeal D] ∧ d = .bool (hasAll A D)
abbrev N_law_has_all : List Str := ["_law_parting_here", "_law_deal_here", "_law_lot", "_law_seat"]
theorem sc_law_has_all : FnScope N_law_has_all ["_law_parting_here", "_law_deal_here"] (defScope s_law_has_all) := ⟨rfl, rfl, rfl, by decide +kernel, rfl, by decide +kernel, by decide +kernel⟩
theorem c_law_has_all (T : Txt mg) (C_lot_of : Cal P w K mg base 6 "lot_of" ["deal", "seat"] R_lot_of) (h : Has K mg "_law_has_all" s_law_has_all f fd) : Cal P w K mg base 7 "_law_has_all" ["_law_parting_here", "_law_deal_here"] R_law_has_all := by
  refine CalS.mk' h (fn_D h.1 sc_law_has_all (fun ds d ⟨n, A, D, _, _, e, _⟩ => by rw [e]; rfl) (fun cdv Ar outer s H E hr => ⟨_, (dss_cons (ds_for PassesOwn.never rfl (di_tup (de_var 1)) (dg_name (i := 2) sc_law_has_all.nd rfl (Or.inr rfl)) (dss_one (ds_if (dt_cmp (op_neD hr.units) vop_ne (de_lc (own := [("_law_seat", 3)]) rfl sc_law_has_all.nd (di_tup (de_var 2)) (blkOk_by (own := [("_law_seat", 3)]) (N := N_law_has_all) (sc := defScope s_law_has_all) (by decide +kernel)) (fun _ _ _ _ _ => (dg_name (i := 3) sc_law_has_all.nd rfl (Or.inl rfl))) (fun _ _ _ _ _ => (dts_one (dt_cmp (op_neD hr.units) vop_ne (de_cal C_lot_of hr (by decide) rfl (da_cons (de_var 0) (da_cons (de_var 3) da_nil))) (de_cal C_lot_of hr (by decide) rfl (da_cons (de_var 0) (da_cons (de_ixT (de_var 2) de_int (fun _ _ => rfl)) da_nil))) (nomark _)))) (fun _ _ _ _ _ => (de_var 3))) (de_lst da_nil) (nomark _)) (dss_one (ds_ret de_bl)) dss_nil)))
      (dss_one (ds_ret de_bl))), fun ds d ⟨n, A, D, hA, hD, e1, e2⟩ => ?_⟩)) (fun _ _ _ _ _ _ us hl => match us, hl with | [_, _], _ => rfl)
  subst e1 e2
  have h1 := hD.len
  have h2 := hD.n8
  have key : ∀ i, i ≤ D.length → (hasAll A D = hasAll A (D.drop i) ∨ True) := fun _ _ => .inr trivial
  refine ⟨D.map eLot, fun i ρ => (∃ o, ρ = [some (eDeal A), some (eDeal D), o, none]) ∧ hasAll A D = hasAll A (D.drop i), rfl, ⟨⟨none, rfl⟩, rfl⟩, ?_, ?_⟩
  · rintro i d ρ hd ⟨⟨o, rfl⟩, hw⟩
    rw [List.getElem?_map] at hd
    cases hx : D[i]? with
    | none => rw [hx] at hd; cases hd
    | some l =>
      rw [hx] at hd
      have e : eLot l = d := Option.some.inj hd
      subst e
      obtain ⟨hi, hx2⟩ := List.getElem?_eq_some_iff.mp hx
      have ed : D.drop i = l :: D.drop (i + 1) := by rw [List.drop_eq_getElem_cons hi, hx2]
      have hlm : l ∈ D := List.mem_of_getElem? hx
      have hll := hD.llen hlm
      have hne := (hD.lot l hlm).1
      have h0 : l.headD 0 ∈ l := by
        cases l with
        | nil => exact absurd rfl hne
        | cons x l => exact List.mem_cons_self
      rw [ed] at hw
      have eN' : (zs l).map PyData.int = l.map eN := by unfold zs; rw [List.map_map]; rfl
      refine ⟨_, rfl, !decide ((l.filter fun s => !decide (lotW A s = lotW A (l.headD 0))) = []), ⟨.list ((l.filter fun s => !decide (lotW A s = lotW A (l.headD 0))).map eN), .list [], ⟨l.map eN, _, by rw [← eN']; rfl, by rw [List.length_map]; omega, LcAll.of (f := eN) (h := eN) (p := fun s => !decide (lotW A s = lotW A (l.headD 0))) (as := l) (fun s hs => lcT_of rfl ⟨_, _, ⟨_, ⟨_, _, rfl, ⟨_, _, rfl, rfl, rfl⟩, rfl⟩, n, A, s, hA, hD.lt hlm hs, rfl, rfl⟩, ⟨_, ⟨_, _, rfl, ⟨_, _, ⟨_, _, rfl, rfl, _, _, rfl, rfl, atI_lot0 hne⟩, rfl, rfl⟩, rfl⟩, n, A, l.headD 0, hA, hD.lt hlm h0, rfl, rfl⟩, ne_lot _ _⟩ fun _ => rfl), rfl⟩, ⟨_, rfl, Nat.zero_le _, rfl⟩, sh_lN _, sh_nil, ?_⟩, ?_⟩
      · rw [list_eq0]
        refine congrArg (fun b => PyData.bool (!b)) (decide_eq_decide.mpr ?_)
        rw [List.map_eq_nil_iff]
      · cases hq : decide ((l.filter fun s => !decide (lotW A s = lotW A (l.headD 0))) = []) with
        | true =>
          refine iteF ⟨⟨_, rfl⟩, ?_⟩
          rw [hw]
          unfold hasAll
          rw [List.all_cons, hq]
          rfl
        | false =>
          refine iteT ⟨_, rfl, ?_⟩
          rw [hw]
          unfold hasAll
          rw [List.all_cons, hq]
          rfl
  · rintro ρ ⟨⟨o, rfl⟩, hw⟩
    rw [List.length_map, List.drop_length] at hw
    exact ⟨_, rfl, by rw [hw]; rfl⟩
end
end Rng
/-! a layer over data with lists that this def owns, with pens, and with results that are one of several -/
namespace Rng
open PySem PySem.Spec PyProof.Rows L2
theorem set_self {α : Type} {l : List α} {i : Nat} {x : α} (h : l[i]? = some x) : l.set i x = l := by
  refine List.ext_getElem? fun j => ?_
  by_cases z : i = j
  · subst z
    rw [List.getElem?_set_self (List.getElem?_eq_some_iff.mp h).1, h]
  · rw [List.getElem?_set_ne z]
inductive Ent
  | no
  | own (ds : List PyData)
  | pen
abbrev Om := List Ent
def PenAt (H : Hp) (p : Addr) : Prop := ∃ x y z : Int, H p = some (.lst [.int x, .int y, .int z])
structure Frm where
  hot : Hot
  fix : Hp
  cs : Hp
  pp : Option Addr
def Cont (hot : Hot) (H : Hp) (a : Addr) : Ent → Prop
  | .no => True
  | .own ds => ∃ vs, H a = some (.lst vs) ∧ RpAll (cold hot H) ds vs
  | .pen => PenAt H a
theorem PenAt.mono {H H' : Hp} {p : Addr} (s : Same H H') (h : PenAt H p) : PenAt H' p := by
  obtain ⟨x, y, z, e⟩ := h
  exact ⟨x, y, z, s _ _ e⟩
theorem PenAt.ne {H : Hp} {p : Addr} (h : PenAt H p) : H p ≠ none := by
  obtain ⟨x, y, z, e⟩ := h
  rw [e]
  exact fun q => nomatch q
structure Gd (F : Frm) (hot : Hot) (κ : Nat → Addr) (σ : Sg) (H : Hp) (ρ : DEnv) (ω : Om) : Prop where
  al : Alc hot H
  rs : Rs (cold hot H) σ ρ
  lo : ω.length = ρ.length
  pl : ∀ i e, ω[i]? = some e → e ≠ .no → σ[i]? = some (some (.ref (κ i))) ∧ hot (κ i) = true ∧ F.fix (κ i) = none ∧ Cont hot H (κ i) e
  ow : ∀ i ds, ω[i]? = some (.own ds) → F.hot (κ i) = false
  inj : ∀ i j e e', ω[i]? = some e → ω[j]? = some e' → e ≠ .no → e' ≠ .no → i ≠ j → κ i ≠ κ j
  sub : ∀ a, F.hot a = true → hot a = true
  fx : Same F.fix H
  cs : Same F.cs (cold hot H)
  pp : ∀ p, F.pp = some p → PenAt H p ∧ F.hot p = true ∧ F.fix p = none
theorem Cont.mono {hot : Hot} {H H' : Hp} (s : Same H H') {a : Addr} : ∀ {e : Ent}, Cont hot H a e → Cont hot H' a e
  | .no, _ => trivial
  | .own ds, ⟨vs, h1, h2⟩ => ⟨vs, s _ _ h1, RpAll.mono (cold_mono s) _ _ h2⟩
  | .pen, h => PenAt.mono s h
section
variable {F : Frm} {hot : Hot} {κ : Nat → Addr} {σ : Sg} {H H' : Hp} {ρ : DEnv} {ω : Om}
theorem Gd.mono (g : Gd F hot κ σ H ρ ω) (s : Same H H') : Gd F hot κ σ H' ρ ω where
  al := g.al.mono s
  rs := g.rs.mono (cold_mono s)
  lo := g.lo
  pl := fun i e h n => by
    obtain ⟨a, b, c, d⟩ := g.pl i e h n
    exact ⟨a, b, c, d.mono s⟩
  ow := g.ow
  inj := g.inj
  sub := g.sub
  fx := g.fx.trans s
  cs := g.cs.trans (cold_mono s)
  pp := fun p h => by
    obtain ⟨a, b, c⟩ := g.pp p h
    exact ⟨a.mono s, b, c⟩
/-- a pen of ours was used -/
theorem Gd.pen (g : Gd F hot κ σ H ρ ω) {i : Nat} (hi : ω[i]? = some .pen) (s : ∀ b u, b ≠ κ i → H b = some u → H' b = some u) (hp : PenAt H' (κ i)) : Gd F hot κ σ H' ρ ω ∧ Same (cold hot H) (cold hot H') := by
  obtain ⟨h1, h2, h3, h4⟩ := g.pl i _ hi (by simp)
  have sc : Same (cold hot H) (cold hot H') := fun b u e => by
    cases q : hot b with
    | true => unfold cold at e; rw [if_pos q] at e; cases e
    | false =>
      rw [cold_at q] at e ⊢
      exact s b u (fun z => by rw [z, h2] at q; cases q) e
  refine ⟨⟨fun a ha => ?_, g.rs.mono sc, g.lo, fun j e hj hn => ?_, g.ow, g.inj, g.sub, fun b u e => ?_, g.cs.trans sc, fun p h => ?_⟩, sc⟩
  · by_cases e : a = κ i
    · rw [e]; exact hp.ne
    · have := g.al a ha
      cases q : H a with
      | none => exact absurd q this
      | some u => rw [s a u e q]; exact fun z => nomatch z
  · obtain ⟨a1, a2, a3, a4⟩ := g.pl j e hj hn
    refine ⟨a1, a2, a3, ?_⟩
    by_cases z : i = j
    · subst z
      rw [hi] at hj
      cases hj
      exact hp
    · have hne := g.inj i j _ _ hi hj (by simp) hn z
      cases e with
      | no => trivial
      | own ds =>
        obtain ⟨vs, b1, b2⟩ := a4
        exact ⟨vs, s _ _ (Ne.symm hne) b1, RpAll.mono sc _ _ b2⟩
      | pen =>
        obtain ⟨x, y, z, e⟩ := a4
        exact ⟨x, y, z, s _ _ (Ne.symm hne) e⟩
  · refine s b u (fun z => ?_) (g.fx _ _ e)
    rw [z, h3] at e
    cases e
  · obtain ⟨a, b, c⟩ := g.pp p h
    refine ⟨?_, b, c⟩
    by_cases z : p = κ i
    · rw [z]; exact hp
    · obtain ⟨x, y, z', e⟩ := a
      exact ⟨x, y, z', s _ _ z e⟩
theorem cold_hotupd {a : Addr} {o : HO} (h : hot a = true) : cold hot (upd H a o) = cold hot H := by
  funext b
  unfold cold
  by_cases hb : hot b = true
  · rw [if_pos hb, if_pos hb]
  · rw [if_neg hb, if_neg hb, upd_ne]
    intro e
    rw [e] at hb
    exact hb h
/-- a list of ours was written -/
theorem Gd.write (g : Gd F hot κ σ H ρ ω) {i : Nat} {ds ds' : List PyData} {vs' : List V} (hi : ω[i]? = some (.own ds)) (hv : RpAll (cold hot H) ds' vs') :
    Gd F hot κ σ (upd H (κ i) (.lst vs')) ρ (ω.set i (.own ds')) ∧ cold hot (upd H (κ i) (.lst vs')) = cold hot H := by
  obtain ⟨h1, h2, h3, h4⟩ := g.pl i _ hi (by simp)
  have sc := cold_hotupd (H := H) (o := .lst vs') h2
  have hil : i < ω.length := (List.getElem?_eq_some_iff.mp hi).1
  have nd : ∀ (j : Nat) (e : Ent), (ω.set i (.own ds'))[j]? = some e → e ≠ .no → ∃ e' : Ent, ω[j]? = some e' ∧ e' ≠ .no := fun j e hj hn => by
    by_cases z : i = j
    · subst z
      exact ⟨_, hi, by simp⟩
    · rw [List.getElem?_set_ne z] at hj
      exact ⟨e, hj, hn⟩
  refine ⟨⟨fun a ha => ?_, by rw [sc]; exact g.rs, by rw [List.length_set]; exact g.lo, fun j e hj hn => ?_, fun j es hj => ?_, fun j k e e' hj hk n1 n2 hjk => ?_, g.sub, fun b u e => ?_, by rw [sc]; exact g.cs, fun p h => ?_⟩, sc⟩
  · by_cases e : a = κ i
    · rw [e, upd_same]; exact fun z => nomatch z
    · rw [upd_ne e]; exact g.al a ha
  · by_cases z : i = j
    · subst z
      rw [List.getElem?_set_self hil] at hj
      cases hj
      exact ⟨h1, h2, h3, vs', upd_same, by rw [sc]; exact hv⟩
    · rw [List.getElem?_set_ne z] at hj
      obtain ⟨a1, a2, a3, a4⟩ := g.pl j e hj hn
      have hne := g.inj i j _ _ hi hj (by simp) hn z
      refine ⟨a1, a2, a3, ?_⟩
      cases e with
      | no => trivial
      | own es =>
        obtain ⟨vs, b1, b2⟩ := a4
        exact ⟨vs, by rw [upd_ne (Ne.symm hne)]; exact b1, by rw [sc]; exact b2⟩
      | pen =>
        obtain ⟨x, y, z, e⟩ := a4
        exact ⟨x, y, z, by rw [upd_ne (Ne.symm hne)]; exact e⟩
  · by_cases z : i = j
    · subst z
      exact g.ow i _ hi
    · rw [List.getElem?_set_ne z] at hj
      exact g.ow j _ hj
  · obtain ⟨f1, q1, q2⟩ := nd j e hj n1
    obtain ⟨f2, q3, q4⟩ := nd k e' hk n2
    exact g.inj j k _ _ q1 q3 q2 q4 hjk
  · rw [upd_ne (fun z => by rw [z, h3] at e; cases e)]
    exact g.fx _ _ e
  · obtain ⟨a, b, c⟩ := g.pp p h
    refine ⟨?_, b, c⟩
    obtain ⟨x, y, z', e⟩ := a
    refine ⟨x, y, z', ?_⟩
    rw [upd_ne (fun z => by
      have := g.ow i _ hi
      rw [← z, b] at this
      cases this)]
    exact e
/-- a name now holds a tree -/
theorem Gd.setC (g : Gd F hot κ σ H ρ ω) (i : Nat) {d : PyData} {v : V} (r : Rp (cold hot H) d v) : Gd F hot κ (σ.set i (some v)) H (ρ.set i (some d)) (ω.set i .no) := by
  have ld : ∀ (j : Nat) (e : Ent), (ω.set i .no)[j]? = some e → e ≠ .no → i ≠ j ∧ ω[j]? = some e := fun j e hj hn => by
    by_cases z : i = j
    · subst z
      by_cases hl : i < ω.length
      · rw [List.getElem?_set_self hl] at hj
        cases hj
        exact absurd rfl hn
      · rw [List.getElem?_eq_none (by rw [List.length_set]; omega)] at hj
        cases hj
    · rw [List.getElem?_set_ne z] at hj
      exact ⟨z, hj⟩
  refine ⟨g.al, g.rs.set i r, by rw [List.length_set, List.length_set]; exact g.lo, fun j e hj hn => ?_, fun j es hj => ?_, fun j k e e' hj hk n1 n2 hjk => ?_, g.sub, g.fx, g.cs, g.pp⟩
  · obtain ⟨z, hj⟩ := ld j e hj hn
    rw [List.getElem?_set_ne z]
    exact g.pl j e hj hn
  · exact g.ow j es (ld j _ hj (by simp)).2
  · exact g.inj j k _ _ (ld j _ hj n1).2 (ld k _ hk n2).2 n1 n2 hjk
theorem cold_sub {hot hot' : Hot} (h : ∀ a, hot a = true → hot' a = true) : Same (cold hot' H) (cold hot H) := fun a o e => by
  cases q : hot' a with
  | true => unfold cold at e; rw [if_pos q] at e; cases e
  | false =>
    rw [cold_at q] at e
    cases z : hot a with
    | true => rw [h a z] at q; cases q
    | false => rw [cold_at z]; exact e
/-- a list of ours is let go -/
theorem Gd.freeze (g : Gd F hot κ σ H ρ ω) {i : Nat} {ds : List PyData} (hi : ω[i]? = some (.own ds)) : Gd F (fun a => hot a && !decide (a = κ i)) κ σ H (ρ.set i (some (.list ds))) (ω.set i .no) := by
  obtain ⟨h1, h2, h3, vs, h4, h5⟩ := g.pl i _ hi (by simp)
  have hs : ∀ a, (hot a && !decide (a = κ i)) = true → hot a = true := fun a h => by
    rw [Bool.and_eq_true] at h
    exact h.1
  have sc : Same (cold hot H) (cold (fun a => hot a && !decide (a = κ i)) H) := cold_sub hs
  have ld : ∀ (j : Nat) (e : Ent), (ω.set i .no)[j]? = some e → e ≠ .no → i ≠ j ∧ ω[j]? = some e := fun j e hj hn => by
    by_cases z : i = j
    · subst z
      rw [List.getElem?_set_self (List.getElem?_eq_some_iff.mp hi).1] at hj
      cases hj
      exact absurd rfl hn
    · rw [List.getElem?_set_ne z] at hj
      exact ⟨z, hj⟩
  have es : σ.set i (some (.ref (κ i))) = σ := set_self h1
  refine ⟨fun a ha => g.al a (hs a ha), ?_, by rw [List.length_set, List.length_set]; exact g.lo, fun j e hj hn => ?_, fun j es hj => g.ow j es (ld j _ hj (by simp)).2, fun j k e e' hj hk n1 n2 hjk => g.inj j k _ _ (ld j _ hj n1).2 (ld k _ hk n2).2 n1 n2 hjk, fun a ha => ?_, g.fx, g.cs.trans sc, g.pp⟩
  · rw [← es]
    refine (g.rs.mono sc).set i ⟨κ i, vs, rfl, ?_, RpAll.mono sc _ _ h5⟩
    rw [cold_at (by simp)]
    exact h4
  · obtain ⟨z, hj⟩ := ld j e hj hn
    obtain ⟨a1, a2, a3, a4⟩ := g.pl j e hj hn
    refine ⟨a1, ?_, a3, ?_⟩
    · rw [a2]
      simp
      exact Ne.symm (g.inj i j _ _ hi hj (by simp) hn z)
    · cases e with
      | no => trivial
      | own es =>
        obtain ⟨us, b1, b2⟩ := a4
        exact ⟨us, b1, RpAll.mono sc _ _ b2⟩
      | pen => exact a4
  · rw [g.sub a ha]
    simp
    intro e
    have := g.ow i _ hi
    rw [← e, ha] at this
    cases this
/-- a new list is ours -/
theorem Gd.new (g : Gd F hot κ σ H ρ ω) {i : Nat} (hi : i < ω.length) {a : Addr} (ha : H a = none) {e : Ent} {vs : List V} (he : e ≠ .no) (hc : ∀ hot', cold hot' (upd H a (.lst vs)) = cold hot H → Cont hot' (upd H a (.lst vs)) a e) :
    Gd F (fun b => hot b || decide (b = a)) (fun j => if j = i then a else κ j) (σ.set i (some (.ref a))) (upd H a (.lst vs)) (ρ.set i none) (ω.set i e) := by
  have ha0 : hot a = false := g.al.fresh ha
  have sc : cold (fun b => hot b || decide (b = a)) (upd H a (.lst vs)) = cold hot H := by
    funext b
    by_cases z : b = a
    · subst z
      rw [cold_at ha0, ha]
      unfold cold
      rw [if_pos (by simp)]
    · unfold cold
      have e : (hot b || decide (b = a)) = hot b := by rw [decide_eq_false z, Bool.or_false]
      show (if (hot b || decide (b = a)) = true then none else upd H a (.lst vs) b) = _
      rw [e, upd_ne z]
  have hil : i < ρ.length := by rw [← g.lo]; exact hi
  have hne : ∀ (j : Nat) (e : Ent), ω[j]? = some e → e ≠ .no → κ j ≠ a := fun j e hj hn z => by
    obtain ⟨_, a2, _, _⟩ := g.pl j e hj hn
    rw [z, ha0] at a2
    cases a2
  refine ⟨fun b hb => ?_, ?_, by rw [List.length_set, List.length_set]; exact g.lo, fun j f hj hn => ?_, fun j es hj => ?_, fun j k f f' hj hk n1 n2 hjk => ?_, fun b hb => by rw [g.sub b hb]; rfl, fun b u e => ?_, by rw [sc]; exact g.cs, fun p h => ?_⟩
  · by_cases z : b = a
    · rw [z, upd_same]; exact fun q => nomatch q
    · rw [upd_ne z]
      refine g.al b ?_
      rw [decide_eq_false z, Bool.or_false] at hb
      exact hb
  · rw [sc]
    refine ⟨by rw [List.length_set, List.length_set]; exact g.rs.1, fun j d hj => ?_⟩
    by_cases z : i = j
    · subst z
      rw [List.getElem?_set_self hil] at hj
      cases hj
    · rw [List.getElem?_set_ne z] at hj ⊢
      exact g.rs.2 j d hj
  · by_cases z : i = j
    · subst z
      rw [List.getElem?_set_self hi] at hj
      cases hj
      rw [if_pos rfl]
      refine ⟨List.getElem?_set_self (by rw [g.rs.1]; exact hil), by simp, ?_, hc _ sc⟩
      exact g.fx.free ha
    · rw [List.getElem?_set_ne z] at hj
      rw [if_neg (Ne.symm z), List.getElem?_set_ne z]
      obtain ⟨a1, a2, a3, a4⟩ := g.pl j f hj hn
      refine ⟨a1, by rw [a2]; rfl, a3, ?_⟩
      have hh := hne j f hj hn
      cases f with
      | no => trivial
      | own es =>
        obtain ⟨us, b1, b2⟩ := a4
        exact ⟨us, by rw [upd_ne hh]; exact b1, by rw [sc]; exact b2⟩
      | pen =>
        obtain ⟨x, y, z, e⟩ := a4
        exact ⟨x, y, z, by rw [upd_ne hh]; exact e⟩
  · by_cases z : i = j
    · subst z
      rw [if_pos rfl]
      cases q : F.hot a with
      | false => rfl
      | true => rw [g.sub a q] at ha0; cases ha0
    · rw [List.getElem?_set_ne z] at hj
      rw [if_neg (Ne.symm z)]
      exact g.ow j es hj
  · by_cases z1 : i = j
    · subst z1
      have z2 : i ≠ k := hjk
      rw [List.getElem?_set_ne z2] at hk
      rw [if_pos rfl, if_neg (Ne.symm z2)]
      exact Ne.symm (hne k _ hk n2)
    · rw [List.getElem?_set_ne z1] at hj
      by_cases z2 : i = k
      · subst z2
        rw [if_neg (Ne.symm z1), if_pos rfl]
        exact hne j _ hj n1
      · rw [List.getElem?_set_ne z2] at hk
        rw [if_neg (Ne.symm z1), if_neg (Ne.symm z2)]
        exact g.inj j k _ _ hj hk n1 n2 hjk
  · rw [upd_ne (fun z => by rw [z, g.fx.free ha] at e; cases e)]
    exact g.fx _ _ e
  · obtain ⟨q, b, c⟩ := g.pp p h
    refine ⟨q.mono (same_new ha _), b, c⟩
end
/-! ### expressions -/
abbrev RO := DEnv → Om → (PyData → Om → Prop) → Prop
def tO (r : RO) : TE := fun σ H Q => ∃ F hot κ ρ ω S, Gd F hot κ σ H ρ ω ∧ r ρ ω S ∧ ∀ d ω' v H', S d ω' → Gd F hot κ σ H' ρ ω' → Same (cold hot H) (cold hot H') → Rp (cold hot H') d v → Q v H'
def OE (X : Cx) (e : Expr) (r : RO) : Prop := PE X e (tO r)
abbrev ROA := DEnv → Om → (List PyData → Om → Prop) → Prop
def tOA (r : ROA) : TA := fun σ H Q => ∃ F hot κ ρ ω S, Gd F hot κ σ H ρ ω ∧ r ρ ω S ∧ ∀ ds ω' vs H', S ds ω' → Gd F hot κ σ H' ρ ω' → Same (cold hot H) (cold hot H') → RpAll (cold hot H') ds vs → Q vs H'
def OA (X : Cx) (es : List Expr) (r : ROA) : Prop := PA X es (tOA r)
abbrev ROT := DEnv → Om → (Bool → Om → Prop) → Prop
def tOT (r : ROT) : TT := fun σ H Q => ∃ F hot κ ρ ω S, Gd F hot κ σ H ρ ω ∧ r ρ ω S ∧ ∀ b ω' H', S b ω' → Gd F hot κ σ H' ρ ω' → Same (cold hot H) (cold hot H') → Q b H'
def OT (X : Cx) (e : Expr) (r : ROT) : Prop := PT X e (tOT r)
def OW (X : Cx) (e : Expr) (r : ROT) : Prop := PW X e (tOT r)
section
variable {X : Cx} {e a b c : Expr} {es : List Expr} {pos : Pos} {r : RD} {rb : RB} {ra : RO} {rc : RO} {rs : ROA} {t u : ROT}
theorem oe_pure (h : DE X e r) : OE X e (fun ρ ω S => ∃ d, r ρ d ∧ S d ω) := h.imp fun σ H Q ⟨F, hot, κ, ρ, ω, S, g, ⟨d, hr, hs⟩, k⟩ =>
  ⟨hot, ρ, d, g.al, g.rs, hr, fun v H' s rp => k d ω v H' hs (g.mono s) (cold_mono s) rp⟩
theorem ot_pure (h : DT X e rb) : OT X e (fun ρ ω S => ∃ b, rb ρ b ∧ S b ω) := h.imp fun σ H Q ⟨F, hot, κ, ρ, ω, S, g, ⟨d, hr, hs⟩, k⟩ =>
  ⟨hot, ρ, d, g.al, g.rs, hr, fun H' s => k d ω H' hs (g.mono s) (cold_mono s)⟩
/-- an int or a truth read off lists that are ours -/
def flatD : PyData → Prop
  | .int _ => True
  | .bool _ => True
  | _ => False
theorem Rp.flat {H H' : Hp} : ∀ {d : PyData} {v : V}, flatD d → Rp H d v → Rp H' d v
  | .int _, _, _, h => h
  | .bool _, _, _, h => h
theorem Gd.peek {F : Frm} {hot : Hot} {κ : Nat → Addr} {σ : Sg} {H : Hp} {ρ : DEnv} {ω : Om} (g : Gd F hot κ σ H ρ ω) {i : Nat} {ds : List PyData} (hi : ω[i]? = some (.own ds)) : Rs (cold noHot H) σ (ρ.set i (some (.list ds))) := by
  obtain ⟨h1, h2, h3, vs, h4, h5⟩ := g.pl i _ hi (by simp)
  have es : σ.set i (some (.ref (κ i))) = σ := set_self h1
  rw [cold_no, ← es]
  exact (g.rs.mono cold_same).set i ⟨κ i, vs, rfl, h4, RpAll.mono cold_same _ _ h5⟩
theorem oe_peek (i : Nat) (h : DE X e r) : OE X e (fun ρ ω S => ∃ ds d, ω[i]? = some (.own ds) ∧ r (ρ.set i (some (.list ds))) d ∧ flatD d ∧ S d ω) := h.imp fun σ H Q ⟨F, hot, κ, ρ, ω, S, g, ⟨ds, d, hi, hr, hf, hs⟩, k⟩ =>
  ⟨noHot, _, d, Alc.no, g.peek hi, hr, fun v H' s rp => k d ω v H' hs (g.mono s) (cold_mono s) (Rp.flat hf rp)⟩
theorem ot_peek (i : Nat) (h : DT X e rb) : OT X e (fun ρ ω S => ∃ ds b, ω[i]? = some (.own ds) ∧ rb (ρ.set i (some (.list ds))) b ∧ S b ω) := h.imp fun σ H Q ⟨F, hot, κ, ρ, ω, S, g, ⟨ds, d, hi, hr, hs⟩, k⟩ =>
  ⟨noHot, _, d, Alc.no, g.peek hi, hr, fun H' s => k d ω H' hs (g.mono s) (cold_mono s)⟩
theorem oa_nil : OA X [] (fun ρ ω S => S [] ω) := (pa_nil).imp fun σ H Q ⟨F, hot, κ, ρ, ω, S, g, hs, k⟩ => k [] ω [] H hs g (Same.refl _) rfl
theorem oa_cons (ha : OE X e ra) (hb : OA X es rs) (hs : starEach (e :: es) X.env = (false, eval e X.env) :: starEach es X.env := by rfl) : OA X (e :: es) (fun ρ ω S => ra ρ ω fun d ω1 => rs ρ ω1 fun ds ω2 => S (d :: ds) ω2) :=
  (pa_cons ha hb hs).imp fun σ H Q ⟨F, hot, κ, ρ, ω, S, g, hr, k⟩ =>
    ⟨F, hot, κ, ρ, ω, _, g, hr, fun d ω1 v H1 h1 g1 s1 r1 => ⟨F, hot, κ, ρ, ω1, _, g1, h1, fun ds ω2 vs H2 h2 g2 s2 r2 => k _ _ _ _ h2 g2 (s1.trans s2) ⟨v, vs, rfl, Rp.mono s2 _ _ r1, r2⟩⟩⟩
/-- two values -/
theorem tO_two {rr : R2} {R : PyData → PyData → PyData → Prop} (v : VOp rr R) {σ : Sg} {H : Hp} {Q : VK} (h : tO (fun ρ ω S => ra ρ ω fun d1 ω1 => rc ρ ω1 fun d2 ω2 => ∃ d, R d1 d2 d ∧ S d ω2) σ H Q) : tOp rr (tO ra) (tO rc) σ H Q := by
  obtain ⟨F, hot, κ, ρ, ω, S, g, hr, k⟩ := h
  refine ⟨F, hot, κ, ρ, ω, _, g, hr, fun d1 ω1 x H1 h1 g1 s1 r1 => ⟨F, hot, κ, ρ, ω1, _, g1, h1, fun d2 ω2 y H2 h2 g2 s2 r2 => ?_⟩⟩
  obtain ⟨d, hR, hS⟩ := h2
  exact v hot H2 x y Q d1 d2 d g2.al (Rp.mono s2 _ _ r1) r2 hR fun z H3 s3 r3 => k _ _ _ _ hS (g2.mono s3) ((s1.trans s2).trans (cold_mono s3)) r3
theorem oe_op {op : Operator} {rr : R2} {R : PyData → PyData → PyData → Prop} (ho : OpR X (binaryOp op) rr) (v : VOp rr R) (ha : OE X a ra) (hb : OE X b rc) : OE X (.BinOp a op b pos) (fun ρ ω S => ra ρ ω fun d1 ω1 => rc ρ ω1 fun d2 ω2 => ∃ d, R d1 d2 d ∧ S d ω2) := (pe_op ho ha hb).imp fun σ H Q h => tO_two v h
theorem oe_cmp {op : CmpOp} {rr : R2} {R : PyData → PyData → PyData → Prop} (ho : OpR X (compareOp op) rr) (v : VOp rr R) (ha : OE X a ra) (hb : OE X b rc) (hm : behindInMarks op b = false) : OE X (.Compare a [op] [b] pos) (fun ρ ω S => ra ρ ω fun d1 ω1 => rc ρ ω1 fun d2 ω2 => ∃ d, R d1 d2 d ∧ S d ω2) := (pe_cmpR ho ha hb hm).imp fun σ H Q h => tO_two v h
theorem oe_ixL (ha : OE X a ra) (hb : OE X b rc) (hs : PlainIx b) : OE X (.Subscript a b pos) (fun ρ ω S => ra ρ ω fun d1 ω1 => rc ρ ω1 fun d2 ω2 => ∃ d, RIxL d1 d2 d ∧ S d ω2) := (pe_ix ix_list ha hb hs).imp fun σ H Q h => tO_two vop_ixL h
theorem oe_ixT (ha : OE X a ra) (hb : OE X b rc) (hs : PlainIx b) : OE X (.Subscript a b pos) (fun ρ ω S => ra ρ ω fun d1 ω1 => rc ρ ω1 fun d2 ω2 => ∃ d, RIxT d1 d2 d ∧ S d ω2) := (pe_ix ix_tup ha hb hs).imp fun σ H Q h => tO_two vop_ixT h
theorem oe_tup {x1} (h : OA X es rs) : OE X (.Tuple es x1 pos) (fun ρ ω S => rs ρ ω fun ds ω1 => ds.length ≤ sizeLine ∧ S (.tuple ds) ω1) := (pe_tup h).imp fun σ H Q ⟨F, hot, κ, ρ, ω, S, g, hr, k⟩ =>
  ⟨F, hot, κ, ρ, ω, _, g, hr, fun ds ω1 vs H1 ⟨hz, h1⟩ g1 s1 r1 => ⟨by rw [r1.length]; exact hz, fun p hp => k _ _ _ _ h1 (g1.mono (same_new hp _)) (s1.trans (cold_mono (same_new hp _))) ⟨p, vs, rfl, cold_new g1.al hp, RpAll.mono (cold_mono (same_new hp _)) _ _ r1⟩⟩⟩
theorem oe_lst (h : OA X es rs) : OE X (.List es pos) (fun ρ ω S => rs ρ ω fun ds ω1 => ds.length ≤ sizeLine ∧ S (.list ds) ω1) := (pe_lst h).imp fun σ H Q ⟨F, hot, κ, ρ, ω, S, g, hr, k⟩ =>
  ⟨F, hot, κ, ρ, ω, _, g, hr, fun ds ω1 vs H1 ⟨hz, h1⟩ g1 s1 r1 => ⟨by rw [r1.length]; exact hz, fun p hp => k _ _ _ _ h1 (g1.mono (same_new hp _)) (s1.trans (cold_mono (same_new hp _))) ⟨p, vs, rfl, cold_new g1.al hp, RpAll.mono (cold_mono (same_new hp _)) _ _ r1⟩⟩⟩
theorem tO_call {rr : List V → Hp → VK → Prop} {R : List PyData → PyData → Prop} (v : VCall rr R) {σ : Sg} {H : Hp} {Q : VK} (h : tO (fun ρ ω S => rs ρ ω fun ds ω1 => ∃ d, R ds d ∧ S d ω1) σ H Q) : tCB rr (tOA rs) σ H Q := by
  obtain ⟨F, hot, κ, ρ, ω, S, g, hr, k⟩ := h
  refine ⟨F, hot, κ, ρ, ω, _, g, hr, fun ds ω1 vs H1 ⟨d, hR, hS⟩ g1 s1 r1 => v hot H1 vs Q ds d g1.al r1 hR fun z H2 s2 r2 => k _ _ _ _ hS (g1.mono s2) (s1.trans (cold_mono s2)) r2⟩
theorem oe_callB {id : String} {x : Str} {p : Pos} {rr : List V → Hp → VK → Prop} {R : List PyData → PyData → Prop} (hc : CallR X (.builtin id) rr) (v : VCall rr R) (hg : Gl X x) (hm : X.mg x = none) (hv : bootBuiltins x = some (.builtin id)) (ha : OA X (e :: es) rs) (hn : x ≠ "__name__" := by decide) (hdb : (x == ("__debug__" : Str)) = false := by decide)
    (he : starEach (e :: es) X.env = (false, eval e X.env) :: starEach es X.env := by rfl) (hpl : (backTo pos (starEach es X.env)).any (·.1) = false := by rfl) : OE X (.Call (.Name x p) (e :: es) [] pos) (fun ρ ω S => rs ρ ω fun ds ω1 => ∃ d, R ds d ∧ S d ω1) :=
  (pe_callB hc hg hm hv ha hn hdb he hpl).imp fun σ H Q h => tO_call v h
theorem oe_callTy {T : String} {x : Str} {p : Pos} {rr : List V → Hp → VK → Prop} {R : List PyData → PyData → Prop} (hc : CallR X (.type T) rr) (v : VCall rr R) (hg : Gl X x) (hm : X.mg x = none) (hv : bootBuiltins x = some (.type T)) (ha : OA X (e :: es) rs) (hn : x ≠ "__name__" := by decide) (hdb : (x == ("__debug__" : Str)) = false := by decide)
    (he : starEach (e :: es) X.env = (false, eval e X.env) :: starEach es X.env := by rfl) (hpl : (backTo pos (starEach es X.env)).any (·.1) = false := by rfl) : OE X (.Call (.Name x p) (e :: es) [] pos) (fun ρ ω S => rs ρ ω fun ds ω1 => ∃ d, R ds d ∧ S d ω1) :=
  (pe_callTy hc hg hm hv ha hn hdb he hpl).imp fun σ H Q h => tO_call v h
theorem oe_cal {k j : Nat} {x : Str} {ps : List Str} {R : List PyData → PyData → Prop} {p : Pos} (C : Cal X.prog X.w X.K X.mg X.base k x ps R) (hr : Room j X.A) (hj : k ≤ j) (hg : Gl X x) (ha : OA X (e :: es) rs)
    (hdb : (x == ("__debug__" : Str)) = false := by decide) (he : starEach (e :: es) X.env = (false, eval e X.env) :: starEach es X.env := by rfl) (hpl : (backTo pos (starEach es X.env)).any (·.1) = false := by rfl) :
    OE X (.Call (.Name x p) (e :: es) [] pos) (fun ρ ω S => rs ρ ω fun ds ω1 => ∃ d, R ds d ∧ S d ω1) := (pe_cal C hr hj hg ha hdb he hpl).imp fun σ H Q ⟨F, hot, κ, ρ, ω, S, g, hr, k⟩ =>
  ⟨F, hot, κ, ρ, ω, _, g, hr, fun ds ω1 vs H1 ⟨d, hR, hS⟩ g1 s1 r1 => by
    show spR R (vs ++ []) H1 Q E0
    rw [List.append_nil]
    exact ⟨hot, ds, d, g1.al, r1, hR, fun z H2 s2 r2 => k _ _ _ _ hS (g1.mono s2) (s1.trans (cold_mono s2)) r2⟩⟩
/-! a call with a pen: the pen first -/
abbrev SameBut (p : Addr) (H H' : Hp) : Prop := ∀ b u, b ≠ p → H b = some u → H' b = some u
def spP (Pre : List PyData → Prop) (Post : List PyData → PyData → Prop) : Sp := fun vs H Q _ => ∃ hot p us ds, vs = .ref p :: us ∧ hot p = true ∧ Alc hot H ∧ PenAt H p ∧ RpAll (cold hot H) ds us ∧ Pre ds ∧ ∀ d v H', Post ds d → SameBut p H H' → PenAt H' p → Rp (cold hot H') d v → Q v H'
abbrev CalP (P : Program) (w : World) (K : PySem.W.Frag) (mg : Str → Option Value) (base : Heap) (k : Nat) (x : Str) (ps : List Str) (Pre : List PyData → Prop) (Post : List PyData → PyData → Prop) : Prop := CalS P w K mg base k x ps (spP Pre Post)
theorem oe_pen {k j i : Nat} {x y : Str} {ps : List Str} {Pre : List PyData → Prop} {Post : List PyData → PyData → Prop} {p p2 : Pos} (C : CalP X.prog X.w X.K X.mg X.base k x ps Pre Post) (hr : Room j X.A) (hj : k ≤ j) (hg : Gl X x) (ha : OA X es rs)
    (hN : X.N[i]? = some y := by rfl) (hv : Vis X.env.scope y := by first | exact Or.inl rfl | exact Or.inr (Or.inl rfl) | exact Or.inr (Or.inr rfl)) (hd : (y == ("__debug__" : Str)) = false := by decide) (hcd : (y == ("__classdict__" : Str)) = false := by decide)
    (hdb : (x == ("__debug__" : Str)) = false := by decide) (he : starEach (.Name y p2 :: es) X.env = (false, eval (.Name y p2) X.env) :: starEach es X.env := by rfl) (hpl : (backTo pos (starEach es X.env)).any (·.1) = false := by rfl) :
    OE X (.Call (.Name x p) (.Name y p2 :: es) [] pos) (fun ρ ω S => ω[i]? = some .pen ∧ rs ρ ω fun ds ω1 => ω1[i]? = some .pen ∧ Pre ds ∧ ∀ d, Post ds d → S d ω1) :=
  (pe_cal C hr hj hg (pa_cons (pe_var hN hv hd hcd) ha he) hdb he hpl).imp fun σ H Q ⟨F, hot, κ, ρ, ω, S, g, ⟨hi, hr⟩, k⟩ => by
    obtain ⟨h1, h2, h3, h4⟩ := g.pl i _ hi (by simp)
    refine ⟨_, h1, F, hot, κ, ρ, ω, _, g, hr, fun ds ω1 vs H1 ⟨hi1, hP, hS⟩ g1 s1 r1 => ?_⟩
    obtain ⟨a1, a2, a3, a4⟩ := g1.pl i _ hi1 (by simp)
    show spP Pre Post ((.ref (κ i) :: vs) ++ []) H1 Q E0
    rw [List.append_nil]
    refine ⟨hot, κ i, vs, ds, rfl, a2, g1.al, a4, r1, hP, fun d v H2 hd sb hp r2 => ?_⟩
    obtain ⟨g2, s2⟩ := g1.pen hi1 sb hp
    exact k _ _ _ _ (hS d hd) g2 (s1.trans s2) r2
theorem oe_or1 (h : OE X a ra) : OE X (.BoolOp .Or [a] pos) ra := pe_one h
theorem oe_or {rest : List Expr} (ha : OE X a ra) (hb : OE X (.BoolOp .Or (b :: rest) pos) rc) : OE X (.BoolOp .Or (a :: b :: rest) pos) (fun ρ ω S => ra ρ ω fun d ω1 => ∃ k, d = .bool k ∧ if k = true then S (.bool true) ω1 else rc ρ ω1 S) :=
  (pe_or ha hb).imp fun σ H Q ⟨F, hot, κ, ρ, ω, S, g, hr, k⟩ => ⟨F, hot, κ, ρ, ω, _, g, hr, fun d ω1 x H1 ⟨kk, e, h1⟩ g1 s1 r1 => by
    subst e
    refine ⟨kk, r1, ?_⟩
    cases kk with
    | true => exact k _ _ _ _ h1 g1 s1 rfl
    | false => exact ⟨F, hot, κ, ρ, ω1, S, g1, h1, fun d2 ω2 v H2 h2 g2 s2 r2 => k _ _ _ _ h2 g2 (s1.trans s2) r2⟩⟩
/-- slices of what comes -/
theorem oe_slL {lo hi : Option Expr} {rl rh : ROp} {p2 : Pos} (he : OE X e ra) (hl : DO X lo rl) (hu : DO X hi rh) : OE X (.Subscript e (.Slice lo hi none p2) pos) (fun ρ ω S => ra ρ ω fun d1 ω1 => ∃ l u ds, rl ρ l ∧ rh ρ u ∧ d1 = .list ds ∧ S (.list (cutD ds l u)) ω1) := by
  obtain ⟨tl, hl1, hl2⟩ := hl
  obtain ⟨th, hh1, hh2⟩ := hu
  refine (pe_slice sl_list he hl1 hh1).imp fun σ H Q ⟨F, hot, κ, ρ, ω, S, g, hr, k⟩ => ⟨F, hot, κ, ρ, ω, _, g, hr, fun d1 ω1 x H1 ⟨l, u, ds, h1, h2, e, h3⟩ g1 s1 r1 => ?_⟩
  subst e
  refine hl2 _ _ _ ⟨hot, ρ, l, g1.al, g1.rs, h1, fun H2 s2 => hh2 _ _ _ ⟨hot, ρ, u, g1.al.mono s2, g1.rs.mono (cold_mono s2), h2, fun H3 s3 => ?_⟩⟩
  have s13 := s2.trans s3
  obtain ⟨a, vs, rfl, ha, hs⟩ := Rp.mono (cold_mono s13) _ _ r1
  exact ⟨a, vs, rfl, SqL.of (cold_same _ _ ha), fun p hp => k _ _ _ _ h3 (g1.mono (s13.trans (same_new hp _))) (s1.trans (cold_mono (s13.trans (same_new hp _)))) ⟨p, _, rfl, cold_new (g1.al.mono s13) hp, rp_cut (RpAll.mono (cold_mono (same_new hp _)) _ _ hs) l u⟩⟩
/-! lists that are ours -/
theorem oe_append {i : Nat} {x : Str} {p1 p2 : Pos} (ha : OE X e ra) (hN : X.N[i]? = some x := by rfl) (hv : Vis X.env.scope x := by first | exact Or.inl rfl | exact Or.inr (Or.inl rfl) | exact Or.inr (Or.inr rfl)) (hd : (x == ("__debug__" : Str)) = false := by decide) (hcd : (x == ("__classdict__" : Str)) = false := by decide)
    (hbase : attributeBase (.Name x p1) "append" X.env (eval (.Name x p1) X.env) = eval (.Name x p1) X.env := by rfl)
    (hfew : ((backTo pos (starEach [e] X.env)).all (fun x => !x.1) && (backToKw pos (keywordEach [] X.env)).all (fun x => x.1.isSome) && decide ([e].length + ([] : List Keyword).length + (if ([] : List Keyword).isEmpty then 0 else 1) < 30)) = true := by rfl)
    (hline : (p2.endLine == pos.line) = true := by rfl) (hs : starEach (e :: []) X.env = (false, eval e X.env) :: starEach [] X.env := by rfl) (hplain : (backTo pos (starEach [] X.env)).any (·.1) = false := by rfl) :
    OE X (.Call (.Attribute (.Name x p1) "append" p2) [e] [] pos) (fun ρ ω S => (∃ ds, ω[i]? = some (.own ds)) ∧ ra ρ ω fun d ω1 => ∃ ds, ω1[i]? = some (.own ds) ∧ ds.length ≤ 100000 ∧ S .none (ω1.set i (.own (ds ++ [d])))) :=
  (pe_bm PySem.F.plainAttrs_list PySem.F.slot_list_append PySem.F.type_list_append mt_append (pe_var hN hv hd hcd) (pa_cons ha pa_nil hs) hbase hfew hline hs hplain).imp fun σ H Q ⟨F, hot, κ, ρ, ω, S, g, ⟨⟨ds, hi⟩, hr⟩, k⟩ => by
    obtain ⟨h1, h2, h3, vs, h4, h5⟩ := g.pl i _ hi (by simp)
    refine ⟨_, h1, Or.inl ⟨rfl, _, Or.inl (Or.inl h4)⟩, F, hot, κ, ρ, ω, _, g, hr, fun d ω1 v H1 ⟨es, hi1, hz, hS⟩ g1 s1 r1 => ?_⟩
    obtain ⟨a1, a2, a3, us, a4, a5⟩ := g1.pl i _ hi1 (by simp)
    obtain ⟨g2, e2⟩ := g1.write hi1 (a5.append (show RpAll (cold hot H1) [d] [v] from ⟨v, [], rfl, r1, rfl⟩))
    have hsl := sizeLine_eq
    refine ⟨κ i, us, v, rfl, rfl, a4, by rw [a5.length]; omega, k _ _ _ _ hS g2 (by rw [e2]; exact s1) rfl⟩
theorem oe_extend {i : Nat} {x : Str} {p1 p2 : Pos} (ha : OE X e ra) (hN : X.N[i]? = some x := by rfl) (hv : Vis X.env.scope x := by first | exact Or.inl rfl | exact Or.inr (Or.inl rfl) | exact Or.inr (Or.inr rfl)) (hd : (x == ("__debug__" : Str)) = false := by decide) (hcd : (x == ("__classdict__" : Str)) = false := by decide)
    (hbase : attributeBase (.Name x p1) "extend" X.env (eval (.Name x p1) X.env) = eval (.Name x p1) X.env := by rfl)
    (hfew : ((backTo pos (starEach [e] X.env)).all (fun x => !x.1) && (backToKw pos (keywordEach [] X.env)).all (fun x => x.1.isSome) && decide ([e].length + ([] : List Keyword).length + (if ([] : List Keyword).isEmpty then 0 else 1) < 30)) = true := by rfl)
    (hline : (p2.endLine == pos.line) = true := by rfl) (hs : starEach (e :: []) X.env = (false, eval e X.env) :: starEach [] X.env := by rfl) (hplain : (backTo pos (starEach [] X.env)).any (·.1) = false := by rfl) :
    OE X (.Call (.Attribute (.Name x p1) "extend" p2) [e] [] pos) (fun ρ ω S => (∃ ds, ω[i]? = some (.own ds)) ∧ ra ρ ω fun d ω1 => ∃ ds es, ω1[i]? = some (.own ds) ∧ d = .list es ∧ ds.length + es.length ≤ 1000000 ∧ S .none (ω1.set i (.own (ds ++ es)))) :=
  (pe_bm PySem.F.plainAttrs_list PySem.F.slot_list_extend PySem.F.type_list_extend mt_extend (pe_var hN hv hd hcd) (pa_cons ha pa_nil hs) hbase hfew hline hs hplain).imp fun σ H Q ⟨F, hot, κ, ρ, ω, S, g, ⟨⟨ds, hi⟩, hr⟩, k⟩ => by
    obtain ⟨h1, h2, h3, vs, h4, h5⟩ := g.pl i _ hi (by simp)
    refine ⟨_, h1, Or.inl ⟨rfl, _, Or.inl (Or.inl h4)⟩, F, hot, κ, ρ, ω, _, g, hr, fun d ω1 v H1 ⟨ds, es, hi1, e, hz, hS⟩ g1 s1 r1 => ?_⟩
    subst e
    obtain ⟨b, zs, rfl, hb, hzs⟩ := r1
    obtain ⟨a1, a2, a3, us, a4, a5⟩ := g1.pl i _ hi1 (by simp)
    obtain ⟨g2, e2⟩ := g1.write hi1 (a5.append hzs)
    refine ⟨κ i, b, us, zs, rfl, rfl, a4, cold_same _ _ hb, by rw [a5.length, hzs.length]; have := sizeLine_eq; omega, k _ _ _ _ hS g2 (by rw [e2]; exact s1) rfl⟩
theorem oe_popAt {i : Nat} {x : Str} {p1 p2 : Pos} (ha : OE X e ra) (hN : X.N[i]? = some x := by rfl) (hv : Vis X.env.scope x := by first | exact Or.inl rfl | exact Or.inr (Or.inl rfl) | exact Or.inr (Or.inr rfl)) (hd : (x == ("__debug__" : Str)) = false := by decide) (hcd : (x == ("__classdict__" : Str)) = false := by decide)
    (hbase : attributeBase (.Name x p1) "pop" X.env (eval (.Name x p1) X.env) = eval (.Name x p1) X.env := by rfl)
    (hfew : ((backTo pos (starEach [e] X.env)).all (fun x => !x.1) && (backToKw pos (keywordEach [] X.env)).all (fun x => x.1.isSome) && decide ([e].length + ([] : List Keyword).length + (if ([] : List Keyword).isEmpty then 0 else 1) < 30)) = true := by rfl)
    (hline : (p2.endLine == pos.line) = true := by rfl) (hs : starEach (e :: []) X.env = (false, eval e X.env) :: starEach [] X.env := by rfl) (hplain : (backTo pos (starEach [] X.env)).any (·.1) = false := by rfl) :
    OE X (.Call (.Attribute (.Name x p1) "pop" p2) [e] [] pos) (fun ρ ω S => (∃ ds, ω[i]? = some (.own ds)) ∧ ra ρ ω fun d ω1 => ∃ (ds : List PyData) (k : Nat) (y : PyData), ω1[i]? = some (.own ds) ∧ d = .int k ∧ k < 1000000 ∧ ds[k]? = some y ∧ S y (ω1.set i (.own (ds.eraseIdx k)))) :=
  (pe_bm PySem.F.plainAttrs_list PySem.F.slot_list_pop PySem.F.type_list_pop mt_popAt (pe_var hN hv hd hcd) (pa_cons ha pa_nil hs) hbase hfew hline hs hplain).imp fun σ H Q ⟨F, hot, κ, ρ, ω, S, g, ⟨⟨ds, hi⟩, hr⟩, k⟩ => by
    obtain ⟨h1, h2, h3, vs, h4, h5⟩ := g.pl i _ hi (by simp)
    refine ⟨_, h1, Or.inl ⟨rfl, _, Or.inl (Or.inl h4)⟩, F, hot, κ, ρ, ω, _, g, hr, fun d ω1 v H1 ⟨ds, n, y, hi1, e, hn, hy, hS⟩ g1 s1 r1 => ?_⟩
    subst e
    have e : v = V.int n := r1
    subst e
    obtain ⟨a1, a2, a3, us, a4, a5⟩ := g1.pl i _ hi1 (by simp)
    obtain ⟨z, hz1, hz2⟩ := a5.at hy
    obtain ⟨g2, e2⟩ := g1.write hi1 (a5.eraseIdx n)
    have hl := (List.getElem?_eq_some_iff.mp hz1).1
    refine ⟨κ i, us, n, n, z, rfl, rfl, a4, by omega, by omega, seqIndex_of (by omega) (by omega), hz1, k _ _ _ _ hS g2 (by rw [e2]; exact s1) (by rw [e2]; exact hz2)⟩
theorem oe_pop {i : Nat} {x : Str} {p1 p2 : Pos} (hN : X.N[i]? = some x := by rfl) (hv : Vis X.env.scope x := by first | exact Or.inl rfl | exact Or.inr (Or.inl rfl) | exact Or.inr (Or.inr rfl)) (hd : (x == ("__debug__" : Str)) = false := by decide) (hcd : (x == ("__classdict__" : Str)) = false := by decide)
    (hbase : attributeBase (.Name x p1) "pop" X.env (eval (.Name x p1) X.env) = eval (.Name x p1) X.env := by rfl) (hline : (p2.endLine == pos.line) = true := by rfl) :
    OE X (.Call (.Attribute (.Name x p1) "pop" p2) [] [] pos) (fun ρ ω S => ∃ (ds : List PyData) (y : PyData), ω[i]? = some (.own (ds ++ [y])) ∧ S y (ω.set i (.own ds))) :=
  (pe_bm0 PySem.F.plainAttrs_list PySem.F.slot_list_pop PySem.F.type_list_pop mt_pop (pe_var hN hv hd hcd) hbase hline).imp fun σ H Q ⟨F, hot, κ, ρ, ω, S, g, ⟨ds, y, hi, hS⟩, k⟩ => by
    obtain ⟨h1, h2, h3, vs, h4, h5⟩ := g.pl i _ hi (by simp)
    have hl : vs.length = ds.length + 1 := by rw [h5.length, List.length_append, List.length_singleton]
    obtain ⟨z, hz1, hz2⟩ := h5.at (i := ds.length) (d := y) (by rw [List.getElem?_append_right (Nat.le_refl _), Nat.sub_self]; rfl)
    have hd := h5.dropLast
    rw [List.dropLast_concat] at hd
    obtain ⟨g2, e2⟩ := g.write hi hd
    refine ⟨_, h1, Or.inl ⟨rfl, _, Or.inl (Or.inl h4)⟩, κ i, vs, z, rfl, rfl, h4, by rw [hl]; exact hz1, k _ _ _ _ hS g2 (by rw [e2]; exact Same.refl _) (by rw [e2]; exact hz2)⟩
/-! tests -/
theorem ot_not (h : OT X a t) : OT X (.UnaryOp .Not a pos) (fun ρ ω S => t ρ ω fun b ω1 => S (!b) ω1) := (pt_not h).imp fun σ H Q ⟨F, hot, κ, ρ, ω, S, g, hr, k⟩ =>
  ⟨F, hot, κ, ρ, ω, _, g, hr, fun b ω1 H1 h1 g1 s1 => k _ _ _ h1 g1 s1⟩
theorem ot_val (h : OE X e ra) (he : ∀ whole, isTrue e X.env whole = (do let v ← whole; standAt e.pos; holding [v] (truthy v)) := by intro _; rfl) : OT X e (fun ρ ω S => ra ρ ω fun d ω1 => ∃ b, d = .bool b ∧ S b ω1) :=
  (pt_val h he).imp fun σ H Q ⟨F, hot, κ, ρ, ω, S, g, hr, k⟩ => ⟨F, hot, κ, ρ, ω, _, g, hr, fun d ω1 v H1 ⟨b, e, h1⟩ g1 s1 r1 => by
    subst e
    exact ⟨b, r1, k _ _ _ h1 g1 s1⟩⟩
theorem ow_or1 (h : OT X a t) : OW X (.BoolOp .Or [a] pos) t := pw_or1 h
theorem ow_or {rest : List Expr} (ha : OT X a t) (hb : OW X (.BoolOp .Or (b :: rest) pos) u) : OW X (.BoolOp .Or (a :: b :: rest) pos) (fun ρ ω S => t ρ ω fun k ω1 => if k = true then S true ω1 else u ρ ω1 S) :=
  (pw_or ha hb).imp fun σ H Q ⟨F, hot, κ, ρ, ω, S, g, hr, k⟩ => ⟨F, hot, κ, ρ, ω, _, g, hr, fun kk ω1 H1 h1 g1 s1 => by
    cases kk with
    | true => exact k _ _ _ h1 g1 s1
    | false => exact ⟨F, hot, κ, ρ, ω1, S, g1, h1, fun b2 ω2 H2 h2 g2 s2 => k _ _ _ h2 g2 (s1.trans s2)⟩⟩
theorem OW.ot (h : OW X e t) : OT X e t := PW.pt h
end
end Rng
/-! statements over trees, owned lists, pens -/
namespace Rng
open PySem PySem.Spec PyProof.Rows L2
abbrev OP := DEnv → Om → Prop
structure OEnds where
  nx : OP
  rt : PyData → Prop
  bk : OP := fun _ _ => False
  ct : OP := fun _ _ => False
structure OLink (F : Frm) (De : OEnds) (D : Ends) : Prop where
  nx : ∀ hot κ ρ ω σ H, De.nx ρ ω → Gd F hot κ σ H ρ ω → D.nx σ H
  rt : ∀ hot κ ρ ω σ d v H, De.rt d → Gd F hot κ σ H ρ ω → Rp (cold hot H) d v → D.rt v H
  bk : ∀ hot κ ρ ω σ H, De.bk ρ ω → Gd F hot κ σ H ρ ω → D.bk σ H
  ct : ∀ hot κ ρ ω σ H, De.ct ρ ω → Gd F hot κ σ H ρ ω → D.ct σ H
abbrev OTS := OEnds → DEnv → Om → Prop
def tOS (t : OTS) : TS := fun D σ H => ∃ F hot κ ρ ω De, Gd F hot κ σ H ρ ω ∧ t De ρ ω ∧ OLink F De D
def OS (X : Cx) (st : Stmt) (t : OTS) : Prop := PS X st (tOS t)
def OSs (X : Cx) (sts : List Stmt) (t : OTS) : Prop := PSs X sts (tOS t)
section
variable {X : Cx} {st : Stmt} {rest : List Stmt} {e c : Expr} {pos : Pos} {r : RO} {rt : ROT} {t u : OTS}
theorem oss_nil : OSs X [] (fun De ρ ω => De.nx ρ ω) := pss_nil.imp fun D σ H ⟨F, hot, κ, ρ, ω, De, g, h, l⟩ => l.nx _ _ _ _ _ _ h g
theorem oss_cons (h1 : OS X st t) (h2 : OSs X rest u) : OSs X (st :: rest) (fun De ρ ω => t { De with nx := u De } ρ ω) :=
  (pss_cons h1 h2).imp fun D σ H ⟨F, hot, κ, ρ, ω, De, g, h, l⟩ => ⟨F, hot, κ, ρ, ω, _, g, h, ⟨fun hot' κ' ρ' ω' σ' H' a g' => ⟨F, hot', κ', ρ', ω', De, g', a, l⟩, l.rt, l.bk, l.ct⟩⟩
theorem oss_one (h1 : OS X st t) : OSs X [st] t := pss_one h1
theorem os_set {i : Nat} {x : Str} {pos' : Pos} (hN : X.N.Nodup) (hi : X.N[i]? = some x) (hx : Loc X.env.scope x) (he : OE X e r) (hs : swapsWith e (some (.Name x pos')) pos.line X.env = pure false := by rfl) (hf : X.fn x = true ∨ X.env.scope.names.lookup x = some .local := by first | exact .inl rfl | exact .inr rfl | assumption) :
    OS X (.Assign [.Name x pos'] e pos) (fun De ρ ω => r ρ ω fun d ω1 => De.nx (ρ.set i (some d)) (ω1.set i .no)) :=
  (ps_set hN hi hx he hs hf).imp fun D σ H ⟨F, hot, κ, ρ, ω, De, g, h, l⟩ => ⟨F, hot, κ, ρ, ω, _, g, h, fun d ω1 v H1 h1 g1 s1 r1 => l.nx _ _ _ _ _ _ h1 (g1.setC i r1)⟩
theorem os_ret (he : OE X e r) : OS X (.Return (some e) pos) (fun De ρ ω => r ρ ω fun d _ => De.rt d) :=
  (ps_ret he).imp fun D σ H ⟨F, hot, κ, ρ, ω, De, g, h, l⟩ => ⟨F, hot, κ, ρ, ω, _, g, h, fun d ω1 v H1 h1 g1 s1 r1 => l.rt _ _ _ _ _ _ _ _ h1 g1 r1⟩
theorem os_expr (he : OE X e r) (hs : swapsWith e none pos.line X.env = pure false := by rfl) : OS X (.Expr e pos) (fun De ρ ω => r ρ ω fun _ ω1 => De.nx ρ ω1) :=
  (ps_expr he hs).imp fun D σ H ⟨F, hot, κ, ρ, ω, De, g, h, l⟩ => ⟨F, hot, κ, ρ, ω, _, g, h, fun d ω1 v H1 h1 g1 s1 r1 => l.nx _ _ _ _ _ _ h1 g1⟩
theorem os_if {a b : List Stmt} (hc : OT X c rt) (ha : OSs X a t) (hb : OSs X b u) : OS X (.If c a b pos) (fun De ρ ω => rt ρ ω fun k ω1 => if k = true then t De ρ ω1 else u De ρ ω1) :=
  (ps_if hc ha hb).imp fun D σ H ⟨F, hot, κ, ρ, ω, De, g, h, l⟩ => ⟨F, hot, κ, ρ, ω, _, g, h, fun k ω1 H1 h1 g1 s1 => by
    cases k with
    | true => exact ⟨F, hot, κ, ρ, ω1, De, g1, h1, l⟩
    | false => exact ⟨F, hot, κ, ρ, ω1, De, g1, h1, l⟩⟩
theorem os_never : OS X st (fun _ _ _ => False) := ps_never.imp fun D σ H ⟨_, _, _, _, _, _, _, h, _⟩ => h.elim
theorem os_par {i j : Nat} {x y : Str} {a b : Expr} {rs : ROA} {px py pt : Pos} {kt k2 pt2} (hc : X.calm = true) (hN : X.N.Nodup) (hi : X.N[i]? = some x) (hj : X.N[j]? = some y) (hij : i ≠ j)
    (hx : X.env.scope.names.lookup x = some .local) (hy : X.env.scope.names.lookup y = some .local) (ha : OA X [a, b] rs)
    (hw : swappedStores [.Tuple [.Name x px, .Name y py] kt pt] (.Tuple [a, b] k2 pt2) X.env = pure (some [x, y]))
    (hs : swapsWithSole [.Tuple [.Name x px, .Name y py] kt pt] (.Tuple [a, b] k2 pt2) pos.line X.env = pure false := by rfl) :
    OS X (.Assign [.Tuple [.Name x px, .Name y py] kt pt] (.Tuple [a, b] k2 pt2) pos) (fun De ρ ω => rs ρ ω fun ds ω1 => ∃ d1 d2, ds = [d1, d2] ∧ De.nx ((ρ.set i (some d1)).set j (some d2)) ((ω1.set i .no).set j .no)) :=
  (ps_par hc hN hi hj hij hx hy ha hw hs).imp fun D σ H ⟨F, hot, κ, ρ, ω, De, g, h, l⟩ => ⟨F, hot, κ, ρ, ω, _, g, h, fun ds ω1 vs H1 ⟨d1, d2, e, h1⟩ g1 s1 r1 => by
    subst e
    obtain ⟨v, vr, rfl, q1, v2, vr2, rfl, q2, e⟩ := r1
    have e : vr2 = [] := e
    subst e
    exact ⟨v, v2, rfl, l.nx _ _ _ _ _ _ h1 ((g1.setC i q1).setC j q2)⟩⟩
/-! new lists of ours -/
abbrev ROF := DEnv → Om → (List PyData → Om → Prop) → Prop
def tF (r : ROF) : TE := fun σ H Q => ∃ F hot κ ρ ω S, Gd F hot κ σ H ρ ω ∧ r ρ ω S ∧ ∀ ds ω' vs a H', S ds ω' → Gd F hot κ σ H' ρ ω' → Same (cold hot H) (cold hot H') → H' a = none → RpAll (cold hot H') ds vs → Q (.ref a) (upd H' a (.lst vs))
def OF (X : Cx) (e : Expr) (r : ROF) : Prop := PE X e (tF r)
theorem of_nil : OF X (.List [] pos) (fun ρ ω S => S [] ω) := (pe_lst pa_nil).imp fun σ H Q ⟨F, hot, κ, ρ, ω, S, g, h, k⟩ => ⟨Nat.zero_le _, fun p hp => k [] ω [] p H h g (Same.refl _) hp rfl⟩
theorem of_list {p : Pos} {rs : RD} (hg : Gl X "list") (hm : X.mg "list" = none) (ha : DE X e rs) (he : starEach (e :: []) X.env = (false, eval e X.env) :: starEach [] X.env := by rfl) (hpl : (backTo pos (starEach [] X.env)).any (·.1) = false := by rfl) :
    OF X (.Call (.Name "list" p) [e] [] pos) (fun ρ ω S => ∃ l d, rs ρ d ∧ (d = .list l ∨ d = .tuple l) ∧ S l ω) :=
  (pe_callTy call_list_of hg hm (by decide +kernel) (pa_cons ha pa_nil he) (by decide) (by decide) he hpl).imp fun σ H Q ⟨F, hot, κ, ρ, ω, S, g, ⟨ls, d, h1, hd, h2⟩, k⟩ => by
    refine ⟨hot, ρ, d, g.al, g.rs, h1, fun v H1 s1 r1 => ?_⟩
    rcases hd with e | e
    · subst e
      obtain ⟨a, vs, rfl, q1, q2⟩ := r1
      exact ⟨a, vs, rfl, .inl (SqL.of (cold_same _ _ q1)), fun p hp => k _ _ _ _ _ h2 (g.mono s1) (cold_mono s1) hp q2⟩
    · subst e
      obtain ⟨a, vs, rfl, q1, q2⟩ := r1
      exact ⟨a, vs, rfl, .inr (SqT.of (cold_same _ _ q1)), fun p hp => k _ _ _ _ _ h2 (g.mono s1) (cold_mono s1) hp q2⟩
theorem of_cat {a b : Expr} {ra rc : RO} (ha : OE X a ra) (hb : OE X b rc) : OF X (.BinOp a .Add b pos) (fun ρ ω S => ra ρ ω fun d1 ω1 => rc ρ ω1 fun d2 ω2 => ∃ l1 l2, d1 = .list l1 ∧ d2 = .list l2 ∧ l1.length + l2.length ≤ 100000 ∧ S (l1 ++ l2) ω2) :=
  (pe_op op_cat ha hb).imp fun σ H Q ⟨F, hot, κ, ρ, ω, S, g, h, k⟩ => by
    refine ⟨F, hot, κ, ρ, ω, _, g, h, fun d1 ω1 x H1 h1 g1 s1 r1 => ⟨F, hot, κ, ρ, ω1, _, g1, h1, fun d2 ω2 y H2 ⟨l1, l2, e1, e2, hz, h2⟩ g2 s2 r2 => ?_⟩⟩
    subst e1 e2
    obtain ⟨a, vs, rfl, q1, q2⟩ := Rp.mono s2 _ _ r1
    obtain ⟨b, us, rfl, q3, q4⟩ := r2
    exact ⟨a, b, vs, us, rfl, rfl, cold_same _ _ q1, cold_same _ _ q3, by rw [q2.length, q4.length]; exact line_of hz, fun p hp => k _ _ _ _ _ h2 g2 (s1.trans s2) hp (q2.append q4)⟩
theorem os_new {i : Nat} {x : Str} {pos' : Pos} {rf : ROF} (hN : X.N.Nodup) (hi : X.N[i]? = some x) (hx : Loc X.env.scope x) (he : OF X e rf) (hs : swapsWith e (some (.Name x pos')) pos.line X.env = pure false := by rfl) (hf : X.fn x = true ∨ X.env.scope.names.lookup x = some .local := by first | exact .inl rfl | exact .inr rfl | assumption) :
    OS X (.Assign [.Name x pos'] e pos) (fun De ρ ω => rf ρ ω fun ds ω1 => i < ω1.length ∧ De.nx (ρ.set i none) (ω1.set i (.own ds))) :=
  (ps_set hN hi hx he hs hf).imp fun D σ H ⟨F, hot, κ, ρ, ω, De, g, h, l⟩ => ⟨F, hot, κ, ρ, ω, _, g, h, fun ds ω1 vs a H1 ⟨hl, h1⟩ g1 s1 ha r1 =>
    l.nx _ _ _ _ _ _ h1 (g1.new hl ha (by simp) fun hot' e => ⟨vs, upd_same, by rw [e]; exact r1⟩)⟩
/-- a pen comes -/
def spN (Pre : List PyData → Prop) : Sp := fun vs H Q _ => ∃ hot ds, Alc hot H ∧ RpAll (cold hot H) ds vs ∧ Pre ds ∧ ∀ p x y z H', Same H H' → H' p = none → Q (.ref p) (upd H' p (.lst [.int x, .int y, .int z]))
theorem os_penNew {i k j : Nat} {f x : Str} {ps : List Str} {Pre : List PyData → Prop} {a : Expr} {es : List Expr} {p cpos pos' : Pos} {rs : RA} (hN : X.N.Nodup) (hi : X.N[i]? = some x) (hx : Loc X.env.scope x) (C : CalS X.prog X.w X.K X.mg X.base k f ps (spN Pre)) (hr : Room j X.A) (hj : k ≤ j) (hg : Gl X f) (ha : DA X (a :: es) rs)
    (hdb : (f == ("__debug__" : Str)) = false := by decide) (he : starEach (a :: es) X.env = (false, eval a X.env) :: starEach es X.env := by rfl) (hpl : (backTo cpos (starEach es X.env)).any (·.1) = false := by rfl)
    (hs : swapsWith (.Call (.Name f p) (a :: es) [] cpos) (some (.Name x pos')) pos.line X.env = pure false := by rfl) (hf : X.fn x = true ∨ X.env.scope.names.lookup x = some .local := by first | exact .inl rfl | exact .inr rfl | assumption) :
    OS X (.Assign [.Name x pos'] (.Call (.Name f p) (a :: es) [] cpos) pos) (fun De ρ ω => i < ω.length ∧ ∃ ds, rs ρ ds ∧ Pre ds ∧ De.nx (ρ.set i none) (ω.set i .pen)) :=
  (ps_set hN hi hx (pe_cal C hr hj hg ha hdb he hpl) hs hf).imp fun D σ H ⟨F, hot, κ, ρ, ω, De, g, ⟨hl, ds, h1, h2, h3⟩, l⟩ => ⟨hot, ρ, ds, g.al, g.rs, h1, fun vs H1 s1 r1 => by
    show spN Pre (vs ++ []) H1 _ E0
    rw [List.append_nil]
    refine ⟨hot, ds, g.al.mono s1, r1, h2, fun p x y z H2 s2 hp => ?_⟩
    exact l.nx _ _ _ _ _ _ h3 ((g.mono (s1.trans s2)).new hl hp (by simp) fun hot' e => ⟨x, y, z, upd_same⟩)⟩
/-- a, b = (.. , []), the first a tree or a new list of ours, the second ours -/
theorem os_parCF {i j : Nat} {x y : Str} {a : Expr} {r : RD} {px py pt : Pos} {kt k2 pt2 p0} (hc : X.calm = true) (hN : X.N.Nodup) (hi : X.N[i]? = some x) (hj : X.N[j]? = some y) (hij : i ≠ j)
    (hx : X.env.scope.names.lookup x = some .local) (hy : X.env.scope.names.lookup y = some .local) (ha : DE X a r)
    (hw : swappedStores [.Tuple [.Name x px, .Name y py] kt pt] (.Tuple [a, .List [] p0] k2 pt2) X.env = pure (some [x, y]))
    (hs : swapsWithSole [.Tuple [.Name x px, .Name y py] kt pt] (.Tuple [a, .List [] p0] k2 pt2) pos.line X.env = pure false := by rfl)
    (h1 : starEach (a :: [.List [] p0]) X.env = (false, eval a X.env) :: starEach [.List [] p0] X.env := by rfl) (h2 : starEach (.List [] p0 :: []) X.env = (false, eval (.List [] p0) X.env) :: starEach [] X.env := by rfl) :
    OS X (.Assign [.Tuple [.Name x px, .Name y py] kt pt] (.Tuple [a, .List [] p0] k2 pt2) pos) (fun De ρ ω => j < ω.length ∧ ∃ d, r ρ d ∧ De.nx ((ρ.set i (some d)).set j none) ((ω.set i .no).set j (.own []))) :=
  (ps_par hc hN hi hj hij hx hy (pa_cons ha (pa_cons (pe_lst pa_nil) pa_nil h2) h1) hw hs).imp fun D σ H ⟨F, hot, κ, ρ, ω, De, g, ⟨hl, d, hr, h⟩, l⟩ =>
    ⟨hot, ρ, d, g.al, g.rs, hr, fun v H1 s1 r1 => ⟨Nat.zero_le _, fun p hp => ⟨v, .ref p, rfl, l.nx _ _ _ _ _ _ h (((g.mono s1).setC i r1).new (by rw [List.length_set]; exact hl) hp (by simp) fun hot' e => ⟨[], upd_same, rfl⟩)⟩⟩⟩
theorem os_parFF {i j : Nat} {x y : Str} {a : Expr} {r : ROF} {px py pt : Pos} {kt k2 pt2 p0} (hc : X.calm = true) (hN : X.N.Nodup) (hi : X.N[i]? = some x) (hj : X.N[j]? = some y) (hij : i ≠ j)
    (hx : X.env.scope.names.lookup x = some .local) (hy : X.env.scope.names.lookup y = some .local) (ha : OF X a r)
    (hw : swappedStores [.Tuple [.Name x px, .Name y py] kt pt] (.Tuple [a, .List [] p0] k2 pt2) X.env = pure (some [x, y]))
    (hs : swapsWithSole [.Tuple [.Name x px, .Name y py] kt pt] (.Tuple [a, .List [] p0] k2 pt2) pos.line X.env = pure false := by rfl)
    (h1 : starEach (a :: [.List [] p0]) X.env = (false, eval a X.env) :: starEach [.List [] p0] X.env := by rfl) (h2 : starEach (.List [] p0 :: []) X.env = (false, eval (.List [] p0) X.env) :: starEach [] X.env := by rfl) :
    OS X (.Assign [.Tuple [.Name x px, .Name y py] kt pt] (.Tuple [a, .List [] p0] k2 pt2) pos) (fun De ρ ω => r ρ ω fun ds ω1 => i < ω1.length ∧ j < ω1.length ∧ De.nx ((ρ.set i none).set j none) ((ω1.set i (.own ds)).set j (.own []))) :=
  (ps_par hc hN hi hj hij hx hy (pa_cons ha (pa_cons (pe_lst pa_nil) pa_nil h2) h1) hw hs).imp fun D σ H ⟨F, hot, κ, ρ, ω, De, g, h, l⟩ =>
    ⟨F, hot, κ, ρ, ω, _, g, h, fun ds ω1 vs a H1 ⟨hl1, hl2, h3⟩ g1 s1 ha r1 => ⟨Nat.zero_le _, fun p hp => ⟨.ref a, .ref p, rfl, l.nx _ _ _ _ _ _ h3 ((g1.new (e := .own ds) (vs := vs) hl1 ha (by simp) fun hot' e => ⟨vs, upd_same, by rw [e]; exact r1⟩).new (e := .own []) (vs := []) (by rw [List.length_set]; exact hl2) hp (by simp) fun hot' e => ⟨[], upd_same, rfl⟩)⟩⟩⟩
/-- a list of ours is a tree from here on -/
theorem oss_freeze (i : Nat) {sts : List Stmt} (h : OSs X sts t) : OSs X sts (fun De ρ ω => ∃ ds, ω[i]? = some (.own ds) ∧ t De (ρ.set i (some (.list ds))) (ω.set i .no)) := h.imp fun D σ H ⟨F, hot, κ, ρ, ω, De, g, ⟨ds, hi, h⟩, l⟩ => ⟨F, _, κ, _, _, De, g.freeze hi, h, l⟩
/-- a branch -/
theorem os_at (h : OSs X [st] t) : OSs X [st] t := h
end
/-! ### targets -/
abbrev OGt := PyData → DEnv → Om → OP → Prop
def gO (g : OGt) : TG := fun v σ H Q => ∃ F hot κ ρ ω d S, Gd F hot κ σ H ρ ω ∧ Rp (cold hot H) d v ∧ g d ρ ω S ∧ ∀ ρ' ω' σ', S ρ' ω' → Gd F hot κ σ' H ρ' ω' → Q σ' H
def OG (X : Cx) (tg : Expr) (g : OGt) : Prop := PG X tg (gO g)
section
variable {X : Cx} {pos : Pos}
theorem og_name {i : Nat} {x : Str} (hN : X.N.Nodup) (hi : X.N[i]? = some x) (hx : Loc X.env.scope x) (hf : X.fn x = true ∨ X.env.scope.names.lookup x = some .local := by first | exact .inl rfl | exact .inr rfl | assumption) : OG X (.Name x pos) (fun d ρ ω S => S (ρ.set i (some d)) (ω.set i .no)) :=
  (pg_name hN hi hx hf).imp fun v σ H Q ⟨F, hot, κ, ρ, ω, d, S, g, r, h, k⟩ => k _ _ _ h (g.setC i r)
theorem og_two {i j : Nat} {x y : Str} {px py : Pos} {k : Nat} (hc : X.calm = true) (hN : X.N.Nodup) (hi : X.N[i]? = some x) (hj : X.N[j]? = some y) (hx : Loc X.env.scope x) (hy : Loc X.env.scope y)
    (hfx : X.fn x = true ∨ X.env.scope.names.lookup x = some .local := by first | exact .inl rfl | exact .inr rfl | assumption) (hfy : X.fn y = true ∨ X.env.scope.names.lookup y = some .local := by first | exact .inl rfl | exact .inr rfl | assumption) :
    OG X (.Tuple [.Name x px, .Name y py] k pos) (fun d ρ ω S => ∃ d1 d2, d = .tuple [d1, d2] ∧ S ((ρ.set i (some d1)).set j (some d2)) ((ω.set i .no).set j .no)) :=
  (pg_tup hc (pgs_cons (pg_name hN hi hx hfx) (pgs_cons (pg_name hN hj hy hfy) pgs_nil))).imp fun v σ H Q ⟨F, hot, κ, ρ, ω, d, S, g, r, ⟨d1, d2, e, h⟩, kk⟩ => by
    subst e
    obtain ⟨a, vs, rfl, ha, hs⟩ := r
    obtain ⟨v1, r1, rfl, q1, v2, r2, rfl, q2, e⟩ := hs
    have e : r2 = [] := e
    subst e
    exact ⟨a, _, rfl, SqT.of (cold_same _ _ ha), rfl, v1, _, rfl, v2, _, rfl, rfl, kk _ _ _ h ((g.setC i q1).setC j q2)⟩
theorem og_twoL {i j : Nat} {x y : Str} {px py : Pos} {k : Nat} (hc : X.calm = true) (hN : X.N.Nodup) (hi : X.N[i]? = some x) (hj : X.N[j]? = some y) (hx : Loc X.env.scope x) (hy : Loc X.env.scope y)
    (hfx : X.fn x = true ∨ X.env.scope.names.lookup x = some .local := by first | exact .inl rfl | exact .inr rfl | assumption) (hfy : X.fn y = true ∨ X.env.scope.names.lookup y = some .local := by first | exact .inl rfl | exact .inr rfl | assumption) :
    OG X (.Tuple [.Name x px, .Name y py] k pos) (fun d ρ ω S => ∃ d1 d2, d = .list [d1, d2] ∧ S ((ρ.set i (some d1)).set j (some d2)) ((ω.set i .no).set j .no)) :=
  (pg_unl hc (pgs_cons (pg_name hN hi hx hfx) (pgs_cons (pg_name hN hj hy hfy) pgs_nil))).imp fun v σ H Q ⟨F, hot, κ, ρ, ω, d, S, g, r, ⟨d1, d2, e, h⟩, kk⟩ => by
    subst e
    obtain ⟨a, vs, rfl, ha, hs⟩ := r
    obtain ⟨v1, r1, rfl, q1, v2, r2, rfl, q2, e⟩ := hs
    have e : r2 = [] := e
    subst e
    exact ⟨a, _, rfl, SqL.of (cold_same _ _ ha), rfl, v1, _, rfl, v2, _, rfl, rfl, kk _ _ _ h ((g.setC i q1).setC j q2)⟩
theorem os_asg {tg e : Expr} {r : RO} {g : OGt} (he : OE X e r) (hg : OG X tg g) (hs : swapsWithSole [tg] e pos.line X.env = pure false := by rfl) (hw : swappedStores [tg] e X.env = pure none := by rfl)
    (h1 : (assignEach [tg] X.env).map (·.2) = [assign tg X.env] := by rfl) : OS X (.Assign [tg] e pos) (fun De ρ ω => r ρ ω fun d ω1 => g d ρ ω1 De.nx) :=
  (ps_asg he hg hs hw h1).imp fun D σ H ⟨F, hot, κ, ρ, ω, De, g, h, l⟩ =>
    ⟨F, hot, κ, ρ, ω, _, g, h, fun d ω1 v H1 h1 g1 s1 r1 => ⟨F, hot, κ, ρ, ω1, d, _, g1, r1, h1, fun ρ' ω' σ' h2 g2 => l.nx _ _ _ _ _ _ h2 g2⟩⟩
end
/-! ### what is walked -/
def Gw (hot : Hot) (J : It) (ds : List PyData) (H1 : Hp) : Prop := ∀ (hot' : Hot) (H2 : Hp), Same (cold hot H1) (cold hot' H2) → Alc hot' H2 →
  (∀ (i : Nat) (d : PyData), ds[i]? = some d → J.go i H2 ∧ ∀ x H3, J.yld i H2 x H3 → Same H2 H3 ∧ Rp (cold hot' H3) d x) ∧ ∀ i : Nat, ds.length ≤ i → J.stop i H2
abbrev ROI := DEnv → Om → (List PyData → Om → Prop) → Prop
def iO (r : ROI) : TI := fun σ H R => ∃ F hot κ ρ ω S, Gd F hot κ σ H ρ ω ∧ r ρ ω S ∧ ∀ ds ω' J H', S ds ω' → Gd F hot κ σ H' ρ ω' → Gw hot J ds H' → R J H'
def OI (X : Cx) (tg it : Expr) (r : ROI) : Prop := PI X tg it (iO r)
section
variable {X : Cx} {tg e : Expr} {r : RO} {rd : RD} {pos p tpos : Pos}
theorem gw_list {K : PySem.W.Frag} {hot : Hot} {H : Hp} {a : Addr} {vs : List V} {ds : List PyData} (ha : cold hot H a = some (.lst vs)) (hs : RpAll (cold hot H) ds vs) : Gw hot (Itl K a) ds H := fun hot' H2 s al => by
  have h2 := cold_same _ _ (s _ _ ha)
  refine ⟨fun i d hd => ?_, fun i hi => ⟨vs, SqL.of h2, by rw [hs.length]; exact hi⟩⟩
  obtain ⟨v, q1, q2⟩ := hs.at hd
  refine ⟨⟨vs, v, SqL.of h2, q1⟩, fun x H3 y => ?_⟩
  obtain ⟨e, y⟩ := y
  subst e
  have q := y vs (SqL.of h2)
  rw [q1] at q
  cases q
  exact ⟨Same.refl _, Rp.mono s _ _ q2⟩
theorem gw_tup {K : PySem.W.Frag} {hot : Hot} {H : Hp} {a : Addr} {vs : List V} {ds : List PyData} (ha : cold hot H a = some (.tup vs)) (hs : RpAll (cold hot H) ds vs) : Gw hot (Itt K a) ds H := fun hot' H2 s al => by
  have h2 := cold_same _ _ (s _ _ ha)
  refine ⟨fun i d hd => ?_, fun i hi => ⟨vs, SqT.of h2, by rw [hs.length]; exact hi⟩⟩
  obtain ⟨v, q1, q2⟩ := hs.at hd
  refine ⟨⟨vs, v, SqT.of h2, q1⟩, fun x H3 y => ?_⟩
  obtain ⟨e, y⟩ := y
  subst e
  have q := y vs (SqT.of h2)
  rw [q1] at q
  cases q
  exact ⟨Same.refl _, Rp.mono s _ _ q2⟩
theorem oi_list (h : OE X e r) : OI X tg e (fun ρ ω S => r ρ ω fun d ω1 => ∃ ds, d = .list ds ∧ S ds ω1) := (pi_list h).imp fun σ H R ⟨F, hot, κ, ρ, ω, S, g, h, k⟩ =>
  ⟨F, hot, κ, ρ, ω, _, g, h, fun d ω1 v H1 ⟨ds, e, h1⟩ g1 s1 r1 => by
    subst e
    obtain ⟨a, vs, rfl, ha, hs⟩ := r1
    exact ⟨a, rfl, ⟨vs, SqL.of (cold_same _ _ ha)⟩, k _ _ _ _ h1 g1 (gw_list ha hs)⟩⟩
theorem oi_tup (h : OE X e r) : OI X tg e (fun ρ ω S => r ρ ω fun d ω1 => ∃ ds, d = .tuple ds ∧ S ds ω1) := (pi_tup h).imp fun σ H R ⟨F, hot, κ, ρ, ω, S, g, h, k⟩ =>
  ⟨F, hot, κ, ρ, ω, _, g, h, fun d ω1 v H1 ⟨ds, e, h1⟩ g1 s1 r1 => by
    subst e
    obtain ⟨a, vs, rfl, ha, hs⟩ := r1
    exact ⟨a, rfl, ⟨vs, SqT.of (cold_same _ _ ha)⟩, k _ _ _ _ h1 g1 (gw_tup ha hs)⟩⟩
theorem gw_rng {hot : Hot} {H : Hp} {lo : Int} {n : Nat} : Gw hot (Itr lo n) (rngD lo n) H := fun hot' H2 s al => by
  refine ⟨fun i d hd => ?_, fun i hi => by rw [rngD_len] at hi; exact hi⟩
  have hi : i < n := by
    have := (List.getElem?_eq_some_iff.mp hd).1
    rwa [rngD_len] at this
  refine ⟨hi, fun x H3 y => ?_⟩
  obtain ⟨e, y⟩ := y
  subst e y
  unfold rngD at hd
  rw [List.getElem?_map, List.getElem?_range hi] at hd
  cases hd
  exact ⟨Same.refl _, rfl⟩
theorem oi_range1 (hg : Gl X "range") (hm : X.mg "range" = none) (h : DE X e rd) (hs : starEach [e] X.env = [(false, eval e X.env)] := by rfl) : OI X tg (.Call (.Name "range" p) [e] [] pos) (fun ρ ω S => ∃ n : Nat, rd ρ (.int n) ∧ n ≤ 1000000 ∧ S (rngD 0 n) ω) :=
  (pi_range1 hg hm (pa_cons h pa_nil hs) hs).imp fun σ H R ⟨F, hot, κ, ρ, ω, S, g, ⟨n, h1, h2, h3⟩, k⟩ =>
    ⟨hot, ρ, .int n, g.al, g.rs, h1, fun x H1 s1 r1 => by
      have e : x = V.int n := r1
      subst e
      exact ⟨n, rfl, by omega, by omega, k _ _ _ _ h3 (g.mono s1) gw_rng⟩⟩
theorem gw_enumT {K : PySem.W.Frag} {hot : Hot} {H : Hp} {a : Addr} {vs : List V} {ds : List PyData} (ha : cold hot H a = some (.tup vs)) (hs : RpAll (cold hot H) ds vs) : Gw hot (IteT K a) (enumD ds) H := fun hot' H2 s al => by
  have hq := cold_same _ _ (s _ _ ha)
  refine ⟨fun i d hd => ?_, fun i hi => ⟨vs, SqT.of hq, by rw [hs.length]; rw [enumD_len] at hi; exact hi⟩⟩
  obtain ⟨d', hd', rfl⟩ := enumD_at hd
  obtain ⟨v, h1, h2⟩ := hs.at hd'
  refine ⟨⟨vs, v, SqT.of hq, h1⟩, fun x H3 y => ?_⟩
  obtain ⟨T, z, rfl, hT, rfl, y⟩ := y
  have q := y vs (SqT.of hq)
  rw [h1] at q
  cases q
  refine ⟨same_new hT _, T, _, rfl, cold_new al hT, .int (i : Int), _, rfl, rfl, v, [], rfl, ?_, rfl⟩
  exact Rp.mono (s.trans (cold_mono (same_new hT _))) _ _ h2
theorem oi_enumT {elts : List Expr} {kk : Nat} (hg : Gl X "enumerate") (hm : X.mg "enumerate" = none) (h : DE X e rd) (hs : starEach [e] X.env = [(false, eval e X.env)] := by rfl) : OI X (.Tuple elts kk tpos) (.Call (.Name "enumerate" p) [e] [] pos) (fun ρ ω S => ∃ es, rd ρ (.tuple es) ∧ S (enumD es) ω) :=
  (pi_enumT hg hm (pa_cons h pa_nil hs) hs).imp fun σ H R ⟨F, hot, κ, ρ, ω, S, g, ⟨es, h1, h2⟩, k⟩ =>
    ⟨hot, ρ, .tuple es, g.al, g.rs, h1, fun x H1 s1 r1 => by
      obtain ⟨a, vs, rfl, ha, hs⟩ := r1
      exact ⟨a, vs, rfl, SqT.of (cold_same _ _ ha), k _ _ _ _ h2 (g.mono s1) (gw_enumT ha hs)⟩⟩
end
/-! ### for, while -/
theorem Gd.frame {F F' : Frm} {hot : Hot} {κ : Nat → Addr} {σ : Sg} {H : Hp} {ρ : DEnv} {ω : Om} (g : Gd F hot κ σ H ρ ω) (h1 : F'.hot = F.hot) (h2 : F'.fix = F.fix) (h3 : F'.pp = F.pp) (h4 : Same F'.cs (cold hot H)) : Gd F' hot κ σ H ρ ω :=
  ⟨g.al, g.rs, g.lo, fun i e a b => by rw [h2]; exact g.pl i e a b, fun i ds a => by rw [h1]; exact g.ow i ds a, g.inj, fun a b => g.sub a (by rw [← h1]; exact b), by rw [h2]; exact g.fx, h4, fun p a => by rw [h1, h2]; exact g.pp p (by rw [← h3]; exact a)⟩
section
variable {X : Cx} {tg it c : Expr} {body : List Stmt} {pos : Pos} {r : ROI} {g : OGt} {t : OTS} {tc : ROT}
theorem os_for (hp : PassesOwn (model X.prog X.w) X.A X.env X.xe) (hi : OI X tg it r) (hg : OG X tg g) (hb : OSs X body t) (hc : X.calm = true := by rfl) (hs : ∀ x, foldedSetIterable it X.env x = pure x := by intro _; rfl) :
    OS X (.For tg it body [] pos) (fun De ρ ω => r ρ ω fun ds ω1 => ∃ W : Nat → OP, W 0 ρ ω1 ∧ (∀ (i : Nat) (d : PyData) (ρ : DEnv) (ω : Om), ds[i]? = some d → W i ρ ω → g d ρ ω (t { De with nx := W (i + 1), ct := W (i + 1), bk := De.nx })) ∧ ∀ ρ ω, W ds.length ρ ω → De.nx ρ ω) :=
  (ps_for hp hc hi hg hb hs).imp fun D σ H ⟨F, hot, κ, ρ, ω, De, g0, h, l⟩ => by
    refine ⟨F, hot, κ, ρ, ω, _, g0, h, fun ds ω1 J H1 ⟨W, w0, turn, done⟩ g1 gw => ?_⟩
    -- what is cold here stays
    generalize hF1 : ({ F with cs := cold hot H1 } : Frm) = F1
    have f1 : F1.hot = F.hot := by rw [← hF1]
    have f2 : F1.fix = F.fix := by rw [← hF1]
    have f3 : F1.pp = F.pp := by rw [← hF1]
    have f4 : F1.cs = cold hot H1 := by rw [← hF1]
    have back : ∀ {hot' κ' σ' H' ρ' ω'}, Gd F1 hot' κ' σ' H' ρ' ω' → Gd F hot' κ' σ' H' ρ' ω' := fun g => g.frame f1.symm f2.symm f3.symm (g1.cs.trans (by rw [← f4]; exact g.cs))
    refine ⟨fun i m σ' H' => m = ds.length - i ∧ i ≤ ds.length ∧ ∃ hot' κ' ρ' ω', Gd F1 hot' κ' σ' H' ρ' ω' ∧ W i ρ' ω', ⟨_, rfl, Nat.zero_le _, hot, κ, ρ, ω1, g1.frame f1 f2 f3 (by rw [f4]; exact Same.refl _), w0⟩, ?_⟩
    rintro i m σ2 H2 ⟨rfl, hi, hot2, κ2, ρ2, ω2, g2, w2⟩
    obtain ⟨go, stop⟩ := gw hot2 H2 (by rw [← f4]; exact g2.cs) g2.al
    by_cases hlt : i < ds.length
    · obtain ⟨q1, q2⟩ := go i _ (List.getElem?_eq_getElem hlt)
      refine .inr ⟨q1, fun σ' H' => ∃ hot' κ' ρ' ω', Gd F1 hot' κ' σ' H' ρ' ω' ∧ W (i + 1) ρ' ω', fun σ' H' ⟨a, b, c, d, g', w'⟩ => ⟨ds.length - (i + 1), by omega, rfl, hlt, a, b, c, d, g', w'⟩, fun x H3 y => ?_⟩
      obtain ⟨s3, rx⟩ := q2 x H3 y
      refine ⟨F1, hot2, κ2, ρ2, ω2, _, _, g2.mono s3, rx, turn i _ ρ2 ω2 (List.getElem?_eq_getElem hlt) w2, fun ρ4 ω4 σ4 h4 g4 => ?_⟩
      exact ⟨F1, hot2, κ2, ρ4, ω4, _, g4, h4, ⟨fun a b c d e f h g' => ⟨a, b, c, d, g', h⟩, fun a b c d e f v h' hr g' rp => l.rt _ _ _ _ _ _ _ _ hr (back g') rp, fun a b c d e f h g' => l.nx _ _ _ _ _ _ h (back g'), fun a b c d e f h g' => ⟨a, b, c, d, g', h⟩⟩⟩
    · have e : i = ds.length := by omega
      subst e
      exact .inl ⟨stop _ (Nat.le_refl _), l.nx _ _ _ _ _ _ (done ρ2 ω2 w2) (back g2)⟩
theorem os_while (hp : PassesOwn (model X.prog X.w) X.A X.env X.xe) (hc : OT X c tc) (hb : OSs X body t) : OS X (.While c body [] pos) (fun De ρ ω => ∃ W : Nat → OP, (∃ m, W m ρ ω) ∧ ∀ m ρ ω, W m ρ ω → tc ρ ω fun b ω1 => if b = true then t { De with nx := fun ρ ω => ∃ m', m' < m ∧ W m' ρ ω, ct := fun ρ ω => ∃ m', m' < m ∧ W m' ρ ω, bk := De.nx } ρ ω1 else De.nx ρ ω1) :=
  (ps_while hp hc hb).imp fun D σ H ⟨F, hot, κ, ρ, ω, De, g0, ⟨W, ⟨m0, w0⟩, turn⟩, l⟩ => by
    refine ⟨fun m σ' H' => ∃ hot' κ' ρ' ω', Gd F hot' κ' σ' H' ρ' ω' ∧ W m ρ' ω', ⟨m0, hot, κ, ρ, ω, g0, w0⟩, ?_⟩
    rintro m σ2 H2 ⟨hot2, κ2, ρ2, ω2, g2, w2⟩
    refine ⟨F, hot2, κ2, ρ2, ω2, _, g2, turn m ρ2 ω2 w2, fun b ω3 H3 h3 g3 s3 => ?_⟩
    cases b with
    | true =>
      rw [if_pos rfl] at h3 ⊢
      refine ⟨fun σ' H' => ∃ hot' κ' ρ' ω', Gd F hot' κ' σ' H' ρ' ω' ∧ ∃ m', m' < m ∧ W m' ρ' ω', fun σ' H' ⟨a, b, c, d, g', m', hm, w'⟩ => ⟨m', hm, a, b, c, d, g', w'⟩, ?_⟩
      exact ⟨F, hot2, κ2, ρ2, ω3, _, g3, h3, ⟨fun a b c d e f h g' => ⟨a, b, c, d, g', h⟩, l.rt, l.nx, fun a b c d e f h g' => ⟨a, b, c, d, g', h⟩⟩⟩
    | false =>
      rw [if_neg Bool.false_ne_true] at h3 ⊢
      exact l.nx _ _ _ _ _ _ h3 g3
end
/-! ### defs -/
def startO (N : List Str) (ds : List PyData) : DEnv := none :: startD N.tail ds
def noOm (N : List Str) : Om := N.map fun _ => .no
def penOm (N : List Str) : Om := .pen :: N.tail.map fun _ => .no
theorem startD_len {N : List Str} {ds : List PyData} (h : ds.length ≤ N.length) : (startD N ds).length = N.length := by
  unfold startD
  rw [List.length_append, List.length_map, List.length_replicate]
  omega
section
variable {P : Program} {w : World} {K : PySem.W.Frag} {mg : Str → Option Value} {base : Heap}
theorem noOm_at {N : List Str} {i : Nat} {e : Ent} (h : (noOm N)[i]? = some e) : e = .no := by
  obtain ⟨_, _, q⟩ := List.mem_map.mp (List.mem_of_getElem? h)
  exact q.symm
/-- a def that owns lists, by trees -/
theorem fn_Oc {x : Str} {st : Stmt} {f : Addr} {fd : FuncData} {N ps : List Str} {k : Nat} {R : List PyData → PyData → Prop} (F : FnP K x st f fd) (S : FnScope N ps (defScope st)) (len : ∀ ds d, R ds d → ds.length = ps.length) (hpn : ps.length ≤ N.length)
    (hb : ∀ (cdv : Value) (A : Around) (outer : List Env) (s : Shared) (H : Hp) (E : XK), Room k (A.deeper (envOfC x (defScope st) s.heap.objs.size f cdv)) →
      ∃ t, OSs (cxOf CX0 P w K mg base N x (defScope st) f cdv A outer s H E).nox (defBody st) t ∧ ∀ ds d, R ds d → t { nx := fun _ _ => False, rt := fun d' => d' = d } (startD N ds) (noOm N)) : FnOk P w K mg base CX0 (k + 1) f fd ps (spR R) := by
  refine F.ok S (fun vs H Q E h => ?_) (fun cdv A outer s H vs Q E hr h => ?_)
  · obtain ⟨hot, ds, d, al, rp, hR, kk⟩ := h
    rw [rp.length]
    exact len _ _ hR
  · obtain ⟨hot, ds, d, al, rp, hR, kk⟩ := h
    obtain ⟨t, h1, h2⟩ := hb cdv A outer s H E hr
    have hl := len _ _ hR
    refine ⟨_, PSs.nox h1, ⟨hot, H, cold hot H, none⟩, hot, fun _ => 0, _, _, _, ⟨al, rs_start rp, ?_, fun i e q n => absurd (noOm_at q) n, fun i ds q => absurd (noOm_at q) (by simp), fun i j e e' q1 q2 n1 n2 _ => absurd (noOm_at q1) n1, fun _ h => h, Same.refl _, Same.refl _, fun p h => by cases h⟩, h2 ds d hR, ⟨fun _ _ _ _ _ _ z => z.elim, fun hot' κ' ρ' ω' σ' d' v H' e g' r => ?_, fun _ _ _ _ _ _ z => z.elim, fun _ _ _ _ _ _ z => z.elim⟩⟩
    · rw [startD_len (by omega)]
      unfold noOm
      rw [List.length_map]
    · have e : d' = d := e
      subst e
      exact kk v H' g'.fx (Rp.mono (cold_sub g'.sub) _ _ r)
/-- a def whose first parameter is a pen -/
theorem fn_O {x : Str} {st : Stmt} {f : Addr} {fd : FuncData} {n0 : Str} {N ps : List Str} {k : Nat} {Pre : List PyData → Prop} {Post : List PyData → PyData → Prop} (F : FnP K x st f fd) (S : FnScope (n0 :: N) ps (defScope st)) (len : ∀ ds, Pre ds → ds.length + 1 = ps.length) (hpn : ps.length ≤ N.length + 1)
    (hb : ∀ (cdv : Value) (A : Around) (outer : List Env) (s : Shared) (H : Hp) (E : XK), Room k (A.deeper (envOfC x (defScope st) s.heap.objs.size f cdv)) →
      ∃ t, OSs (cxOf CX0 P w K mg base (n0 :: N) x (defScope st) f cdv A outer s H E).nox (defBody st) t ∧ ∀ ds, Pre ds → t { nx := fun _ _ => False, rt := Post ds } (none :: startD N ds) (.pen :: noOm N)) : FnOk P w K mg base CX0 (k + 1) f fd ps (spP Pre Post) := by
  refine F.ok S (fun vs H Q E h => ?_) (fun cdv A outer s H vs Q E hr h => ?_)
  · obtain ⟨hot, p, us, ds, e, hp, al, pa, rp, hP, kk⟩ := h
    rw [e, List.length_cons, rp.length]
    exact len _ hP
  · obtain ⟨hot, p, us, ds, e, hp, al, pa, rp, hP, kk⟩ := h
    subst e
    obtain ⟨t, h1, h2⟩ := hb cdv A outer s H E hr
    have hl := len _ hP
    have st0 : L2.start (n0 :: N) (.ref p :: us) = some (.ref p) :: L2.start N us := by
      unfold L2.start
      rw [List.map_cons, List.cons_append, List.length_cons, List.length_cons]
      have e : N.length + 1 - (us.length + 1) = N.length - us.length := by omega
      rw [e]
    have rs0 := rs_start (N := N) rp
    rw [← st0.symm] at *
    have on : ∀ {i : Nat} {e : Ent}, (Ent.pen :: noOm N)[i]? = some e → e ≠ .no → i = 0 ∧ e = .pen := fun {i e} q n => by
      cases i with
      | zero => exact ⟨rfl, (Option.some.inj q).symm⟩
      | succ i => exact absurd (noOm_at q) n
    refine ⟨_, PSs.nox h1, ⟨hot, fun b => if b = p then none else H b, cold hot H, some p⟩, hot, fun _ => p, none :: startD N ds, .pen :: noOm N, _, ⟨al, ⟨?_, fun i d q => ?_⟩, ?_, fun i e q n => ?_, fun i ds q => ?_, fun i j e e' q1 q2 n1 n2 hij => ?_, fun _ h => h, fun b u q => ?_, Same.refl _, fun q h => ?_⟩, h2 ds hP, ⟨fun _ _ _ _ _ _ z => z.elim, fun hot' κ' ρ' ω' σ' d' v H' e g' r => ?_, fun _ _ _ _ _ _ z => z.elim, fun _ _ _ _ _ _ z => z.elim⟩⟩
    · rw [List.length_cons, List.length_cons, rs0.1]
    · cases i with
      | zero => cases q
      | succ i => exact rs0.2 i d q
    · rw [List.length_cons, List.length_cons, startD_len (by omega)]
      unfold noOm
      rw [List.length_map]
    · obtain ⟨rfl, rfl⟩ := on q n
      exact ⟨rfl, hp, if_pos rfl, pa⟩
    · have := (on q (by simp)).2
      cases this
    · exact absurd ((on q1 n1).1.trans (on q2 n2).1.symm) hij
    · have q : (if b = p then none else H b) = some u := q
      by_cases z : b = p
      · rw [if_pos z] at q; cases q
      · rw [if_neg z] at q; exact q
    · cases h
      exact ⟨pa, hp, if_pos rfl⟩
    · refine kk d' v H' e (fun b u n q => g'.fx b u ?_) (g'.pp p rfl).1 (Rp.mono (cold_sub g'.sub) _ _ r)
      show (if b = p then none else H b) = some u
      rw [if_neg n]
      exact q
end
end Rng
namespace Rng
open PySem PySem.Spec PyProof.Rows L2
section
variable {X : Cx} {e a b : Expr} {es : List Expr} {pos : Pos} {r : RD} {ra rc : RO} {rs : ROA}
theorem de_neg (ha : DE X a r) : DE X (.UnaryOp .USub a pos) (fun ρ d => ∃ i, r ρ (.int i) ∧ d = .int (-i)) := (pe_un un_neg ha).imp fun σ H Q ⟨hot, ρ, d, al, rs, ⟨i, h1, e⟩, k⟩ => by
  subst e
  exact ⟨hot, ρ, .int i, al, rs, h1, fun v H1 s1 r1 => ⟨i, r1, k _ _ s1 rfl⟩⟩
theorem int_two {H : Hp} {i j : Int} {xs : List V} (h : RpAll H [.int i, .int j] xs) : xs = [.int i, .int j] := RpAll.ints (ns := [i, j]) h
abbrev RMax : List PyData → PyData → Prop := fun ds d => ∃ i j : Int, ds = [.int i, .int j] ∧ d = .int (if j > i then j else i)
abbrev RMin : List PyData → PyData → Prop := fun ds d => ∃ i j : Int, ds = [.int i, .int j] ∧ d = .int (if j < i then j else i)
theorem vc_max : VCall (fun xs H Q => ∃ i j, xs = [.int i, .int j] ∧ Q (.int (if j > i then j else i)) H) RMax := fun hot H xs Q ds d al rp ⟨i, j, e, e2⟩ k => by
  subst e e2
  exact ⟨i, j, int_two rp, k.now rfl⟩
theorem vc_min : VCall (fun xs H Q => ∃ i j, xs = [.int i, .int j] ∧ Q (.int (if j < i then j else i)) H) RMin := fun hot H xs Q ds d al rp ⟨i, j, e, e2⟩ k => by
  subst e e2
  exact ⟨i, j, int_two rp, k.now rfl⟩
theorem ot_cmp {op : CmpOp} {rr : R2} {R : PyData → PyData → PyData → Prop} (ho : OpR X (compareOp op) rr) (v : VOp rr R) (ha : OE X a ra) (hb : OE X b rc) (hm : behindInMarks op b = false) : OT X (.Compare a [op] [b] pos) (fun ρ ω S => ra ρ ω fun d1 ω1 => rc ρ ω1 fun d2 ω2 => ∃ k, R d1 d2 (.bool k) ∧ S k ω2) :=
  (pt_cmpR ho ha hb hm).imp fun σ H Q ⟨F, hot, κ, ρ, ω, S, g, hr, k⟩ => by
    refine ⟨F, hot, κ, ρ, ω, _, g, hr, fun d1 ω1 x H1 h1 g1 s1 r1 => ⟨F, hot, κ, ρ, ω1, _, g1, h1, fun d2 ω2 y H2 ⟨kk, hR, hS⟩ g2 s2 r2 => ?_⟩⟩
    exact v hot H2 x y _ d1 d2 (.bool kk) g2.al (Rp.mono s2 _ _ r1) r2 hR fun z H3 s3 r3 => ⟨kk, r3, k _ _ _ hS (g2.mono s3) ((s1.trans s2).trans (cold_mono s3))⟩
/-- a def without a pen whose result is one of several -/
def spQ (Pre : List PyData → Prop) (Post : List PyData → PyData → Prop) : Sp := fun vs H Q _ => ∃ hot ds, Alc hot H ∧ RpAll (cold hot H) ds vs ∧ Pre ds ∧ ∀ d v H', Post ds d → Same H H' → Rp (cold hot H') d v → Q v H'
theorem oe_dem {k j : Nat} {x : Str} {ps : List Str} {Pre : List PyData → Prop} {Post : List PyData → PyData → Prop} {p : Pos} (C : CalS X.prog X.w X.K X.mg X.base k x ps (spQ Pre Post)) (hr : Room j X.A) (hj : k ≤ j) (hg : Gl X x) (ha : OA X (e :: es) rs)
    (hdb : (x == ("__debug__" : Str)) = false := by decide) (he : starEach (e :: es) X.env = (false, eval e X.env) :: starEach es X.env := by rfl) (hpl : (backTo pos (starEach es X.env)).any (·.1) = false := by rfl) :
    OE X (.Call (.Name x p) (e :: es) [] pos) (fun ρ ω S => rs ρ ω fun ds ω1 => Pre ds ∧ ∀ d, Post ds d → S d ω1) := (pe_cal C hr hj hg ha hdb he hpl).imp fun σ H Q ⟨F, hot, κ, ρ, ω, S, g, hr, k⟩ =>
  ⟨F, hot, κ, ρ, ω, _, g, hr, fun ds ω1 vs H1 ⟨hP, hS⟩ g1 s1 r1 => by
    show spQ Pre Post (vs ++ []) H1 Q E0
    rw [List.append_nil]
    exact ⟨hot, ds, g1.al, r1, hP, fun d v H2 hd s2 r2 => k _ _ _ _ (hS d hd) (g1.mono s2) (s1.trans (cold_mono s2)) r2⟩⟩
end
/-- .. proved -/
theorem fn_Od {P : Program} {w : World} {K : PySem.W.Frag} {mg : Str → Option Value} {base : Heap} {x : Str} {st : Stmt} {f : Addr} {fd : FuncData} {N ps : List Str} {k : Nat} {Pre : List PyData → Prop} {Post : List PyData → PyData → Prop} (F : FnP K x st f fd) (S : FnScope N ps (defScope st)) (len : ∀ ds, Pre ds → ds.length = ps.length) (hpn : ps.length ≤ N.length)
    (hb : ∀ (cdv : Value) (A : Around) (outer : List Env) (s : Shared) (H : Hp) (E : XK), Room k (A.deeper (envOfC x (defScope st) s.heap.objs.size f cdv)) →
      ∃ t, OSs (cxOf CX0 P w K mg base N x (defScope st) f cdv A outer s H E).nox (defBody st) t ∧ ∀ ds, Pre ds → t { nx := fun _ _ => False, rt := Post ds } (startD N ds) (noOm N)) : FnOk P w K mg base CX0 (k + 1) f fd ps (spQ Pre Post) := by
  refine F.ok S (fun vs H Q E h => ?_) (fun cdv A outer s H vs Q E hr h => ?_)
  · obtain ⟨hot, ds, al, rp, hP, kk⟩ := h
    rw [rp.length]
    exact len _ hP
  · obtain ⟨hot, ds, al, rp, hP, kk⟩ := h
    obtain ⟨t, h1, h2⟩ := hb cdv A outer s H E hr
    have hl := len _ hP
    refine ⟨_, PSs.nox h1, ⟨hot, H, cold hot H, none⟩, hot, fun _ => 0, _, _, _, ⟨al, rs_start rp, ?_, fun i e q n => absurd (noOm_at q) n, fun i ds q => absurd (noOm_at q) (by simp), fun i j e e' q1 q2 n1 n2 _ => absurd (noOm_at q1) n1, fun _ h => h, Same.refl _, Same.refl _, fun p h => by cases h⟩, h2 ds hP, ⟨fun _ _ _ _ _ _ z => z.elim, fun hot' κ' ρ' ω' σ' d' v H' e g' r => ?_, fun _ _ _ _ _ _ z => z.elim, fun _ _ _ _ _ _ z => z.elim⟩⟩
    · rw [startD_len (by omega)]
      unfold noOm
      rw [List.length_map]
    · exact kk d' v H' e g'.fx (Rp.mono (cold_sub g'.sub) _ _ r)
/-! ### a comprehension over a list of ours -/
section
variable {X : Cx} {elt tg : Expr} {ifs : List Expr} {scope : Scope} {own : List (Str × Nat)} {pos ip : Pos} {gs : List Nat} {g : DGt} {tt : RB} {re : RD}
theorem oe_lcOwn {k : Nat} {x : Str} (hc : X.calm = true) (hN : X.N.Nodup) (ok : BlkOk X.N X.env.scope scope own)
    (hg : ∀ (s : Shared) (H : Hp) (C : Addr) (cl : List (Str × Addr)) (fp : List Addr), DG (X.blk s H scope (compEnvC scope cl C X.env) fp) tg gs g) (ht : ∀ (s : Shared) (H : Hp) (C : Addr) (cl : List (Str × Addr)) (fp : List Addr), PTs (X.blk s H scope (compEnvC scope cl C X.env) fp) ifs (tDT tt))
    (he : ∀ (s : Shared) (H : Hp) (C : Addr) (cl : List (Str × Addr)) (fp : List Addr), DE (X.blk s H scope (compEnvC scope cl C X.env) fp) elt re)
    (hx : X.N[k]? = some x := by rfl) (hv : Vis X.env.scope x := by first | exact Or.inl rfl | exact Or.inr (Or.inl rfl) | exact Or.inr (Or.inr rfl)) (hd : (x == ("__debug__" : Str)) = false := by decide) (hcd : (x == ("__classdict__" : Str)) = false := by decide)
    (hgs : ∀ k ∈ gs, k ∈ own.map (·.2) := by decide) (hs : ∀ y, foldedSetIterable (.Name x ip) X.env y = pure y := by intro _; rfl) :
    OE X (.ListComp elt [⟨tg, .Name x ip, ifs, 0⟩] scope pos) (fun ρ ω S => ∃ ds os, ω[k]? = some (.own ds) ∧ ds.length ≤ 1000000 ∧ LcAll g tt re (wipeD ρ (own.map (·.2))) ds os ∧ S (.list os) ω) :=
  (pe_lc hc hN (pi_list (pe_var hx hv hd hcd)) ok hg ht he hs).imp fun σ H Q ⟨F, hot, κ, ρ, ω, S, gd, ⟨ds, os, hi, hz, hL, hS⟩, kk⟩ => by
    obtain ⟨h1, h2, h3, vs, h4, h5⟩ := gd.pl k _ hi (by simp)
    exact ⟨_, h1, κ k, rfl, ⟨vs, SqL.of h4⟩, lc_gv hgs gd.al gd.rs hz hL (fun v H' s rp => kk _ _ _ _ hS (gd.mono s) (cold_mono s) rp) _ H (Same.refl H) (gv_list h4 h5)⟩
end
end Rng
namespace Rng
open PySem PySem.Spec PyProof.Rows L2
/-! ### draws -/
theorem upd_upd {H : Hp} {p : Addr} {a b : HO} : upd (upd H p a) p b = upd H p b := by
  funext q
  by_cases e : q = p
  · rw [e, upd_same, upd_same]
  · rw [upd_ne e, upd_ne e, upd_ne e]
theorem cmod1 (a c : Int) : CMul (a % 2147483647) c := .inl ⟨by have := Int.emod_nonneg a (show (2147483647 : Int) ≠ 0 by decide); omega, by have := Int.emod_lt_of_pos a (show (0 : Int) < 2147483647 by decide); omega⟩
theorem cmod2 (a c : Int) : CMul (a % 2147483629) c := .inl ⟨by have := Int.emod_nonneg a (show (2147483629 : Int) ≠ 0 by decide); omega, by have := Int.emod_lt_of_pos a (show (0 : Int) < 2147483629 by decide); omega⟩
section
variable {P : Program} {w : World} {K : PySem.W.Frag} {mg : Str → Option Value} {base : Heap} {f : Addr} {fd : FuncData}
abbrev Pre_law_draw : List PyData → Prop := fun ds => ∃ m : Nat, 0 < m ∧ m ≤ 1000 ∧ ds = [eN m]
abbrev Post_law_draw : List PyData → PyData → Prop := fun ds d => ∃ m k : Nat, ds = [eN m] ∧ k < m ∧ d = eN k
abbrev N_law_draw : List Str := ["_law_pen_here", "_law_many", "_law_found", "_law_mixed_here"]
theorem sc_law_draw : FnScope N_law_draw ["_law_pen_here", "_law_many"] (defScope s_law_draw) := ⟨rfl, rfl, rfl, by decide +kernel, rfl, by decide +kernel, by decide +kernel⟩
theorem c_law_draw (h : Has K mg "_law_draw" s_law_draw f fd) : CalP P w K mg base 1 "_law_draw" ["_law_pen_here", "_law_many"] Pre_law_draw Post_law_draw := by
  refine CalS.mk' h (h.1.ok sc_law_draw (fun vs H Q E hh => ?_) (fun cdv A outer s H vs Q E hr hh => ?_)) (fun _ _ _ _ _ _ us hl => match us, hl with | [_, _], _ => rfl)
  · obtain ⟨hot, p, us, ds, rfl, _, _, _, rp, ⟨m, _, _, rfl⟩, _⟩ := hh
    rw [List.length_cons, rp.length]
    rfl
  · obtain ⟨hot, p, us, ds, rfl, hp, al, ⟨x, y, z, hH⟩, rp, ⟨m, h0, h1, rfl⟩, k⟩ := hh
    obtain ⟨v, rfl, rv⟩ := rp_one rp
    have e : v = V.int m := rv
    subst e
    refine ⟨_, PSs.nox (X := cxOf CX0 P w K mg base N_law_draw "_law_draw" (defScope s_law_draw) f cdv A outer s H E) (pss_cons (ps_if (pt_cmpR op_gt (pe_ix ix_list (pe_var (i := 0) rfl (Or.inl rfl)) pe_int (fun _ _ => rfl)) pe_int (nomark _)) (pss_cons (ps_set (i := 2) sc_law_draw.nd rfl (Or.inl rfl) (pe_op op_mod (pe_ix ix_list (pe_var (i := 0) rfl (Or.inl rfl)) pe_int (fun _ _ => rfl)) (pe_var (i := 1) rfl (Or.inl rfl))))
   (pss_cons (ps_asg (pe_op op_fdivW (pe_ix ix_list (pe_var (i := 0) rfl (Or.inl rfl)) pe_int (fun _ _ => rfl)) (pe_var (i := 1) rfl (Or.inl rfl))) (pg_sub (pe_var (i := 0) rfl (Or.inl rfl)) pe_int set_list))
   (pss_one (ps_ret (pe_var (i := 2) rfl (Or.inl rfl)))))) pss_nil)
   (pss_cons (ps_asg (pe_op op_add (pe_ix ix_list (pe_var (i := 0) rfl (Or.inl rfl)) pe_int (fun _ _ => rfl)) pe_int) (pg_sub (pe_var (i := 0) rfl (Or.inl rfl)) pe_int set_list))
   (pss_cons (ps_asg (pe_op op_mod (pe_op op_add (pe_op op_add (pe_op op_mul (pe_ix ix_list (pe_var (i := 0) rfl (Or.inl rfl)) pe_int (fun _ _ => rfl)) pe_int) (pe_op op_mul pe_int (pe_ix ix_list (pe_var (i := 0) rfl (Or.inl rfl)) pe_int (fun _ _ => rfl)))) pe_int) pe_int) (pg_sub (pe_var (i := 0) rfl (Or.inl rfl)) pe_int set_list))
   (pss_cons (ps_set (i := 3) sc_law_draw.nd rfl (Or.inl rfl) (pe_op op_mod (pe_op op_add (pe_op op_add (pe_op op_mul (pe_ix ix_list (pe_var (i := 0) rfl (Or.inl rfl)) pe_int (fun _ _ => rfl)) (pe_ix ix_list (pe_var (i := 0) rfl (Or.inl rfl)) pe_int (fun _ _ => rfl))) (pe_op op_mul pe_int (pe_ix ix_list (pe_var (i := 0) rfl (Or.inl rfl)) pe_int (fun _ _ => rfl)))) pe_int) pe_int))
   (pss_cons (ps_set (i := 3) sc_law_draw.nd rfl (Or.inl rfl) (pe_op op_mod (pe_op op_add (pe_op op_mul (pe_var (i := 3) rfl (Or.inl rfl)) (pe_var (i := 3) rfl (Or.inl rfl))) (pe_op op_mul pe_int (pe_var (i := 3) rfl (Or.inl rfl)))) pe_int))
   (pss_one (ps_ret (pe_op op_mod (pe_op op_fdivW (pe_var (i := 3) rfl (Or.inl rfl)) pe_int) (pe_var (i := 1) rfl (Or.inl rfl)))))))))), ?_⟩
    have hpos : (0 : Int) < (m : Int) := by omega
    have hdiv : CDivW 0 (m : Int) := wide_div (b := 64) hpos (by omega) (by decide) (by decide)
    have fin : ∀ (r : Int) xs, 0 ≤ r → r < (m : Int) → (∃ a b c : Int, xs = [V.int a, .int b, .int c]) → Q (.int r) (upd H p (.lst xs)) := fun r xs q1 q2 ⟨a, b, c, q3⟩ => by
      refine k (eN r.toNat) _ _ ⟨m, r.toNat, rfl, by omega, rfl⟩ (fun b u n e => by rw [upd_ne n]; exact e) ⟨a, b, c, by rw [upd_same, q3]⟩ ?_
      show V.int r = V.int (r.toNat : Int)
      rw [Int.toNat_of_nonneg q1]
    refine ⟨_, rfl, ⟨_, _, _, _, rfl, rfl, SqL.of hH, rfl, ⟨_, _, rfl, rfl, ⟨_, rfl, ?_⟩⟩⟩⟩
    cases hx : decide (x > 0) with
    | true =>
      rw [if_pos rfl]
      refine ⟨_, rfl, ⟨_, _, _, _, rfl, rfl, SqL.of hH, rfl, ⟨_, rfl, ⟨_, _, rfl, rfl, hpos, ?_⟩⟩⟩⟩
      refine ⟨_, rfl, ⟨_, _, _, _, rfl, rfl, SqL.of hH, rfl, ⟨_, rfl, ⟨_, _, rfl, rfl, hdiv, ?_⟩⟩⟩⟩
      refine ⟨_, rfl, ⟨_, _, _, _, rfl, rfl, hH, rfl, ?_⟩⟩
      refine ⟨_, rfl, ?_⟩
      exact fin _ _ (Int.emod_nonneg _ (by omega)) (Int.emod_lt_of_pos _ hpos) ⟨_, _, _, rfl⟩
    | false =>
      rw [if_neg Bool.false_ne_true]
      refine ⟨_, rfl, ⟨_, _, _, _, rfl, rfl, SqL.of hH, rfl, ⟨_, _, rfl, rfl, ?_⟩⟩⟩
      refine ⟨_, rfl, ⟨_, _, _, _, rfl, rfl, hH, rfl, ?_⟩⟩
      have hH1 : upd H p (.lst [V.int x, .int y, .int (z + 1)]) p = some (.lst [V.int x, .int y, .int (z + 1)]) := upd_same
      refine ⟨_, rfl, ⟨_, _, _, _, rfl, rfl, SqL.of hH1, rfl, ⟨_, _, rfl, rfl, .inr ⟨by decide, by decide⟩, ⟨_, rfl, ⟨_, _, _, _, rfl, rfl, SqL.of hH1, rfl, ⟨_, _, rfl, rfl, .inl ⟨by decide, by decide⟩, ⟨_, _, rfl, rfl, ⟨_, _, rfl, rfl, ⟨_, _, rfl, rfl, (show (0 : Int) < 2147483647 by decide), ?_⟩⟩⟩⟩⟩⟩⟩⟩⟩
      refine ⟨_, rfl, ⟨_, _, _, _, rfl, rfl, hH1, rfl, ?_⟩⟩
      have hmul : CMul ((y * 48271 + 1009 * (z + 1) + 7) % 2147483647) ((y * 48271 + 1009 * (z + 1) + 7) % 2147483647) := cmod1 _ _
      have hH2 : upd (upd H p (.lst [V.int x, .int y, .int (z + 1)])) p (.lst [V.int x, .int ((y * 48271 + 1009 * (z + 1) + 7) % 2147483647), .int (z + 1)]) p = some (.lst [V.int x, .int ((y * 48271 + 1009 * (z + 1) + 7) % 2147483647), .int (z + 1)]) := upd_same
      refine ⟨_, rfl, ⟨_, _, _, _, rfl, rfl, SqL.of hH2, rfl, ⟨_, rfl, ⟨_, _, _, _, rfl, rfl, SqL.of hH2, rfl, ⟨_, _, rfl, rfl, hmul, ⟨_, rfl, ⟨_, _, _, _, rfl, rfl, SqL.of hH2, rfl, ⟨_, _, rfl, rfl, .inl ⟨by decide, by decide⟩, ⟨_, _, rfl, rfl, ⟨_, _, rfl, rfl, ⟨_, _, rfl, rfl, (show (0 : Int) < 2147483629 by decide), ?_⟩⟩⟩⟩⟩⟩⟩⟩⟩⟩⟩
      refine ⟨_, rfl, ⟨_, rfl, ⟨_, _, rfl, rfl, cmod2 _ _, ⟨_, rfl, ⟨_, _, rfl, rfl, .inl ⟨by decide, by decide⟩, ⟨_, _, rfl, rfl, ⟨_, _, rfl, rfl, (show (0 : Int) < 2147483587 by decide), ?_⟩⟩⟩⟩⟩⟩⟩
      refine ⟨_, rfl, ⟨_, _, rfl, rfl, ⟨(show (0 : Int) < 16 by decide), (show Nat.log2 (Int.natAbs 16) < 9000 by decide)⟩, ⟨_, rfl, ⟨_, _, rfl, rfl, hpos, ?_⟩⟩⟩⟩
      have fin2 : ∀ (t : Int) a xs, (∃ a b c : Int, xs = [V.int a, .int b, .int c]) → Q (.int (t % (m : Int))) (upd (upd H p a) p (.lst xs)) := fun t a xs q => by
        rw [upd_upd]
        exact fin _ _ (Int.emod_nonneg _ (by omega)) (Int.emod_lt_of_pos _ hpos) q
      exact fin2 _ _ _ ⟨x, (y * 48271 + 1009 * (z + 1) + 7) % 2147483647, z + 1, rfl⟩
end
end Rng
namespace Rng
open PySem PySem.Spec PyProof.Rows L2
theorem atI_nat {α : Type} {xs : List α} {k : Nat} {x : α} (h : xs[k]? = some x) : atI xs (k : Int) = some x := by
  have hk := (List.getElem?_eq_some_iff.mp h).1
  unfold atI ixN
  rw [if_pos (by omega), if_pos (by omega)]
  exact h
theorem erase_perm {α : Type} : ∀ (l : List α) (k : Nat) (h : k < l.length), (l[k] :: l.eraseIdx k).Perm l
  | [], k, h => absurd h (Nat.not_lt_zero _)
  | x :: l, 0, h => List.Perm.refl _
  | x :: l, k + 1, h => by
    have hk : k < l.length := by rw [List.length_cons] at h; omega
    have ih := erase_perm l k hk
    show (l[k] :: x :: l.eraseIdx k).Perm (x :: l)
    exact (List.Perm.swap _ _ _).trans (ih.cons x)
section
variable {P : Program} {w : World} {K : PySem.W.Frag} {mg : Str → Option Value} {base : Heap} {f : Addr} {fd : FuncData}
abbrev Pre_law_pick : List PyData → Prop := fun ds => ∃ L : List PyData, L ≠ [] ∧ L.length ≤ 1000 ∧ ds = [.list L]
abbrev Post_law_pick : List PyData → PyData → Prop := fun ds d => ∃ L : List PyData, ds = [.list L] ∧ d ∈ L
abbrev N_law_pick : List Str := ["_law_pen_here", "_law_some"]
theorem sc_law_pick : FnScope N_law_pick ["_law_pen_here", "_law_some"] (defScope s_law_pick) := ⟨rfl, rfl, rfl, by decide +kernel, rfl, by decide +kernel, by decide +kernel⟩
theorem c_law_pick (T : Txt mg) (C_law_draw : CalP P w K mg base 1 "_law_draw" ["_law_pen_here", "_law_many"] Pre_law_draw Post_law_draw) (h : Has K mg "_law_pick" s_law_pick f fd) : CalP P w K mg base 2 "_law_pick" ["_law_pen_here", "_law_some"] Pre_law_pick Post_law_pick := by
  refine CalS.mk' h (fn_O h.1 sc_law_pick (fun ds ⟨L, _, _, e⟩ => by rw [e]; rfl) (by decide) (fun cdv A outer s H E hr => ⟨_, (oss_one (os_ret (oe_ixL (oe_pure (de_var 1)) (oe_pen (i := 0) C_law_draw hr (by decide) rfl (oa_cons (oe_pure (de_callB call_len_seq vc_len rfl T.len (by decide +kernel) (da_cons (de_var 1) da_nil))) oa_nil)) (fun _ _ => rfl)))), fun ds ⟨L, h0, h1, e⟩ => ?_⟩)) (fun _ _ _ _ _ _ us hl => match us, hl with | [_, _], _ => rfl)
  subst e
  have hl : L.length ≠ 0 := fun e => h0 (List.eq_nil_of_length_eq_zero e)
  refine ⟨_, rfl, rfl, _, ⟨_, ⟨_, _, rfl, rfl, rfl⟩, _, .inl rfl, rfl⟩, rfl, ⟨L.length, by omega, h1, rfl⟩, fun d ⟨m, k, e, hk, e2⟩ => ?_⟩
  subst e2
  have em : m = L.length := by
    have q : (L.length : Int) = (m : Int) := PyData.int.inj (List.cons.inj e).1
    omega
  subst em
  exact ⟨_, ⟨_, _, rfl, rfl, atI_nat (List.getElem?_eq_getElem hk)⟩, L, rfl, List.getElem_mem hk⟩
abbrev Pre_law_seats : List PyData → Prop := fun ds => ds = []
abbrev Post_law_seats : List PyData → PyData → Prop := fun ds d => ∃ n : Nat, 1 ≤ n ∧ n ≤ 8 ∧ d = eN n
abbrev N_law_seats : List Str := ["_law_pen_here"]
theorem sc_law_seats : FnScope N_law_seats ["_law_pen_here"] (defScope s_law_seats) := ⟨rfl, rfl, rfl, by decide +kernel, rfl, by decide +kernel, by decide +kernel⟩
theorem c_law_seats (T : Txt mg) (C_law_draw : CalP P w K mg base 1 "_law_draw" ["_law_pen_here", "_law_many"] Pre_law_draw Post_law_draw) (h : Has K mg "_law_seats" s_law_seats f fd) : CalP P w K mg base 2 "_law_seats" ["_law_pen_here"] Pre_law_seats Post_law_seats := by
  refine CalS.mk' h (fn_O h.1 sc_law_seats (fun ds e => by rw [e]; rfl) (by decide) (fun cdv A outer s H E hr => ⟨_, (oss_one (os_ret (oe_ixL (oe_pure (de_lst (da_cons de_int (da_cons de_int (da_cons de_int (da_cons de_int (da_cons de_int (da_cons de_int (da_cons de_int (da_cons de_int (da_cons de_int (da_cons de_int da_nil)))))))))))) (oe_pen (i := 0) C_law_draw hr (by decide) rfl (oa_cons (oe_pure de_int) oa_nil)) (fun _ _ => rfl)))), fun ds e => ?_⟩)) (fun _ _ _ _ _ _ us hl => match us, hl with | [_], _ => rfl)
  subst e
  refine ⟨.list [eN 8, eN 7, eN 8, eN 6, eN 5, eN 4, eN 3, eN 2, eN 1, eN 6], ⟨_, ⟨_, _, rfl, ⟨_, _, rfl, ⟨_, _, rfl, ⟨_, _, rfl, ⟨_, _, rfl, ⟨_, _, rfl, ⟨_, _, rfl, ⟨_, _, rfl, ⟨_, _, rfl, ⟨_, _, rfl, rfl, rfl⟩, rfl⟩, rfl⟩, rfl⟩, rfl⟩, rfl⟩, rfl⟩, rfl⟩, rfl⟩, rfl⟩, by show 10 ≤ sizeLine; decide, rfl⟩, rfl, _, rfl, rfl, ⟨10, by omega, by omega, rfl⟩, fun d ⟨m, k, e, hk, e2⟩ => ?_⟩
  subst e2
  have em : m = 10 := by
    have q : (10 : Int) = (m : Int) := PyData.int.inj (List.cons.inj e).1
    omega
  subst em
  match k, hk with
  | 0, _ => exact ⟨_, ⟨_, _, rfl, rfl, rfl⟩, 8, by omega, by omega, rfl⟩
  | 1, _ => exact ⟨_, ⟨_, _, rfl, rfl, rfl⟩, 7, by omega, by omega, rfl⟩
  | 2, _ => exact ⟨_, ⟨_, _, rfl, rfl, rfl⟩, 8, by omega, by omega, rfl⟩
  | 3, _ => exact ⟨_, ⟨_, _, rfl, rfl, rfl⟩, 6, by omega, by omega, rfl⟩
  | 4, _ => exact ⟨_, ⟨_, _, rfl, rfl, rfl⟩, 5, by omega, by omega, rfl⟩
  | 5, _ => exact ⟨_, ⟨_, _, rfl, rfl, rfl⟩, 4, by omega, by omega, rfl⟩
  | 6, _ => exact ⟨_, ⟨_, _, rfl, rfl, rfl⟩, 3, by omega, by omega, rfl⟩
  | 7, _ => exact ⟨_, ⟨_, _, rfl, rfl, rfl⟩, 2, by omega, by omega, rfl⟩
  | 8, _ => exact ⟨_, ⟨_, _, rfl, rfl, rfl⟩, 1, by omega, by omega, rfl⟩
  | 9, _ => exact ⟨_, ⟨_, _, rfl, rfl, rfl⟩, 6, by omega, by omega, rfl⟩
abbrev Pre_law_mixed : List PyData → Prop := fun ds => ∃ L : List PyData, L.length ≤ 1000 ∧ ds = [.list L]
abbrev Post_law_mixed : List PyData → PyData → Prop := fun ds d => ∃ L L' : List PyData, ds = [.list L] ∧ L'.Perm L ∧ d = .list L'
abbrev N_law_mixed : List Str := ["_law_pen_here", "_law_some", "_law_left", "_law_found", "_law_lap"]
theorem sc_law_mixed : FnScope N_law_mixed ["_law_pen_here", "_law_some"] (defScope s_law_mixed) := ⟨rfl, rfl, rfl, by decide +kernel, rfl, by decide +kernel, by decide +kernel⟩
theorem c_law_mixed (T : Txt mg) (C_law_draw : CalP P w K mg base 1 "_law_draw" ["_law_pen_here", "_law_many"] Pre_law_draw Post_law_draw) (h : Has K mg "_law_mixed" s_law_mixed f fd) : CalP P w K mg base 2 "_law_mixed" ["_law_pen_here", "_law_some"] Pre_law_mixed Post_law_mixed := by
  refine CalS.mk' h (fn_O h.1 sc_law_mixed (fun ds ⟨L, _, e⟩ => by rw [e]; rfl) (by decide) (fun cdv A outer s H E hr => ⟨_, (oss_cons (os_parFF (i := 2) (j := 3) rfl sc_law_mixed.nd rfl rfl (by decide) rfl rfl (of_list rfl T.list (de_var 1)) (by rfl))
      (oss_cons (os_for PassesOwn.never (oi_range1 rfl T.range (de_callB call_len_seq vc_len rfl T.len (by decide +kernel) (da_cons (de_var 1) da_nil))) (og_name (i := 4) sc_law_mixed.nd rfl (Or.inl rfl)) (oss_one (os_expr (oe_append (i := 3) (oe_popAt (i := 2) (oe_pen (i := 0) C_law_draw hr (by decide) rfl (oa_cons (oe_peek 2 (de_callB call_len_seq vc_len rfl T.len (by decide +kernel) (da_cons (de_var 2) da_nil))) oa_nil)))))))
      (oss_freeze 3 (oss_one (os_ret (oe_pure (de_var 3))))))), fun ds ⟨L, h1, e⟩ => ?_⟩)) (fun _ _ _ _ _ _ us hl => match us, hl with | [_, _], _ => rfl)
  subst e
  refine ⟨L, _, rfl, .inl rfl, by show 2 < 5; omega, by show 3 < 5; omega, ?_⟩
  refine ⟨L.length, ⟨_, ⟨_, _, rfl, rfl, rfl⟩, _, .inl rfl, rfl⟩, by omega, fun i ρ ω => ∃ o left found, ρ = [none, some (.list L), none, none, o] ∧ ω = [.pen, .no, .own left, .own found, .no] ∧ left.length + i = L.length ∧ found.length = i ∧ (found ++ left).Perm L, ⟨none, L, [], rfl, rfl, rfl, rfl, List.Perm.refl _⟩, ?_, ?_⟩
  · rintro i d ρ ω hd ⟨o, left, found, rfl, rfl, hl, hf, hp⟩
    obtain ⟨rfl, hi⟩ := rngD_at hd
    refine ⟨⟨_, rfl⟩, ⟨_, rfl⟩, rfl, _, _, rfl, ⟨_, ⟨_, _, rfl, rfl, rfl⟩, _, .inl rfl, rfl⟩, trivial, rfl, ⟨left.length, by omega, by omega, rfl⟩, fun d ⟨m, k, e, hk, e2⟩ => ?_⟩
    subst e2
    have em : m = left.length := by
      have q : (left.length : Int) = (m : Int) := PyData.int.inj (List.cons.inj e).1
      omega
    subst em
    refine ⟨left, k, _, rfl, rfl, by omega, List.getElem?_eq_getElem hk, found, rfl, by omega, some (eN i), left.eraseIdx k, found ++ [left[k]], rfl, rfl, ?_, by rw [List.length_append, List.length_singleton, hf], ?_⟩
    · rw [List.length_eraseIdx_of_lt hk]
      omega
    · refine List.Perm.trans ?_ hp
      rw [List.append_assoc]
      exact List.Perm.append_left _ (erase_perm left k hk)
  · rintro ρ ω ⟨o, left, found, rfl, rfl, hl, hf, hp⟩
    rw [rngD_len] at hl hf
    have e : left = [] := List.eq_nil_of_length_eq_zero (by omega)
    subst e
    rw [List.append_nil] at hp
    exact ⟨found, rfl, _, rfl, L, found, rfl, hp, rfl⟩
end
end Rng
/-! plain: crossing, deals, partings -/
namespace Rng
def Crs (a b : List Nat) : Prop := ∃ w x y z, w < x ∧ x < y ∧ y < z ∧ w ∈ a ∧ y ∈ a ∧ x ∈ b ∧ z ∈ b
/-! ### changes of marks -/
def chgF : Bool → List Bool → Nat
  | _, [] => 0
  | p, b :: l => (if p = b then 0 else 1) + chgF b l
theorem chg_cons : ∀ (b : Bool) (l : List Bool), chg (b :: l) = chgF b l
  | b, [] => rfl
  | b, c :: l => by
    have ih := chg_cons c l
    unfold chg at ih ⊢
    simp only [List.drop_succ_cons, List.drop_zero, List.zip_cons_cons] at ih ⊢
    rw [List.filter_cons]
    by_cases e : b = c
    · rw [if_neg (by simp [e]), ih]
      show _ = (if b = c then 0 else 1) + chgF c l
      rw [if_pos e]
      omega
    · rw [if_pos (by simp [e]), List.length_cons, ih]
      show _ = (if b = c then 0 else 1) + chgF c l
      rw [if_neg e]
      omega
def altL : Bool → Nat → List Bool
  | _, 0 => []
  | p, k + 1 => p :: altL (!p) k
theorem alt_iff : ∀ (l : List Bool) (p : Bool) (k : Nat), k ≤ chgF p l ↔ (altL (!p) k).Sublist l
  | [], p, k => by
    cases k with
    | zero => simp [altL, chgF]
    | succ k => simp [altL, chgF]
  | b :: l, p, k => by
    by_cases e : p = b
    · subst e
      have ih := alt_iff l p k
      have e1 : chgF p (p :: l) = chgF p l := by
        show (if p = p then 0 else 1) + chgF p l = _
        rw [if_pos rfl]
        omega
      rw [e1, ih]
      constructor
      · exact fun h => h.cons p
      · intro h
        cases k with
        | zero => exact List.nil_sublist _
        | succ k =>
          rcases List.sublist_cons_iff.mp h with h | ⟨r, e, h⟩
          · exact h
          · exact absurd (List.cons.inj e).1 (by cases p <;> decide)
    · have e2 : b = !p := by cases b <;> cases p <;> simp_all
      subst e2
      have e1 : chgF p ((!p) :: l) = 1 + chgF (!p) l := by
        show (if p = (!p) then 0 else 1) + chgF (!p) l = _
        rw [if_neg e]
      rw [e1]
      cases k with
      | zero => simp [altL]
      | succ k =>
        have ih := alt_iff l (!p) k
        show k + 1 ≤ 1 + chgF (!p) l ↔ ((!p) :: altL (!(!p)) k).Sublist ((!p) :: l)
        rw [List.cons_sublist_cons, ← ih]
        omega
theorem chg_iff (l : List Bool) : 2 < chg l ↔ ∃ p, (altL p 4).Sublist l := by
  cases l with
  | nil =>
    constructor
    · intro h
      exact absurd h (by decide)
    · rintro ⟨p, h⟩
      cases h
  | cons b l =>
    have h0 := alt_iff l b 3
    rw [chg_cons]
    constructor
    · intro h
      exact ⟨b, List.cons_sublist_cons.mpr (h0.mp h)⟩
    · rintro ⟨p, h⟩
      refine h0.mpr ?_
      by_cases e : p = b
      · subst e
        exact List.cons_sublist_cons.mp h
      · have e2 : p = !b := by cases b <;> cases p <;> simp_all
        subst e2
        rcases List.sublist_cons_iff.mp h with h | ⟨r, e, h⟩
        · refine List.Sublist.trans ?_ h
          have e3 : altL (!b) 4 = altL (!b) 3 ++ [b] := by cases b <;> rfl
          rw [e3]
          exact List.sublist_append_left _ _
        · exact absurd (List.cons.inj e).1 (by cases b <;> decide)
theorem sub_of_pw {a b : List Nat} (ha : a.Pairwise (· < ·)) (hb : b.Pairwise (· < ·)) (h : ∀ k ∈ a, k ∈ b) : a.Sublist b := by
  have e : a = b.filter fun k => decide (k ∈ a) := pw_ext ha (hb.filter _) fun k => by
    rw [List.mem_filter, decide_eq_true_iff]
    exact ⟨fun q => ⟨h k q, q⟩, fun q => q.2⟩
  rw [e]
  exact List.filter_sublist
theorem doCross_iff {a b : List Nat} (h : LotP a b) : doCross a b = true ↔ Crs a b ∨ Crs b a := by
  unfold doCross
  rw [decide_eq_true_iff, chg_iff]
  have hm : ∀ s, s ∈ sset (a ++ b) ↔ s ∈ a ∨ s ∈ b := fun s => by rw [sset_mem h.l8, List.mem_append]
  constructor
  · rintro ⟨p, hp⟩
    obtain ⟨l', h1, h2⟩ := List.sublist_map_iff.mp hp
    have hl : l'.length = 4 := by
      have := congrArg List.length h2
      rw [List.length_map] at this
      rw [← this]
      cases p <;> rfl
    match l', hl with
    | [w, x, y, z], _ =>
      have pw := (sset_pw (a ++ b)).sublist h1
      simp only [List.pairwise_cons, List.mem_cons, List.not_mem_nil, or_false, forall_eq_or_imp, forall_eq] at pw
      obtain ⟨⟨q1, q2, q3⟩, ⟨q4, q5⟩, q6, _⟩ := pw
      have m : ∀ s ∈ [w, x, y, z], s ∈ a ∨ s ∈ b := fun s hs => (hm s).mp (h1.subset hs)
      have mw := m w (by simp)
      have mx := m x (by simp)
      have my := m y (by simp)
      have mz := m z (by simp)
      cases p with
      | true =>
        simp [altL] at h2
        obtain ⟨e1, e2, e3, e4⟩ := h2
        exact .inl ⟨w, x, y, z, q1, q4, q6, e1, e3, mx.resolve_left e2, mz.resolve_left e4⟩
      | false =>
        simp [altL] at h2
        obtain ⟨e1, e2, e3, e4⟩ := h2
        exact .inr ⟨w, x, y, z, q1, q4, q6, mw.resolve_left e1, my.resolve_left e3, e2, e4⟩
  · have key : ∀ w x y z, w < x → x < y → y < z → (∀ s ∈ [w, x, y, z], s ∈ a ∨ s ∈ b) → [w, x, y, z].Sublist (sset (a ++ b)) := fun w x y z h1 h2 h3 hs =>
      sub_of_pw (by simp; omega) (sset_pw _) fun k hk => (hm k).mpr (hs k hk)
    rintro (⟨w, x, y, z, h1, h2, h3, w1, y1, x1, z1⟩ | ⟨w, x, y, z, h1, h2, h3, w1, y1, x1, z1⟩)
    · refine ⟨true, ?_⟩
      have q := (key w x y z h1 h2 h3 (by simp [w1, x1, y1, z1])).map fun s => decide (s ∈ a)
      have e : [w, x, y, z].map (fun s => decide (s ∈ a)) = altL true 4 := by
        simp [altL, w1, y1]
        exact ⟨fun k => h.dj x k x1, fun k => h.dj z k z1⟩
      rw [e] at q
      exact q
    · refine ⟨false, ?_⟩
      have q := (key w x y z h1 h2 h3 (by simp [w1, x1, y1, z1])).map fun s => decide (s ∈ a)
      have e : [w, x, y, z].map (fun s => decide (s ∈ a)) = altL false 4 := by
        simp [altL, x1, z1]
        exact ⟨fun k => h.dj w k w1, fun k => h.dj y k y1⟩
      rw [e] at q
      exact q
/-! ### deals -/
variable {n : Nat} {D A B : List (List Nat)}
theorem IsDeal.l8 (h : IsDeal n D) {l : List Nat} (hl : l ∈ D) {s : Nat} (hs : s ∈ l) : s < 8 := by
  have := h.lt hl hs
  have := h.n8
  omega
theorem IsDeal.pw (h : IsDeal n D) : D.Pairwise LotP := by
  have nd : D.flatten.Nodup := h.cov.nodup_iff.mpr List.nodup_range
  have q := (List.pairwise_flatten.mp nd).2
  refine List.Pairwise.imp_of_mem ?_ q
  intro a b ha hb hab
  exact ⟨(h.lot a ha).2, (h.lot b hb).2, fun s h1 h2 => hab s h1 s h2 rfl, fun s hs => h.l8 ha hs, fun s hs => h.l8 hb hs⟩
theorem pw_both {α : Type} {R : α → α → Prop} (hs : ∀ a b, R a b → R b a) : ∀ {l : List α}, l.Pairwise R → ∀ a ∈ l, ∀ b ∈ l, a ≠ b → R a b
  | [], _, a, ha, _, _, _ => by cases ha
  | x :: l, h, a, ha, b, hb, hab => by
    obtain ⟨h1, h2⟩ := List.pairwise_cons.mp h
    rcases List.mem_cons.mp ha with e | ha
    · rcases List.mem_cons.mp hb with e2 | hb
      · exact absurd (e.trans e2.symm) hab
      · rw [e]; exact h1 b hb
    · rcases List.mem_cons.mp hb with e2 | hb
      · rw [e2]; exact hs _ _ (h1 a ha)
      · exact pw_both hs h2 a ha b hb hab
theorem IsDeal.lotp (h : IsDeal n D) {a b : List Nat} (ha : a ∈ D) (hb : b ∈ D) (hab : a ≠ b) : LotP a b := pw_both (fun _ _ h => h.symm) h.pw a ha b hb hab
theorem IsDeal.one (h : IsDeal n D) {a b : List Nat} (ha : a ∈ D) (hb : b ∈ D) {s : Nat} (h1 : s ∈ a) (h2 : s ∈ b) : a = b := Classical.byContradiction fun e => (h.lotp ha hb e).dj s h1 h2
theorem IsDeal.lotW (h : IsDeal n D) {l : List Nat} (hl : l ∈ D) {s : Nat} (hs : s ∈ l) : lotW D s = l := by
  obtain ⟨h1, h2, _⟩ := lotW_spec (D := D) (s := s) ⟨l, hl, hs⟩
  exact h.one h1 hl h2 hs
theorem IsDeal.nodup (h : IsDeal n D) : D.Nodup := by
  refine List.Pairwise.imp_of_mem ?_ h.pw
  intro a b ha hb hab e
  subst e
  cases q : a with
  | nil => exact (h.lot a ha).1 q
  | cons x r => exact hab.dj x (by rw [q]; exact List.mem_cons_self) (by rw [q]; exact List.mem_cons_self)
theorem clear_pw : ∀ {D : List (List Nat)}, isClear D = true ↔ D.Pairwise fun a b => doCross a b = false
  | [] => by simp [isClear]
  | l :: r => by
    have ih := clear_pw (D := r)
    rw [List.pairwise_cons, ← ih]
    show (!(r.any fun k => doCross l k) && isClear r) = true ↔ _
    rw [Bool.and_eq_true]
    refine and_congr ?_ Iff.rfl
    rw [Bool.not_eq_true', List.any_eq_false]
    exact ⟨fun h k hk => by have := h k hk; simpa using this, fun h k hk => by rw [h k hk]; decide⟩
theorem crs_none {a b : List Nat} (h : LotP a b) : doCross a b = false ↔ ¬ Crs a b ∧ ¬ Crs b a := by
  have := doCross_iff h
  cases q : doCross a b with
  | true =>
    rw [q] at this
    constructor
    · intro z; cases z
    · rintro ⟨h1, h2⟩
      exact absurd (this.mp rfl) (fun z => z.elim h1 h2)
  | false =>
    rw [q] at this
    refine ⟨fun _ => ⟨fun z => ?_, fun z => ?_⟩, fun _ => rfl⟩
    · exact absurd (this.mpr (.inl z)) (by decide)
    · exact absurd (this.mpr (.inr z)) (by decide)
/-- no two lots cross -/
def NoCrs (D : List (List Nat)) : Prop := ∀ a ∈ D, ∀ b ∈ D, a ≠ b → ¬ Crs a b
theorem isClear_iff (h : IsDeal n D) : isClear D = true ↔ NoCrs D := by
  rw [clear_pw]
  constructor
  · intro q
    have q2 : D.Pairwise fun a b => ¬ Crs a b ∧ ¬ Crs b a := by
      have := q.and h.pw
      exact this.imp fun {a b} ⟨q1, q2⟩ => (crs_none q2).mp q1
    intro a ha b hb hab
    exact (pw_both (fun a b h => ⟨h.2, h.1⟩) q2 a ha b hb hab).1
  · intro q
    have hne : D.Pairwise (· ≠ ·) := h.nodup
    refine List.Pairwise.imp_of_mem ?_ (h.pw.and hne)
    intro a b ha hb ⟨h1, h2⟩
    exact (crs_none h1).mpr ⟨q a ha b hb h2, q b hb a ha (Ne.symm h2)⟩
/-! ### putting in order -/
theorem perm_flat {A B : List (List Nat)} (h : A.Perm B) : A.flatten.Perm B.flatten := List.Perm.flatten h
theorem srt_deal {L : List (List Nat)} (n1 : 1 ≤ n) (n8 : n ≤ 8) (hl : ∀ l ∈ L, IsLot l) (hp : L.flatten.Perm (List.range n)) : IsDeal n (srtLx L) :=
  ⟨n1, n8, fun l h => hl l ((srtLx_perm L).mem_iff.mp h), (perm_flat (srtLx_perm L)).trans hp, srtLx_lxs L⟩
theorem srt_mem {L : List (List Nat)} {l : List Nat} : l ∈ srtLx L ↔ l ∈ L := (srtLx_perm L).mem_iff
/-! ### the drawn parting -/
structure PInv (i : Nat) (L S : List (List Nat)) : Prop where
  lot : ∀ l ∈ L ++ S, IsLot l
  cov : (L ++ S).flatten.Perm (List.range i)
  up : L.Pairwise fun p q => ∀ a ∈ p, ∀ b ∈ q, a < b
  out : ∀ l ∈ L, ∀ m ∈ S, ∀ w x y, w < x → x < y → w ∈ m → x ∈ l → y ∉ m
  no : ∀ l ∈ L, ∀ m ∈ S, ¬ Crs l m ∧ ¬ Crs m l
  nos : S.Pairwise fun p q => ¬ Crs p q ∧ ¬ Crs q p
theorem PInv.zero : PInv 0 [] [] := ⟨fun l h => (by cases h), List.Perm.refl _, .nil, fun l h => (by cases h), fun l h => (by cases h), .nil⟩
theorem PInv.lt {i : Nat} {L S : List (List Nat)} (h : PInv i L S) {l : List Nat} (hl : l ∈ L ++ S) {s : Nat} (hs : s ∈ l) : s < i := List.mem_range.mp (h.cov.mem_iff.mp (List.mem_flatten.mpr ⟨l, hl, hs⟩))
theorem single_lot (i : Nat) : IsLot [i] := ⟨by simp, by simp⟩
theorem crs_single_l {i : Nat} {m : List Nat} : ¬ Crs [i] m := by
  rintro ⟨w, x, y, z, h1, h2, h3, hw, hy, _, _⟩
  rw [List.mem_singleton] at hw hy
  omega
theorem crs_single_r {i : Nat} {m : List Nat} : ¬ Crs m [i] := by
  rintro ⟨w, x, y, z, h1, h2, h3, _, _, hx, hz⟩
  rw [List.mem_singleton] at hx hz
  omega
theorem PInv.new {i : Nat} {L S : List (List Nat)} (h : PInv i L S) : PInv (i + 1) (L ++ [[i]]) S where
  lot := fun l hl => by
    rcases List.mem_append.mp hl with q | q
    · rcases List.mem_append.mp q with q | q
      · exact h.lot l (List.mem_append_left _ q)
      · rw [List.mem_singleton.mp q]; exact single_lot i
    · exact h.lot l (List.mem_append_right _ q)
  cov := by
    have e : (L ++ [[i]] ++ S).flatten.Perm ((L ++ S).flatten ++ [i]) := by
      rw [List.append_assoc, List.flatten_append, List.flatten_append, List.flatten_append]
      show (L.flatten ++ ([i] ++ S.flatten)).Perm _
      rw [List.append_assoc]
      exact List.Perm.append_left _ List.perm_append_comm
    rw [List.range_succ]
    exact e.trans (h.cov.append_right [i])
  up := List.pairwise_append.mpr ⟨h.up, List.pairwise_singleton _ _, fun p hp q hq a ha b hb => by
    rw [List.mem_singleton.mp hq] at hb
    rw [List.mem_singleton.mp hb]
    exact h.lt (List.mem_append_left _ hp) ha⟩
  out := fun l hl m hm w x y h1 h2 hw hx hy => by
    rcases List.mem_append.mp hl with q | q
    · exact h.out l q m hm w x y h1 h2 hw hx hy
    · rw [List.mem_singleton.mp q] at hx
      have := h.lt (List.mem_append_right _ hm) hy
      rw [List.mem_singleton.mp hx] at h2
      omega
  no := fun l hl m hm => by
    rcases List.mem_append.mp hl with q | q
    · exact h.no l q m hm
    · rw [List.mem_singleton.mp q]
      exact ⟨crs_single_l, crs_single_r⟩
  nos := h.nos
theorem flat_mid {L1 L2 : List (List Nat)} {l : List Nat} {i : Nat} {S : List (List Nat)} : ((L1 ++ [l ++ [i]]) ++ (S ++ L2)).flatten.Perm ((L1 ++ l :: L2 ++ S).flatten ++ [i]) := by
  simp only [List.flatten_append, List.flatten_cons, List.flatten_nil, List.append_nil, List.append_assoc]
  refine List.Perm.append_left _ (List.Perm.append_left _ ?_)
  have e : ([i] ++ (S.flatten ++ L2.flatten)).Perm ((S.flatten ++ L2.flatten) ++ [i]) := List.perm_append_comm
  refine e.trans ?_
  rw [← List.append_assoc L2.flatten]
  exact List.perm_append_comm.append_right _
theorem lot_snoc {l : List Nat} {i : Nat} (h : IsLot l) (hi : ∀ s ∈ l, s < i) : IsLot (l ++ [i]) := ⟨by simp, List.pairwise_append.mpr ⟨h.2, List.pairwise_singleton _ _, fun a ha b hb => by rw [List.mem_singleton.mp hb]; exact hi a ha⟩⟩
theorem PInv.join {i : Nat} {L1 L2 S : List (List Nat)} {l : List Nat} (h : PInv i (L1 ++ l :: L2) S) : PInv (i + 1) (L1 ++ [l ++ [i]]) (S ++ L2) := by
  have hl : l ∈ (L1 ++ l :: L2) ++ S := by simp
  have m1 : ∀ p ∈ L1, p ∈ L1 ++ l :: L2 := fun p hp => by simp [hp]
  have m2 : ∀ p ∈ L2, p ∈ L1 ++ l :: L2 := fun p hp => by simp [hp]
  have ml : l ∈ L1 ++ l :: L2 := by simp
  obtain ⟨u1, u2, u3⟩ := List.pairwise_append.mp h.up
  obtain ⟨u4, u5⟩ := List.pairwise_cons.mp u2
  have lti : ∀ p ∈ (L1 ++ l :: L2) ++ S, ∀ s ∈ p, s < i := fun p hp s hs => h.lt hp hs
  -- two open lots do not cross
  have ncup : ∀ p q : List Nat, (∀ a ∈ p, ∀ b ∈ q, a < b) → ¬ Crs p q ∧ ¬ Crs q p := fun p q hpq => by
    refine ⟨?_, ?_⟩
    · rintro ⟨w, x, y, z, a1, a2, a3, hw, hy, hx, hz⟩
      have := hpq y hy x hx
      omega
    · rintro ⟨w, x, y, z, a1, a2, a3, hw, hy, hx, hz⟩
      have := hpq x hx w hw
      omega
  -- a lot that will be shut, against an open one before it
  have noL : ∀ o, (o ∈ L1 ∨ o = l) → ∀ m, (m ∈ S ∨ m ∈ L2) → (¬ Crs o m ∧ ¬ Crs m o) ∧ ∀ w x y, w < x → x < y → w ∈ m → x ∈ o → y ∉ m := fun o ho m hm => by
    have hoL : o ∈ L1 ++ l :: L2 := by
      rcases ho with q | q
      · exact m1 o q
      · rw [q]; exact ml
    rcases hm with hm | hm
    · exact ⟨h.no o hoL m hm, h.out o hoL m hm⟩
    · have up : ∀ a ∈ o, ∀ b ∈ m, a < b := by
        rcases ho with q | q
        · exact u3 o q m (List.mem_cons_of_mem _ hm)
        · rw [q]; exact u4 m hm
      refine ⟨ncup o m up, fun w x y a1 a2 hw hx => ?_⟩
      have := up x hx w hw
      omega
  have hmS : ∀ m, (m ∈ S ∨ m ∈ L2) → ∀ s ∈ m, s < i := fun m hm s hs => by
    rcases hm with q | q
    · exact lti m (List.mem_append_right _ q) s hs
    · exact lti m (List.mem_append_left _ (m2 m q)) s hs
  refine ⟨fun p hp => ?_, ?_, ?_, fun o ho m hm w x y a1 a2 hw hx hy => ?_, fun o ho m hm => ?_, ?_⟩
  · rcases List.mem_append.mp hp with q | q
    · rcases List.mem_append.mp q with q | q
      · exact h.lot p (List.mem_append_left _ (m1 p q))
      · rw [List.mem_singleton.mp q]
        exact lot_snoc (h.lot l hl) (lti l hl)
    · rcases List.mem_append.mp q with q | q
      · exact h.lot p (List.mem_append_right _ q)
      · exact h.lot p (List.mem_append_left _ (m2 p q))
  · rw [List.range_succ]
    exact flat_mid.trans (h.cov.append_right [i])
  · refine List.pairwise_append.mpr ⟨u1, List.pairwise_singleton _ _, fun p hp q hq a ha b hb => ?_⟩
    rw [List.mem_singleton.mp hq] at hb
    rcases List.mem_append.mp hb with z | z
    · exact u3 p hp l List.mem_cons_self a ha b z
    · rw [List.mem_singleton.mp z]
      exact lti p (List.mem_append_left _ (m1 p hp)) a ha
  · have hm' := List.mem_append.mp hm
    rcases List.mem_append.mp ho with q | q
    · exact (noL o (.inl q) m hm').2 w x y a1 a2 hw hx hy
    · rw [List.mem_singleton.mp q] at hx
      rcases List.mem_append.mp hx with z | z
      · exact (noL l (.inr rfl) m hm').2 w x y a1 a2 hw z hy
      · rw [List.mem_singleton.mp z] at a2
        have := hmS m hm' y hy
        omega
  · have hm' := List.mem_append.mp hm
    rcases List.mem_append.mp ho with q | q
    · exact (noL o (.inl q) m hm').1
    · rw [List.mem_singleton.mp q]
      obtain ⟨⟨n1, n2⟩, n3⟩ := noL l (.inr rfl) m hm'
      refine ⟨?_, ?_⟩
      · rintro ⟨w, x, y, z, a1, a2, a3, hw, hy, hx, hz⟩
        have hz' := hmS m hm' z hz
        have inl : ∀ s, s < i → s ∈ l ++ [i] → s ∈ l := fun s hs hm => (List.mem_append.mp hm).elim id fun k => by rw [List.mem_singleton.mp k] at hs; omega
        exact n1 ⟨w, x, y, z, a1, a2, a3, inl w (by omega) hw, inl y (by omega) hy, hx, hz⟩
      · rintro ⟨w, x, y, z, a1, a2, a3, hw, hy, hx, hz⟩
        have hy' := hmS m hm' y hy
        have hx' : x ∈ l := (List.mem_append.mp hx).elim id fun k => by rw [List.mem_singleton.mp k] at a2; omega
        rcases List.mem_append.mp hz with q2 | q2
        · exact n2 ⟨w, x, y, z, a1, a2, a3, hw, hy, hx', q2⟩
        · exact n3 w x y a1 a2 hw hx' hy
  · refine List.pairwise_append.mpr ⟨h.nos, u5.imp fun {p q} hpq => ncup p q hpq, fun p hp q hq => ?_⟩
    have := h.no q (m2 q hq) p hp
    exact ⟨this.2, this.1⟩
theorem PInv.all {i : Nat} {L S : List (List Nat)} (h : PInv i L S) : ∀ a ∈ L ++ S, ∀ b ∈ L ++ S, a ≠ b → ¬ Crs a b := by
  have pw : (L ++ S).Pairwise fun p q => ¬ Crs p q ∧ ¬ Crs q p := by
    refine List.pairwise_append.mpr ⟨h.up.imp fun {p q} hpq => ⟨?_, ?_⟩, h.nos, fun p hp q hq => h.no p hp q hq⟩
    · rintro ⟨w, x, y, z, a1, a2, a3, hw, hy, hx, hz⟩
      have := hpq y hy x hx
      omega
    · rintro ⟨w, x, y, z, a1, a2, a3, hw, hy, hx, hz⟩
      have := hpq x hx w hw
      omega
  intro a ha b hb hab
  exact (pw_both (fun a b h => ⟨h.2, h.1⟩) pw a ha b hb hab).1
theorem PInv.deal {L S : List (List Nat)} (n1 : 1 ≤ n) (n8 : n ≤ 8) (h : PInv n L S) : IsDeal n (srtLx (L ++ S)) ∧ isClear (srtLx (L ++ S)) = true := by
  have d := srt_deal n1 n8 h.lot h.cov
  refine ⟨d, (isClear_iff d).mpr fun a ha b hb hab => h.all a (srt_mem.mp ha) b (srt_mem.mp hb) hab⟩
/-! ### the drawn deal -/
structure DInv (i : Nat) (L : List (List Nat)) : Prop where
  lot : ∀ l ∈ L, IsLot l
  cov : L.flatten.Perm (List.range i)
theorem DInv.zero : DInv 0 [] := ⟨fun l h => (by cases h), List.Perm.refl _⟩
theorem DInv.lt {i : Nat} {L : List (List Nat)} (h : DInv i L) {l : List Nat} (hl : l ∈ L) {s : Nat} (hs : s ∈ l) : s < i := List.mem_range.mp (h.cov.mem_iff.mp (List.mem_flatten.mpr ⟨l, hl, hs⟩))
theorem DInv.new {i : Nat} {L : List (List Nat)} (h : DInv i L) : DInv (i + 1) (L ++ [[i]]) := ⟨fun l hl => by
    rcases List.mem_append.mp hl with q | q
    · exact h.lot l q
    · rw [List.mem_singleton.mp q]; exact single_lot i, by
    rw [List.flatten_append, List.range_succ]
    exact h.cov.append_right _⟩
theorem DInv.join {i : Nat} {L1 L2 : List (List Nat)} {l : List Nat} (h : DInv i (L1 ++ l :: L2)) : DInv (i + 1) (L1 ++ [l ++ [i]] ++ L2) := by
  have hl : l ∈ L1 ++ l :: L2 := by simp
  refine ⟨fun p hp => ?_, ?_⟩
  · rcases List.mem_append.mp hp with q | q
    · rcases List.mem_append.mp q with q | q
      · exact h.lot p (by simp [q])
      · rw [List.mem_singleton.mp q]
        exact lot_snoc (h.lot l hl) fun s hs => h.lt hl hs
    · exact h.lot p (by simp [q])
  · rw [List.range_succ]
    refine List.Perm.trans ?_ (h.cov.append_right [i])
    simp only [List.flatten_append, List.flatten_cons, List.flatten_nil, List.append_nil, List.append_assoc]
    exact List.Perm.append_left _ (List.Perm.append_left _ List.perm_append_comm)
theorem DInv.len {i : Nat} {L : List (List Nat)} (h : DInv i L) : L.length ≤ i := by
  have := len_le_flat (D := L) fun l hl => (h.lot l hl).1
  rw [h.cov.length_eq, List.length_range] at this
  exact this
theorem DInv.llen {i : Nat} {L : List (List Nat)} (h : DInv i L) {l : List Nat} (hl : l ∈ L) : l.length ≤ i := by
  have := lot_le_flat hl
  rw [h.cov.length_eq, List.length_range] at this
  exact this
theorem PInv.d {i : Nat} {L S : List (List Nat)} (h : PInv i L S) : DInv i (L ++ S) := ⟨h.lot, h.cov⟩
end Rng
/-! plain: what is put together -/
namespace Rng
def Sub (a b : List Nat) : Prop := ∀ s ∈ a, s ∈ b
theorem Sub.refl (a : List Nat) : Sub a a := fun _ h => h
theorem Sub.trans {a b c : List Nat} (h : Sub a b) (k : Sub b c) : Sub a c := fun s hs => k s (h s hs)
/-- each of A within one of B -/
def Fin2 (A B : List (List Nat)) : Prop := ∀ a ∈ A, ∃ b ∈ B, Sub a b
theorem Fin2.trans {A B C : List (List Nat)} (h : Fin2 A B) (k : Fin2 B C) : Fin2 A C := fun a ha => by
  obtain ⟨b, hb, h1⟩ := h a ha
  obtain ⟨c, hc, h2⟩ := k b hb
  exact ⟨c, hc, h1.trans h2⟩
theorem Fin2.refl (A : List (List Nat)) : Fin2 A A := fun a ha => ⟨a, ha, Sub.refl a⟩
theorem Fin2.nil (B : List (List Nat)) : Fin2 [] B := fun a ha => by cases ha
/-- lots of which no two meet or cross -/
structure Apt (P : List (List Nat)) : Prop where
  dj : ∀ a ∈ P, ∀ b ∈ P, ∀ s, s ∈ a → s ∈ b → a = b
  nc : NoCrs P
variable {n : Nat} {D A B L : List (List Nat)}
theorem IsDeal.apt (h : IsDeal n D) (c : isClear D = true) : Apt D := ⟨fun a ha b hb s h1 h2 => h.one ha hb h1 h2, (isClear_iff h).mp c⟩
theorem sset_sub (l : List Nat) : Sub (sset l) l := fun s h => (sset_lt h).2
theorem sub_sset {l : List Nat} (h : ∀ s ∈ l, s < 8) : Sub l (sset l) := fun s hs => (sset_mem h s).mpr hs
theorem fin_sset (h : LotsOk L) : Fin2 L (L.map sset) := fun l hl => ⟨sset l, List.mem_map.mpr ⟨l, hl, rfl⟩, sub_sset (h.l8 l hl)⟩
theorem fin_sset2 {P : List (List Nat)} (h : Fin2 L P) : Fin2 (L.map sset) P := fun l hl => by
  obtain ⟨k, hk, rfl⟩ := List.mem_map.mp hl
  obtain ⟨p, hp, hs⟩ := h k hk
  exact ⟨p, hp, (sset_sub k).trans hs⟩
theorem must_two {a b : List Nat} (ha : a.Pairwise (· < ·)) (hb : b.Pairwise (· < ·)) (a8 : ∀ s ∈ a, s < 8) (b8 : ∀ s ∈ b, s < 8) : mustJoin a b = true ↔ (∃ s, s ∈ a ∧ s ∈ b) ∨ (Crs a b ∨ Crs b a) ∧ ∀ s ∈ a, s ∉ b := by
  unfold mustJoin
  rw [Bool.or_eq_true]
  by_cases h : ∃ s, s ∈ a ∧ s ∈ b
  · refine ⟨fun _ => .inl h, fun _ => .inl ?_⟩
    obtain ⟨s, h1, h2⟩ := h
    have : (a.filter fun s => decide (s ∈ b)) ≠ [] := fun e => by
      have q : s ∈ a.filter fun s => decide (s ∈ b) := List.mem_filter.mpr ⟨h1, decide_eq_true h2⟩
      rw [e] at q
      cases q
    simp [this]
  · have dj : ∀ s ∈ a, s ∉ b := fun s h1 h2 => h ⟨s, h1, h2⟩
    have e : (a.filter fun s => decide (s ∈ b)) = [] := List.filter_eq_nil_iff.mpr fun s hs q => dj s hs (of_decide_eq_true q)
    rw [decide_eq_true e, doCross_iff ⟨ha, hb, dj, a8, b8⟩]
    constructor
    · rintro (z | z)
      · exact absurd z (by decide)
      · exact .inr ⟨z, dj⟩
    · rintro (z | ⟨z, _⟩)
      · exact absurd z h
      · exact .inr z
theorem crs_sub {a b p q : List Nat} (h : Crs a b) (h1 : Sub a p) (h2 : Sub b q) : Crs p q := by
  obtain ⟨w, x, y, z, a1, a2, a3, hw, hy, hx, hz⟩ := h
  exact ⟨w, x, y, z, a1, a2, a3, h1 w hw, h1 y hy, h2 x hx, h2 z hz⟩
/-- two that must be joined lie in one -/
theorem must_in {P : List (List Nat)} (hP : Apt P) {a b p q : List Nat} (ha : a.Pairwise (· < ·)) (hb : b.Pairwise (· < ·)) (a8 : ∀ s ∈ a, s < 8) (b8 : ∀ s ∈ b, s < 8) (hm : mustJoin a b = true) (hp : p ∈ P) (hq : q ∈ P) (h1 : Sub a p) (h2 : Sub b q) : p = q := by
  rcases (must_two ha hb a8 b8).mp hm with ⟨s, s1, s2⟩ | ⟨z, _⟩
  · exact hP.dj p hp q hq s (h1 s s1) (h2 s s2)
  · refine Classical.byContradiction fun e => ?_
    rcases z with z | z
    · exact hP.nc p hp q hq e (crs_sub z h1 h2)
    · exact hP.nc q hq p hp (Ne.symm e) (crs_sub z h2 h1)
theorem fin_joined {M : List (List Nat)} {a b : List Nat} : Fin2 M (joined M a b) := fun l hl => by
  unfold joined
  by_cases e1 : l = a
  · exact ⟨a ++ b, by simp, fun s hs => List.mem_append_left _ (e1 ▸ hs)⟩
  · by_cases e2 : l = b
    · exact ⟨a ++ b, by simp, fun s hs => List.mem_append_right _ (e2 ▸ hs)⟩
    · exact ⟨l, List.mem_append_left _ (List.mem_filter.mpr ⟨hl, by simp [e1, e2]⟩), Sub.refl l⟩
theorem joined_mem {M : List (List Nat)} {a b l : List Nat} (h : l ∈ joined M a b) : l ∈ M ∨ l = a ++ b := by
  unfold joined at h
  rcases List.mem_append.mp h with q | q
  · exact .inl (List.mem_filter.mp q).1
  · exact .inr (List.mem_singleton.mp q)
theorem map_sset_pw (h : l ∈ L.map sset) : l.Pairwise (· < ·) ∧ (∀ s ∈ l, s < 8) ∧ l.length ≤ 8 := by
  obtain ⟨k, _, rfl⟩ := List.mem_map.mp h
  exact ⟨sset_pw k, fun s hs => (sset_lt hs).1, sset_len k⟩
theorem putT_succ (m : Nat) (L : List (List Nat)) : putT (m + 1) L = match findJoin (L.map sset) with | some p => putT m (joined (L.map sset) p.1 p.2) | none => L.map sset := rfl
structure PutOk (L T : List (List Nat)) : Prop where
  pw : ∀ t ∈ T, t.Pairwise (· < ·) ∧ ∀ s ∈ t, s < 8
  ne : ∀ t ∈ T, t ≠ []
  up : Fin2 L T
  seats : ∀ t ∈ T, ∀ s ∈ t, ∃ l ∈ L, s ∈ l
  low : ∀ P, Apt P → Fin2 L P → Fin2 T P
  apart : T.Pairwise fun a b => mustJoin a b = false
theorem findJoin_pw : ∀ {M : List (List Nat)}, findJoin M = none → M.Pairwise fun a b => mustJoin a b = false
  | [], _ => .nil
  | l :: r, h => by
    unfold findJoin at h
    cases q : r.find? (mustJoin l) with
    | some k => rw [q] at h; cases h
    | none =>
      rw [q] at h
      refine List.pairwise_cons.mpr ⟨fun k hk => ?_, findJoin_pw h⟩
      have := List.find?_eq_none.mp q k hk
      simpa using this
theorem put_base (ok : LotsOk L) (h : findJoin (L.map sset) = none) : PutOk L (L.map sset) :=
  ⟨fun t ht => ⟨(map_sset_pw ht).1, (map_sset_pw ht).2.1⟩, ok.sset.ne, fin_sset ok, fun t ht s hs => by
    obtain ⟨k, hk, rfl⟩ := List.mem_map.mp ht
    exact ⟨k, hk, (sset_lt hs).2⟩, fun P _ h => fin_sset2 h, findJoin_pw h⟩
theorem putT_all : ∀ (m : Nat) {L : List (List Nat)}, LotsOk L → L.length ≤ m → PutOk L (putT m L)
  | 0, L, ok, hl => by
    have e : L = [] := List.eq_nil_of_length_eq_zero (by omega)
    subst e
    exact ⟨fun t h => (by cases h), fun t h => (by cases h), Fin2.nil _, fun t h => (by cases h), fun P _ h => Fin2.nil _, .nil⟩
  | m + 1, L, ok, hl => by
    rw [putT_succ]
    cases q : findJoin (L.map sset) with
    | none => exact put_base ok q
    | some p =>
      obtain ⟨a, b⟩ := p
      obtain ⟨M1, M2, M3, e, hm⟩ := findJoin_mem q
      obtain ⟨ha, hb⟩ := join_mem e
      have hj := joined_len e
      rw [List.length_map] at hj
      obtain ⟨pa, a8, la⟩ := map_sset_pw ha
      obtain ⟨pb, b8, lb⟩ := map_sset_pw hb
      have ih := putT_all m (joined_ok ok.sset ha hb la lb) (by omega)
      refine ⟨ih.pw, ih.ne, ((fin_sset ok).trans fin_joined).trans ih.up, fun t ht s hs => ?_, fun P hP hF => ih.low P hP fun l hl => ?_, ih.apart⟩
      · obtain ⟨l, hl, hs2⟩ := ih.seats t ht s hs
        have key : ∀ k ∈ L.map sset, s ∈ k → ∃ l ∈ L, s ∈ l := fun k hk hs => by
          obtain ⟨j, hj, rfl⟩ := List.mem_map.mp hk
          exact ⟨j, hj, (sset_lt hs).2⟩
        rcases joined_mem hl with z | z
        · exact key l z hs2
        · rw [z] at hs2
          rcases List.mem_append.mp hs2 with z2 | z2
          · exact key a ha z2
          · exact key b hb z2
      · have hF2 := fin_sset2 hF
        rcases joined_mem hl with z | z
        · exact hF2 l z
        · obtain ⟨p, hp, h1⟩ := hF2 a ha
          obtain ⟨p2, hp2, h2⟩ := hF2 b hb
          have e := must_in hP pa pb a8 b8 hm hp hp2 h1 h2
          subst e
          exact ⟨p, hp, fun s hs => by
            rw [z] at hs
            exact (List.mem_append.mp hs).elim (h1 s) (h2 s)⟩
theorem PutOk.lotp {T : List (List Nat)} (h : PutOk L T) : T.Pairwise fun a b => (∀ s ∈ a, s ∉ b) ∧ ¬ Crs a b ∧ ¬ Crs b a := by
  refine List.Pairwise.imp_of_mem ?_ h.apart
  intro a b ha hb hm
  obtain ⟨pa, a8⟩ := h.pw a ha
  obtain ⟨pb, b8⟩ := h.pw b hb
  have nm : ¬ mustJoin a b = true := by rw [hm]; decide
  rw [must_two pa pb a8 b8] at nm
  have dj : ∀ s ∈ a, s ∉ b := fun s h1 h2 => nm (.inl ⟨s, h1, h2⟩)
  exact ⟨dj, fun z => nm (.inr ⟨.inl z, dj⟩), fun z => nm (.inr ⟨.inr z, dj⟩)⟩
theorem map_sset_id {T : List (List Nat)} (h : ∀ t ∈ T, t.Pairwise (· < ·) ∧ ∀ s ∈ t, s < 8) : T.map sset = T := by
  conv => rhs; rw [← List.map_id T]
  exact List.map_congr_left fun t ht => sset_id (h t ht).1 (h t ht).2
/-- what cleared_by hands back -/
structure Clr (n : Nat) (L T : List (List Nat)) : Prop where
  deal : IsDeal n T
  clear : isClear T = true
  up : Fin2 L T
  low : ∀ P, Apt P → Fin2 L P → Fin2 T P
theorem clearedBy_all (n1 : 1 ≤ n) (n8 : n ≤ 8) (ok : LotsOk L) (hl : L.length ≤ 16) (hs : ∀ s, s < n ↔ ∃ l ∈ L, s ∈ l) : Clr n L (clearedBy L) := by
  have h := putT_all 16 ok hl
  have e : clearedBy L = srtLx (putT 16 L) := by
    unfold clearedBy inOrder
    rw [map_sset_id h.pw]
  rw [e]
  generalize putT 16 L = T at h
  have lp := h.lotp
  have nd : T.flatten.Nodup := by
    show T.flatten.Pairwise (· ≠ ·)
    refine List.pairwise_flatten.mpr ⟨fun t ht => pw_nd (h.pw t ht).1, lp.imp fun {a b} hab x hx y hy e => ?_⟩
    subst e
    exact hab.1 x hx hy
  have d : IsDeal n (srtLx T) := srt_deal n1 n8 (fun t ht => ⟨h.ne t ht, (h.pw t ht).1⟩) (nd_perm nd List.nodup_range fun s => by
    rw [List.mem_flatten, List.mem_range, hs]
    constructor
    · rintro ⟨t, ht, hst⟩
      exact h.seats t ht s hst
    · rintro ⟨l, hl, hsl⟩
      obtain ⟨t, ht, hsub⟩ := h.up l hl
      exact ⟨t, ht, hsub s hsl⟩)
  refine ⟨d, (isClear_iff d).mpr fun a ha b hb hab => ?_, fun l hl => ?_, fun P hP hF t ht => h.low P hP hF t (srt_mem.mp ht)⟩
  · exact (pw_both (R := fun a b => (∀ s ∈ a, s ∉ b) ∧ ¬ Crs a b ∧ ¬ Crs b a) (fun a b h => ⟨fun s h1 h2 => h.1 s h2 h1, h.2.2, h.2.1⟩) lp a (srt_mem.mp ha) b (srt_mem.mp hb) hab).2.1
  · obtain ⟨t, ht, hsub⟩ := h.up l hl
    exact ⟨t, srt_mem.mpr ht, hsub⟩
theorem IsDeal.seats (h : IsDeal n D) : ∀ s, s < n ↔ ∃ l ∈ D, s ∈ l := fun s => ⟨fun hs => h.has hs, fun ⟨l, hl, hs⟩ => h.lt hl hs⟩
theorem cleared_all (h : IsDeal n D) : Clr n D (clearedBy D) := clearedBy_all h.n1 h.n8 h.ok (by have := h.len; have := h.n8; omega) h.seats
/-- a parting stays -/
theorem cleared_id (h : IsDeal n D) (c : isClear D = true) : clearedBy D = D := by
  have e : D.map sset = D := map_sset_id fun t ht => ⟨(h.lot t ht).2, fun s hs => h.l8 ht hs⟩
  have hf : findJoin (D.map sset) = none := by
    rw [e]
    refine findJoin_none fun a b M1 M2 M3 eD => ?_
    have pw := (clear_pw.mp c).and h.pw
    rw [eD] at pw
    have q : (a :: (M2 ++ b :: M3)).Pairwise fun a b => doCross a b = false ∧ LotP a b := by
      have e2 : M1 ++ a :: M2 ++ b :: M3 = M1 ++ a :: (M2 ++ b :: M3) := by simp
      rw [e2] at pw
      exact (List.pairwise_append.mp pw).2.1
    obtain ⟨q1, q2⟩ := (List.pairwise_cons.mp q).1 b (by simp)
    unfold mustJoin
    rw [q1]
    have e3 : (a.filter fun s => decide (s ∈ b)) = [] := List.filter_eq_nil_iff.mpr fun s hs z => q2.dj s hs (of_decide_eq_true z)
    rw [decide_eq_true e3]
    rfl
  have e1 : putT 16 D = D := by
    show (match findJoin (D.map sset) with | some p => putT 15 (joined (D.map sset) p.1 p.2) | none => D.map sset) = D
    rw [hf, e]
  unfold clearedBy inOrder
  rw [e1, e]
  exact srtLx_id h.ord
theorem cleared_eq (h : IsDeal n D) : clearedBy D = D ↔ isClear D = true := ⟨fun e => by
  have := (cleared_all h).clear
  rwa [e] at this, cleared_id h⟩
/-- partings that refine one another are one -/
theorem deal_same (hA : IsDeal n A) (hB : IsDeal n B) (h1 : Fin2 A B) (h2 : Fin2 B A) : A = B := by
  have sub : ∀ {A B : List (List Nat)}, IsDeal n A → IsDeal n B → Fin2 A B → Fin2 B A → ∀ a ∈ A, a ∈ B := fun {A B} hA hB h1 h2 a ha => by
    obtain ⟨b, hb, s1⟩ := h1 a ha
    obtain ⟨a', ha', s2⟩ := h2 b hb
    have e : a = a' := by
      cases q : a with
      | nil => exact absurd q (hA.lot a ha).1
      | cons x r =>
        rw [← q]
        exact hA.one ha ha' (s := x) (by rw [q]; exact List.mem_cons_self) ((s1.trans s2) x (by rw [q]; exact List.mem_cons_self))
    have e2 : a = b := pw_ext (hA.lot a ha).2 (hB.lot b hb).2 fun k => ⟨s1 k, fun hk => by rw [e]; exact s2 k hk⟩
    rw [e2]
    exact hb
  have hp : A.Perm B := (List.perm_ext_iff_of_nodup hA.nodup hB.nodup).mpr fun a => ⟨sub hA hB h1 h2 a, sub hB hA h2 h1 a⟩
  have e := lx_same (hp.map zs) hA.ord hB.ord
  exact List.map_inj_right (fun x y e => zs_inj e) |>.mp e
/-! ### has all, finer, four -/
theorem hasAll_iff (hA : IsDeal n A) (hD : IsDeal n D) : hasAll A D = true ↔ Fin2 D A := by
  unfold hasAll
  rw [List.all_eq_true]
  have h0 : ∀ l ∈ D, l.headD 0 ∈ l := fun l hl => by
    cases q : l with
    | nil => exact absurd q (hD.lot l hl).1
    | cons x r => exact List.mem_cons_self
  constructor
  · intro h l hl
    have h1 := of_decide_eq_true (h l hl)
    rw [List.filter_eq_nil_iff] at h1
    have hh := h0 l hl
    obtain ⟨p, hp, hsp⟩ := hA.has (hD.lt hl hh)
    refine ⟨p, hp, fun s hs => ?_⟩
    have h2 := h1 s hs
    have e : lotW A s = lotW A (l.headD 0) := by simpa using h2
    rw [hA.lotW hp hsp] at e
    obtain ⟨p2, hp2, hsp2⟩ := hA.has (hD.lt hl hs)
    rw [hA.lotW hp2 hsp2] at e
    rw [← e]
    exact hsp2
  · intro h l hl
    refine decide_eq_true ?_
    obtain ⟨p, hp, hsub⟩ := h l hl
    refine List.filter_eq_nil_iff.mpr fun s hs => ?_
    rw [hA.lotW hp (hsub s hs), hA.lotW hp (hsub _ (h0 l hl))]
    simp
theorem parts_none (hA : IsDeal n A) (hB : IsDeal n B) : (∀ s t, s < t → t < n → partsTwo A B s t = false) ↔ Fin2 A B := by
  have key : ∀ s t, s < t → t < n → (partsTwo A B s t = false ↔ (t ∈ lotW A s → t ∈ lotW B s)) := fun s t h1 h2 => by
    unfold partsTwo
    rw [decide_eq_true h1, Bool.true_and]
    by_cases q1 : t ∈ lotW A s <;> by_cases q2 : t ∈ lotW B s <;> simp [q1, q2]
  constructor
  · intro h a ha
    cases q : a with
    | nil => exact absurd q (hA.lot a ha).1
    | cons x r =>
      have hx : x ∈ a := by rw [q]; exact List.mem_cons_self
      obtain ⟨b, hb, hxb⟩ := hB.has (hA.lt ha hx)
      refine ⟨b, hb, fun s hs => ?_⟩
      rw [← q] at hs
      have pw := (hA.lot a ha).2
      rw [q] at pw
      by_cases e : s = x
      · rw [e]; exact hxb
      · have hs2 := hs
        rw [q] at hs2
        have hlt : x < s := (List.pairwise_cons.mp pw).1 s ((List.mem_cons.mp hs2).resolve_left e)
        have := (key x s hlt (hA.lt ha hs)).mp (h x s hlt (hA.lt ha hs)) (by rw [hA.lotW ha hx]; exact hs)
        rw [hB.lotW hb hxb] at this
        exact this
  · intro h s t h1 h2
    refine (key s t h1 h2).mpr fun ht => ?_
    obtain ⟨a, ha, hsa⟩ := hA.has (show s < n by omega)
    rw [hA.lotW ha hsa] at ht
    obtain ⟨b, hb, hsub⟩ := h a ha
    rw [hB.lotW hb (hsub s hsa)]
    exact hsub t ht
theorem least {P : Nat → Prop} : ∀ m, P m → ∃ k, P k ∧ ∀ j < k, ¬ P j := by
  intro m
  induction m using Nat.strongRecOn with
  | _ m ih =>
    intro h
    by_cases q : ∃ j, j < m ∧ P j
    · obtain ⟨j, hj, hp⟩ := q
      exact ih j hj hp
    · exact ⟨m, h, fun j hj hp => q ⟨j, hj, hp⟩⟩
/-- some answer there is -/
theorem finer_some (A B : List (List Nat)) (n : Nat) : ∃ d, FinerD A B n d := by
  by_cases h : ∀ s t, s < t → t < n → partsTwo A B s t = false
  · exact ⟨_, .inl ⟨h, rfl⟩⟩
  · have h1 : ∃ s t, s < t ∧ t < n ∧ partsTwo A B s t = true := Classical.byContradiction fun z => h fun s t a b => by
      cases q : partsTwo A B s t with
      | false => rfl
      | true => exact absurd ⟨s, t, a, b, q⟩ z
    obtain ⟨s0, hs0⟩ := h1
    obtain ⟨s, ⟨t0, ht0⟩, ls⟩ := least (P := fun s => ∃ t, s < t ∧ t < n ∧ partsTwo A B s t = true) s0 hs0
    obtain ⟨t, ht, lt⟩ := least (P := fun t => s < t ∧ t < n ∧ partsTwo A B s t = true) t0 ht0
    refine ⟨_, .inr ⟨s, t, ht.1, ht.2.1, ht.2.2, fun s' t' a b c => ?_, rfl⟩⟩
    cases q : partsTwo A B s' t' with
    | false => rfl
    | true =>
      rcases c with c | ⟨c, c2⟩
      · exact absurd ⟨t', a, b, q⟩ (ls s' c)
      · subst c
        exact absurd ⟨a, b, q⟩ (lt t' c2)
open PySem in
theorem apart_ne (s t : Nat) : PyData.eqv (dApart s t) dFiner = false := by
  have e : PyData.eqv (.str "apart") (.str "finer") = false := (eqv_str _ _).trans (decide_eq_false (by decide))
  rw [PyData.eqv, PyData.eqvAll, e]
  rfl
open PySem in
theorem finer_eq : PyData.eqv dFiner dFiner = true := by
  have e : PyData.eqv (.str "finer") (.str "finer") = true := (eqv_str _ _).trans (decide_eq_true rfl)
  rw [PyData.eqv, PyData.eqvAll, e]
  rfl
open PySem in
theorem finer_iff (hA : IsDeal n A) (hB : IsDeal n B) {d : PyData} (h : FinerD A B n d) : PyData.eqv d dFiner = true ↔ Fin2 A B := by
  rw [← parts_none hA hB]
  rcases h with ⟨h, rfl⟩ | ⟨s, t, h1, h2, h3, h4, rfl⟩
  · exact ⟨fun _ => h, fun _ => finer_eq⟩
  · rw [apart_ne]
    refine ⟨fun z => (by cases z), fun z => ?_⟩
    rw [z s t h1 h2] at h3
    cases h3
theorem four_iff (h : IsDeal n D) {a b c d : Nat} (hd : d < n) : isFour D a b c d = true ↔ a < b ∧ b < c ∧ c < d ∧ ∃ p ∈ D, ∃ q ∈ D, p ≠ q ∧ a ∈ p ∧ c ∈ p ∧ b ∈ q ∧ d ∈ q := by
  unfold isFour
  simp only [Bool.and_eq_true, Bool.not_eq_true', decide_eq_true_iff, decide_eq_false_iff_not]
  constructor
  · rintro ⟨⟨h1, h2, h3⟩, h4, h5, h6⟩
    obtain ⟨p, hp, hap⟩ := h.has (show a < n by omega)
    obtain ⟨q, hq, hbq⟩ := h.has (show b < n by omega)
    rw [h.lotW hp hap, h.lotW hq hbq] at h4
    rw [h.lotW hp hap] at h5
    rw [h.lotW hq hbq] at h6
    exact ⟨h1, h2, h3, p, hp, q, hq, h4, hap, h5, hbq, h6⟩
  · rintro ⟨h1, h2, h3, p, hp, q, hq, h4, hap, h5, hbq, h6⟩
    rw [h.lotW hp hap, h.lotW hq hbq]
    exact ⟨⟨h1, h2, h3⟩, h4, h5, h6⟩
/-- crossing's word -/
theorem cross_cases (h : IsDeal n D) : (isClear D = true ∧ crossD D n = dClear) ∨ ∃ a b c d, isClear D = false ∧ a < n ∧ b < n ∧ c < n ∧ d < n ∧ isFour D a b c d = true ∧ crossD D n = dCross [a, b, c, d] := by
  unfold crossD
  cases q : crossF D n with
  | none =>
    refine .inl ⟨(isClear_iff h).mpr fun p hp r hr hpr hc => ?_, rfl⟩
    obtain ⟨w, x, y, z, a1, a2, a3, hw, hy, hx, hz⟩ := hc
    have hzn := h.lt hr hz
    have hf := (four_iff h hzn).mpr ⟨a1, a2, a3, p, hp, r, hr, hpr, hw, hy, hx, hz⟩
    have := List.find?_eq_none.mp q [w, x, y, z] ((foursL_mem n _).mpr ⟨w, x, y, z, rfl, a1, a2, a3, hzn⟩)
    exact this hf
  | some x =>
    obtain ⟨a, b, c, d, rfl, h1, h2, h3, h4⟩ := (foursL_mem n x).mp (List.mem_of_find?_eq_some q)
    have hf : isFourL D [a, b, c, d] = true := List.find?_some q
    refine .inr ⟨a, b, c, d, ?_, by omega, by omega, by omega, h4, hf, rfl⟩
    obtain ⟨_, _, _, p, hp, r, hr, hpr, hap, hcp, hbr, hdr⟩ := (four_iff h h4).mp hf
    cases z : isClear D with
    | false => rfl
    | true => exact absurd ⟨a, b, c, d, h1, h2, h3, hap, hcp, hbr, hdr⟩ ((isClear_iff h).mp z p hp r hr hpr)
/-- the four of a crossing lie in one lot of what is cleared -/
theorem four_in (h : IsDeal n D) {T : List (List Nat)} (c : Clr n D T) {a b c' d : Nat} (hd : d < n) (hf : isFour D a b c' d = true) : ∃ t ∈ T, a ∈ t ∧ b ∈ t ∧ c' ∈ t ∧ d ∈ t := by
  obtain ⟨h1, h2, h3, p, hp, q, hq, hpq, hap, hcp, hbq, hdq⟩ := (four_iff h hd).mp hf
  obtain ⟨t, ht, s1⟩ := c.up p hp
  obtain ⟨t2, ht2, s2⟩ := c.up q hq
  have e : t = t2 := Classical.byContradiction fun z => (isClear_iff c.deal).mp c.clear t ht t2 ht2 z ⟨a, b, c', d, h1, h2, h3, s1 a hap, s1 c' hcp, s2 b hbq, s2 d hdq⟩
  subst e
  exact ⟨t, ht, s1 a hap, s2 b hbq, s1 c' hcp, s2 d hdq⟩
/-- .. and what has all the lots has all of what is cleared -/
theorem clr_fin {T P : List (List Nat)} (hP : IsDeal n P) (cP : isClear P = true) (c : Clr n D T) : Fin2 D P ↔ Fin2 T P := ⟨c.low P (hP.apt cP), fun h => c.up.trans h⟩
end Rng
namespace Rng
open PySem PySem.Spec PyProof.Rows L2
theorem cut_to {ds : List PyData} (k : Nat) : cutD ds none (some (k : Int)) = ds.take k := by
  unfold cutD
  rw [HT.sIx_nat, HT.sIx_none, List.drop_zero, Nat.sub_zero]
  by_cases h : k ≤ ds.length
  · rw [Nat.min_eq_left h]
  · rw [Nat.min_eq_right (by omega), List.take_of_length_le (Nat.le_refl _), List.take_of_length_le (by omega)]
theorem eLot_snoc (l : List Nat) (i : Nat) : PyData.tuple ((zs l).map .int ++ [eN i]) = eLot (l ++ [i]) := by
  unfold eLot tI
  rw [zs_append, List.map_append]
  rfl
theorem int_nat {a b : Nat} {r : List PyData} (h : [eN a] = eN b :: r) : a = b := by
  have q : (a : Int) = (b : Int) := PyData.int.inj (List.cons.inj h).1
  omega
theorem split_at {α : Type} {L : List α} {k : Nat} (h : k < L.length) : L = L.take k ++ L[k] :: L.drop (k + 1) := by
  rw [← List.drop_eq_getElem_cons h, List.take_append_drop]
theorem ite_t {b : Bool} {A B : Prop} (h : b = true) (a : A) : if b = true then A else B := by rw [if_pos h]; exact a
theorem ite_f {b : Bool} {A B : Prop} (h : b = false) (a : B) : if b = true then A else B := by rw [if_neg (by rw [h]; decide)]; exact a
section
variable {P : Program} {w : World} {K : PySem.W.Frag} {mg : Str → Option Value} {base : Heap} {f : Addr} {fd : FuncData}
abbrev Pre_N : List PyData → Prop := fun ds => ∃ n : Nat, 1 ≤ n ∧ n ≤ 8 ∧ ds = [eN n]
abbrev Post_law_parting : List PyData → PyData → Prop := fun ds d => ∃ (n : Nat) (D : List (List Nat)), ds = [eN n] ∧ IsDeal n D ∧ isClear D = true ∧ d = eDeal D
abbrev Post_law_deal : List PyData → PyData → Prop := fun ds d => ∃ (n : Nat) (D : List (List Nat)), ds = [eN n] ∧ IsDeal n D ∧ d = eDeal D
abbrev N_law_parting : List Str := ["_law_pen_here", "_law_many", "_law_lots", "_law_shut", "_law_seat", "_law_at"]
theorem sc_law_parting : FnScope N_law_parting ["_law_pen_here", "_law_many"] (defScope s_law_parting) := ⟨rfl, rfl, rfl, by decide +kernel, rfl, by decide +kernel, by decide +kernel⟩
theorem c_law_parting (T : Txt mg) (C_law_draw : CalP P w K mg base 1 "_law_draw" ["_law_pen_here", "_law_many"] Pre_law_draw Post_law_draw) (h : Has K mg "_law_parting" s_law_parting f fd) : CalP P w K mg base 2 "_law_parting" ["_law_pen_here", "_law_many"] Pre_N Post_law_parting := by
  refine CalS.mk' h (fn_O h.1 sc_law_parting (fun ds ⟨n, _, _, e⟩ => by rw [e]; rfl) (by decide) (fun cdv A outer s H E hr => ⟨_, (oss_cons (os_par (i := 2) (j := 3) rfl sc_law_parting.nd rfl rfl (by decide) rfl rfl (oa_cons (oe_pure (de_lst da_nil)) (oa_cons (oe_pure (de_lst da_nil)) oa_nil)) (by rfl))
      (oss_cons (os_for PassesOwn.never (oi_range1 rfl T.range (de_var 1)) (og_name (i := 4) sc_law_parting.nd rfl (Or.inl rfl)) (oss_cons (os_set (i := 5) sc_law_parting.nd rfl (Or.inl rfl) (oe_pen (i := 0) C_law_draw hr (by decide) rfl (oa_cons (oe_pure (de_op op_add vop_I (de_callB call_len_seq vc_len rfl T.len (by decide +kernel) (da_cons (de_var 2) da_nil)) de_int)) oa_nil)))
      (oss_one (os_if (ot_pure (dt_cmp op_lt vop_B (de_var 5) (de_callB call_len_seq vc_len rfl T.len (by decide +kernel) (da_cons (de_var 2) da_nil)) (nomark _))) (oss_one (os_par (i := 2) (j := 3) rfl sc_law_parting.nd rfl rfl (by decide) rfl rfl (oa_cons (oe_pure (de_op op_cat vop_catL (de_slL (de_var 2) do_none (do_some (de_var 5))) (de_lst (da_cons (de_op op_catA vop_catT (de_ixL (de_var 2) (de_var 5) (fun _ _ => rfl)) (de_tup (da_cons (de_var 4) da_nil))) da_nil)))) (oa_cons (oe_pure (de_op op_cat vop_catL (de_var 3) (de_slL (de_var 2) (do_some (de_op op_add vop_I (de_var 5) de_int)) do_none))) oa_nil)) (by rfl))) (oss_one (os_set (i := 2) sc_law_parting.nd rfl (Or.inl rfl) (oe_pure (de_op op_cat vop_catL (de_var 2) (de_lst (da_cons (de_tup (da_cons (de_var 4) da_nil)) da_nil))))))))))
      (oss_one (os_ret (oe_pure (de_callTy call_tuple_of vc_tuple rfl T.tuple (by decide +kernel) (da_cons (de_callB cr_sortLx vc_sortLx rfl T.sorted (by decide +kernel) (da_cons (de_op op_cat vop_catL (de_var 2) (de_var 3)) da_nil)) da_nil))))))), fun ds ⟨n, n1, n8, e⟩ => ?_⟩)) (fun _ _ _ _ _ _ us hl => match us, hl with | [_, _], _ => rfl)
  subst e
  refine ⟨_, ⟨_, rfl, Nat.zero_le _, rfl⟩, _, ⟨_, rfl, Nat.zero_le _, rfl⟩, _, _, rfl, ?_⟩
  refine ⟨n, rfl, by omega, fun i ρ ω => ∃ o1 o2 L S, ρ = [none, some (eN n), some (eLots L), some (eLots S), o1, o2] ∧ ω = [.pen, .no, .no, .no, .no, .no] ∧ PInv i L S, ⟨none, none, [], [], rfl, rfl, PInv.zero⟩, ?_, ?_⟩
  · rintro i d ρ ω hd ⟨o1, o2, L, S, rfl, rfl, hI⟩
    obtain ⟨rfl, hi⟩ := rngD_at hd
    have hLS := hI.d.len
    rw [List.length_append] at hLS
    refine ⟨rfl, _, ⟨_, _, ⟨_, ⟨_, _, rfl, rfl, rfl⟩, _, .inl rfl, rfl⟩, rfl, _, _, rfl, rfl, rfl⟩, rfl, ⟨L.length + 1, by omega, by omega, by rw [List.length_map]; rfl⟩, fun d ⟨m, k, e, hk, e2⟩ => ?_⟩
    subst e2
    have em : m = L.length + 1 := by
      have e' : [eN (L.length + 1)] = [eN m] := by
        rw [← e, List.length_map]
        rfl
      exact (int_nat e').symm
    subst em
    refine ⟨decide (k < L.length), ⟨_, _, rfl, ⟨_, ⟨_, _, rfl, rfl, rfl⟩, _, .inl rfl, rfl⟩, _, _, rfl, rfl, congrArg PyData.bool (decide_eq_decide.mpr (by rw [List.length_map]; omega))⟩, ?_⟩
    by_cases hkl : k < L.length
    · refine ite_t (decide_eq_true hkl) ?_
      have esp := split_at hkl
      have hll := hI.d.llen (l := L[k]) (List.mem_append_left _ (List.getElem_mem hkl))
      refine ⟨eLots (L.take k ++ [L[k] ++ [i]]), ⟨_, _, ⟨_, _, _, rfl, rfl, ⟨_, rfl, rfl⟩, _, rfl, rfl⟩, ⟨_, ⟨_, _, ⟨_, _, ⟨_, _, rfl, rfl, _, _, rfl, rfl, atI_nat (x := eLot L[k]) ?_⟩, ⟨_, ⟨_, _, rfl, rfl, rfl⟩, by show 1 ≤ sizeLine; decide, rfl⟩, _, _, rfl, rfl, ?_, rfl⟩, rfl, rfl⟩, by show 1 ≤ sizeLine; decide, rfl⟩, _, _, rfl, rfl, ?_, ?_⟩, eLots (S ++ L.drop (k + 1)), ⟨_, _, rfl, ⟨_, _, _, rfl, ⟨((k : Int) + 1), ⟨_, _, rfl, rfl, _, _, rfl, rfl, rfl⟩, rfl⟩, rfl, _, rfl, rfl⟩, _, _, rfl, rfl, ?_, ?_⟩, _, _, rfl, ?_⟩
      · rw [List.getElem?_map, List.getElem?_eq_getElem hkl]
        rfl
      · rw [List.length_map, zs_len]
        show _ + 1 ≤ _
        omega
      · rw [cut_to, List.length_take, List.length_map]
        show _ + 1 ≤ _
        omega
      · rw [cut_to, eLot_snoc]
        show PyData.list _ = _
        rw [List.map_append, List.map_take]
        rfl
      · have q := cut_from (ds := L.map eLot) (k + 1)
        have e3 : cutD (L.map eLot) (some ((k : Int) + 1)) none = (L.map eLot).drop (k + 1) := q
        rw [e3, List.length_drop, List.length_map, List.length_map]
        omega
      · have q := cut_from (ds := L.map eLot) (k + 1)
        have e3 : cutD (L.map eLot) (some ((k : Int) + 1)) none = (L.map eLot).drop (k + 1) := q
        rw [e3]
        show PyData.list _ = _
        rw [List.map_append, List.map_drop]
      · rw [esp] at hI
        exact ⟨_, _, _, _, rfl, rfl, hI.join⟩
    · refine ite_f (decide_eq_false hkl) ?_
      refine ⟨eLots (L ++ [[i]]), ⟨_, _, rfl, ⟨_, ⟨_, _, ⟨_, ⟨_, _, rfl, rfl, rfl⟩, by show 1 ≤ sizeLine; decide, rfl⟩, rfl, rfl⟩, by show 1 ≤ sizeLine; decide, rfl⟩, _, _, rfl, rfl, ?_, ?_⟩, ?_⟩
      · rw [List.length_map]
        show _ + 1 ≤ _
        omega
      · show PyData.list _ = _
        rw [List.map_append]
        rfl
      · exact ⟨_, _, _, _, rfl, rfl, hI.new⟩
  · rintro ρ ω ⟨o1, o2, L, S, rfl, rfl, hI⟩
    rw [rngD_len] at hI
    obtain ⟨h1, h2⟩ := hI.deal n1 n8
    have hLS := hI.d.len
    rw [List.length_append] at hLS
    refine ⟨_, ⟨_, ⟨_, _, ⟨_, ⟨_, _, ⟨_, _, rfl, rfl, _, _, rfl, rfl, ?_, rfl⟩, rfl, rfl⟩, ?_⟩, rfl, rfl⟩, _, .inl rfl, rfl⟩, n, srtLx (L ++ S), rfl, h1, h2, rfl⟩
    · rw [List.length_map, List.length_map]
      omega
    · have q := rsort_lx (L := L ++ S) fun l hl => (hI.lot l hl).1
      unfold eLots at q
      rw [List.map_append] at q
      exact q
abbrev N_law_deal : List Str := ["_law_pen_here", "_law_many", "_law_lots", "_law_seat", "_law_at"]
theorem sc_law_deal : FnScope N_law_deal ["_law_pen_here", "_law_many"] (defScope s_law_deal) := ⟨rfl, rfl, rfl, by decide +kernel, rfl, by decide +kernel, by decide +kernel⟩
theorem c_law_deal (T : Txt mg) (C_law_draw : CalP P w K mg base 1 "_law_draw" ["_law_pen_here", "_law_many"] Pre_law_draw Post_law_draw) (h : Has K mg "_law_deal" s_law_deal f fd) : CalP P w K mg base 2 "_law_deal" ["_law_pen_here", "_law_many"] Pre_N Post_law_deal := by
  refine CalS.mk' h (fn_O h.1 sc_law_deal (fun ds ⟨n, _, _, e⟩ => by rw [e]; rfl) (by decide) (fun cdv A outer s H E hr => ⟨_, (oss_cons (os_set (i := 2) sc_law_deal.nd rfl (Or.inl rfl) (oe_pure (de_lst da_nil)))
      (oss_cons (os_for PassesOwn.never (oi_range1 rfl T.range (de_var 1)) (og_name (i := 3) sc_law_deal.nd rfl (Or.inl rfl)) (oss_cons (os_set (i := 4) sc_law_deal.nd rfl (Or.inl rfl) (oe_pen (i := 0) C_law_draw hr (by decide) rfl (oa_cons (oe_pure (de_op op_add vop_I (de_callB call_len_seq vc_len rfl T.len (by decide +kernel) (da_cons (de_var 2) da_nil)) de_int)) oa_nil)))
      (oss_one (os_set (i := 2) sc_law_deal.nd rfl (Or.inl rfl) (oe_pure (de_ifExp (dt_cmp op_lt vop_B (de_var 4) (de_callB call_len_seq vc_len rfl T.len (by decide +kernel) (da_cons (de_var 2) da_nil)) (nomark _)) (de_op op_cat vop_catL (de_op op_cat vop_catL (de_slL (de_var 2) do_none (do_some (de_var 4))) (de_lst (da_cons (de_op op_catA vop_catT (de_ixL (de_var 2) (de_var 4) (fun _ _ => rfl)) (de_tup (da_cons (de_var 3) da_nil))) da_nil))) (de_slL (de_var 2) (do_some (de_op op_add vop_I (de_var 4) de_int)) do_none)) (de_op op_cat vop_catL (de_var 2) (de_lst (da_cons (de_tup (da_cons (de_var 3) da_nil)) da_nil)))))))))
      (oss_one (os_ret (oe_pure (de_callTy call_tuple_of vc_tuple rfl T.tuple (by decide +kernel) (da_cons (de_callB cr_sortLx vc_sortLx rfl T.sorted (by decide +kernel) (da_cons (de_var 2) da_nil)) da_nil))))))), fun ds ⟨n, n1, n8, e⟩ => ?_⟩)) (fun _ _ _ _ _ _ us hl => match us, hl with | [_, _], _ => rfl)
  subst e
  refine ⟨_, ⟨_, rfl, Nat.zero_le _, rfl⟩, ?_⟩
  refine ⟨n, rfl, by omega, fun i ρ ω => ∃ o1 o2 L, ρ = [none, some (eN n), some (eLots L), o1, o2] ∧ ω = [.pen, .no, .no, .no, .no] ∧ DInv i L, ⟨none, none, [], rfl, rfl, DInv.zero⟩, ?_, ?_⟩
  · rintro i d ρ ω hd ⟨o1, o2, L, rfl, rfl, hI⟩
    obtain ⟨rfl, hi⟩ := rngD_at hd
    have hL := hI.len
    refine ⟨rfl, _, ⟨_, _, ⟨_, ⟨_, _, rfl, rfl, rfl⟩, _, .inl rfl, rfl⟩, rfl, _, _, rfl, rfl, rfl⟩, rfl, ⟨L.length + 1, by omega, by omega, by rw [List.length_map]; rfl⟩, fun d ⟨m, k, e, hk, e2⟩ => ?_⟩
    subst e2
    have em : m = L.length + 1 := by
      have e' : [eN (L.length + 1)] = [eN m] := by
        rw [← e, List.length_map]
        rfl
      exact (int_nat e').symm
    subst em
    by_cases hkl : k < L.length
    · have esp := split_at hkl
      have hll := hI.llen (l := L[k]) (List.getElem_mem hkl)
      refine ⟨eLots (L.take k ++ [L[k] ++ [i]] ++ L.drop (k + 1)), ⟨decide (k < L.length), ⟨_, _, rfl, ⟨_, ⟨_, _, rfl, rfl, rfl⟩, _, .inl rfl, rfl⟩, _, _, rfl, rfl, congrArg PyData.bool (decide_eq_decide.mpr (by rw [List.length_map]; omega))⟩, ?_⟩, ?_⟩
      · refine ite_t (decide_eq_true hkl) ?_
        refine ⟨eLots (L.take k ++ [L[k] ++ [i]]), _, ⟨_, _, ⟨_, _, _, rfl, rfl, ⟨_, rfl, rfl⟩, _, rfl, rfl⟩, ⟨_, ⟨_, _, ⟨_, _, ⟨_, _, rfl, rfl, _, _, rfl, rfl, atI_nat (x := eLot L[k]) ?_⟩, ⟨_, ⟨_, _, rfl, rfl, rfl⟩, by show 1 ≤ sizeLine; decide, rfl⟩, _, _, rfl, rfl, ?_, rfl⟩, rfl, rfl⟩, by show 1 ≤ sizeLine; decide, rfl⟩, _, _, rfl, rfl, ?_, ?_⟩, ⟨_, _, _, rfl, ⟨((k : Int) + 1), ⟨_, _, rfl, rfl, _, _, rfl, rfl, rfl⟩, rfl⟩, rfl, _, rfl, rfl⟩, _, _, rfl, rfl, ?_, ?_⟩
        · rw [List.getElem?_map, List.getElem?_eq_getElem hkl]
          rfl
        · rw [List.length_map, zs_len]
          show _ + 1 ≤ _
          omega
        · rw [cut_to, List.length_take, List.length_map]
          show _ + 1 ≤ _
          omega
        · rw [cut_to, eLot_snoc]
          show PyData.list _ = _
          rw [List.map_append, List.map_take]
          rfl
        · have q := cut_from (ds := L.map eLot) (k + 1)
          have e3 : cutD (L.map eLot) (some ((k : Int) + 1)) none = (L.map eLot).drop (k + 1) := q
          rw [e3, List.length_drop, List.length_map, List.length_map, List.length_append, List.length_take]
          show _ + 1 + _ ≤ _
          omega
        · have q := cut_from (ds := L.map eLot) (k + 1)
          have e3 : cutD (L.map eLot) (some ((k : Int) + 1)) none = (L.map eLot).drop (k + 1) := q
          rw [e3]
          show PyData.list _ = _
          rw [List.map_append, List.map_drop]
      · rw [esp] at hI
        exact ⟨_, _, _, rfl, rfl, hI.join⟩
    · refine ⟨eLots (L ++ [[i]]), ⟨decide (k < L.length), ⟨_, _, rfl, ⟨_, ⟨_, _, rfl, rfl, rfl⟩, _, .inl rfl, rfl⟩, _, _, rfl, rfl, congrArg PyData.bool (decide_eq_decide.mpr (by rw [List.length_map]; omega))⟩, ?_⟩, ?_⟩
      · refine ite_f (decide_eq_false hkl) ?_
        refine ⟨_, _, rfl, ⟨_, ⟨_, _, ⟨_, ⟨_, _, rfl, rfl, rfl⟩, by show 1 ≤ sizeLine; decide, rfl⟩, rfl, rfl⟩, by show 1 ≤ sizeLine; decide, rfl⟩, _, _, rfl, rfl, ?_, ?_⟩
        · rw [List.length_map]
          show _ + 1 ≤ _
          omega
        · show PyData.list _ = _
          rw [List.map_append]
          rfl
      · exact ⟨_, _, _, rfl, rfl, hI.new⟩
  · rintro ρ ω ⟨o1, o2, L, rfl, rfl, hI⟩
    rw [rngD_len] at hI
    exact ⟨_, ⟨_, ⟨_, _, ⟨_, ⟨_, _, rfl, rfl, rfl⟩, rsort_lx fun l hl => (hI.lot l hl).1⟩, rfl, rfl⟩, _, .inl rfl, rfl⟩, n, srtLx L, rfl, srt_deal n1 n8 hI.lot hI.cov, rfl⟩
end
end Rng
/-! plain: the law's own fours, puts and laid deals -/
namespace Rng
variable {n : Nat} {D A B L : List (List Nat)}
/-! ### in order -/
theorem inOrder_mem {t : List Nat} : t ∈ inOrder L ↔ ∃ l ∈ L, sset l = t := by
  unfold inOrder
  rw [srt_mem, List.mem_map]
theorem inOrder_fin (h : LotsP L) : Fin2 L (inOrder L) := fun l hl => ⟨sset l, inOrder_mem.mpr ⟨l, hl, rfl⟩, sub_sset (h.l8 l hl)⟩
theorem inOrder_low {P : List (List Nat)} (h : Fin2 L P) : Fin2 (inOrder L) P := fun t ht => by
  obtain ⟨l, hl, rfl⟩ := inOrder_mem.mp ht
  obtain ⟨p, hp, hs⟩ := h l hl
  exact ⟨p, hp, (sset_sub l).trans hs⟩
theorem inOrder_deal (n1 : 1 ≤ n) (n8 : n ≤ 8) (h : LotsP L) (dj : L.Pairwise fun a b => ∀ s ∈ a, s ∉ b) (hs : ∀ s, s < n ↔ ∃ l ∈ L, s ∈ l) : IsDeal n (inOrder L) := by
  refine srt_deal n1 n8 (fun l hl => ?_) (nd_perm ?_ List.nodup_range fun s => ?_)
  · obtain ⟨k, hk, rfl⟩ := List.mem_map.mp hl
    exact ⟨sset_ne (h.ne k hk) (h.l8 k hk), sset_pw k⟩
  · show (L.map sset).flatten.Pairwise (· ≠ ·)
    refine List.pairwise_flatten.mpr ⟨fun t ht => ?_, List.pairwise_map.mpr (dj.imp fun {a b} hab x hx y hy e => ?_)⟩
    · obtain ⟨k, hk, rfl⟩ := List.mem_map.mp ht
      exact pw_nd (sset_pw k)
    · subst e
      exact hab x (sset_sub a x hx) (sset_sub b x hy)
  · rw [List.mem_flatten, List.mem_range, hs]
    constructor
    · rintro ⟨t, ht, hst⟩
      obtain ⟨k, hk, rfl⟩ := List.mem_map.mp ht
      exact ⟨k, hk, sset_sub k s hst⟩
    · rintro ⟨l, hl, hsl⟩
      exact ⟨sset l, List.mem_map.mpr ⟨l, hl, rfl⟩, sub_sset (h.l8 l hl) s hsl⟩
/-! ### put -/
theorem head_mem {l : List Nat} (h : IsLot l) : l.headD 0 ∈ l := by
  cases l with
  | nil => exact absurd rfl h.1
  | cons x r => exact List.mem_cons_self
theorem two_list {l : List (List Nat)} {p q : List Nat} (hn : l.Nodup) (hm : ∀ x, x ∈ l ↔ x = p ∨ x = q) (hpq : p ≠ q) : l = [p, q] ∨ l = [q, p] := by
  have hp : l.Perm [p, q] := (List.perm_ext_iff_of_nodup hn (by simp [hpq])).mpr fun x => by rw [hm]; simp
  have hl := hp.length_eq
  match l, hl with
  | [u, v], _ =>
    have hu := (hm u).mp (by simp)
    have hv := (hm v).mp (by simp)
    have huv : u ≠ v := fun e => by subst e; simp at hn
    rcases hu with e1 | e1 <;> rcases hv with e2 | e2
    · exact absurd (e1.trans e2.symm) huv
    · exact .inl (by rw [e1, e2])
    · exact .inr (by rw [e1, e2])
    · exact absurd (e1.trans e2.symm) huv
structure PutL (n : Nat) (D : List (List Nat)) (a b : Nat) (la lb : List Nat) : Prop where
  both : lawBoth D a b = [la, lb] ∨ lawBoth D a b = [lb, la]
  lots : LotsP (lawPutL D a b)
  deal : IsDeal n (inOrder (lawPutL D a b))
  up : Fin2 D (inOrder (lawPutL D a b))
  one : ∃ t ∈ inOrder (lawPutL D a b), a ∈ t ∧ b ∈ t
theorem put_form {a b : Nat} {x y : List Nat} (e : lawBoth D a b = [x, y]) : lawPutL D a b = (D.filter fun l => !decide (l ∈ lawBoth D a b)) ++ [x ++ y] := by
  unfold lawPutL
  have e1 : (lawBoth D a b).headD [] = x := by rw [e]; rfl
  have e2 : ((lawBoth D a b).drop 1).headD [] = y := by rw [e]; rfl
  rw [e1, e2]
theorem put_all (h : IsDeal n D) {la lb : List Nat} (ha : la ∈ D) (hb : lb ∈ D) {a b : Nat} (ea : la.headD 0 = a) (eb : lb.headD 0 = b) (hab : a ≠ b) : PutL n D a b la lb := by
  have hne : la ≠ lb := fun e => hab (by rw [← ea, ← eb, e])
  have n8 := h.n8
  have hl := h.len
  have head1 : ∀ x ∈ D, ∀ y ∈ D, x.headD 0 = y.headD 0 → x = y := fun x hx y hy e => h.one hx hy (head_mem (h.lot x hx)) (by rw [e]; exact head_mem (h.lot y hy))
  have hm : ∀ x, x ∈ lawBoth D a b ↔ x = la ∨ x = lb := fun x => by
    unfold lawBoth
    rw [List.mem_filter, Bool.or_eq_true, decide_eq_true_iff, decide_eq_true_iff]
    constructor
    · rintro ⟨hx, e | e⟩
      · exact .inl (head1 x hx la ha (e.trans ea.symm))
      · exact .inr (head1 x hx lb hb (e.trans eb.symm))
    · rintro (e | e)
      · rw [e]; exact ⟨ha, .inl ea⟩
      · rw [e]; exact ⟨hb, .inr eb⟩
  have both : lawBoth D a b = [la, lb] ∨ lawBoth D a b = [lb, la] := two_list (h.nodup.filter _) hm hne
  have lp := h.lotp ha hb hne
  -- the joined lot
  obtain ⟨j, ej, mj, nj⟩ : ∃ j : List Nat, lawPutL D a b = (D.filter fun l => !decide (l ∈ lawBoth D a b)) ++ [j] ∧ (∀ s, s ∈ j ↔ s ∈ la ∨ s ∈ lb) ∧ j.Nodup := by
    rcases both with e | e
    · exact ⟨la ++ lb, put_form e, fun s => List.mem_append, lp.nd⟩
    · exact ⟨lb ++ la, put_form e, fun s => by rw [List.mem_append]; exact or_comm, lp.symm.nd⟩
  have mem : ∀ l, l ∈ lawPutL D a b ↔ (l ∈ D ∧ l ≠ la ∧ l ≠ lb) ∨ l = j := fun l => by
    rw [ej, List.mem_append, List.mem_filter, List.mem_singleton, Bool.not_eq_true', decide_eq_false_iff_not, hm, not_or]
  have j8 : ∀ s ∈ j, s < 8 := fun s hs => ((mj s).mp hs).elim (lp.la s) (lp.lb s)
  have haj : a ∈ j := (mj a).mpr (.inl (by rw [← ea]; exact head_mem (h.lot la ha)))
  have hbj : b ∈ j := (mj b).mpr (.inr (by rw [← eb]; exact head_mem (h.lot lb hb)))
  have lots : LotsP (lawPutL D a b) := by
    refine ⟨fun l hl => ?_, fun l hl => ?_, fun l hl s hs => ?_, ?_⟩
    · rcases (mem l).mp hl with ⟨q, _, _⟩ | q
      · exact (h.lot l q).1
      · rw [q]; exact fun e => by rw [e] at haj; cases haj
    · rcases (mem l).mp hl with ⟨q, _, _⟩ | q
      · exact pw_nd (h.lot l q).2
      · rw [q]; exact nj
    · rcases (mem l).mp hl with ⟨q, _, _⟩ | q
      · exact h.l8 q hs
      · rw [q] at hs; exact j8 s hs
    · rw [ej, List.length_append, List.length_singleton]
      have := List.length_filter_le (fun l => !decide (l ∈ lawBoth D a b)) D
      omega
  have deal : IsDeal n (inOrder (lawPutL D a b)) := by
    refine inOrder_deal h.n1 n8 lots ?_ fun s => ?_
    · rw [ej]
      refine List.pairwise_append.mpr ⟨(h.pw.imp fun {a b} hab => hab.dj).filter _, List.pairwise_singleton _ _, fun l hl k hk => ?_⟩
      rw [List.mem_singleton.mp hk]
      obtain ⟨h1, h2⟩ := List.mem_filter.mp hl
      rw [Bool.not_eq_true', decide_eq_false_iff_not, hm, not_or] at h2
      intro s hs hsj
      rcases (mj s).mp hsj with q | q
      · exact h2.1 (h.one h1 ha hs q)
      · exact h2.2 (h.one h1 hb hs q)
    · rw [h.seats s]
      constructor
      · rintro ⟨l, hl, hs⟩
        by_cases e1 : l = la
        · exact ⟨j, (mem j).mpr (.inr rfl), (mj s).mpr (.inl (e1 ▸ hs))⟩
        · by_cases e2 : l = lb
          · exact ⟨j, (mem j).mpr (.inr rfl), (mj s).mpr (.inr (e2 ▸ hs))⟩
          · exact ⟨l, (mem l).mpr (.inl ⟨hl, e1, e2⟩), hs⟩
      · rintro ⟨l, hl, hs⟩
        rcases (mem l).mp hl with ⟨q, _, _⟩ | q
        · exact ⟨l, q, hs⟩
        · rw [q] at hs
          rcases (mj s).mp hs with z | z
          · exact ⟨la, ha, z⟩
          · exact ⟨lb, hb, z⟩
  refine ⟨both, lots, deal, Fin2.trans (fun l hl => ?_) (inOrder_fin lots), ?_⟩
  · by_cases e1 : l = la
    · exact ⟨j, (mem j).mpr (.inr rfl), fun s hs => (mj s).mpr (.inl (e1 ▸ hs))⟩
    · by_cases e2 : l = lb
      · exact ⟨j, (mem j).mpr (.inr rfl), fun s hs => (mj s).mpr (.inr (e2 ▸ hs))⟩
      · exact ⟨l, (mem l).mpr (.inl ⟨hl, e1, e2⟩), Sub.refl l⟩
  · exact ⟨sset j, inOrder_mem.mpr ⟨j, (mem j).mpr (.inr rfl), rfl⟩, sub_sset j8 a haj, sub_sset j8 b hbj⟩
theorem both_xy {a b : Nat} {la lb : List Nat} (h : PutL n D a b la lb) : ∃ x y, lawBoth D a b = x :: y :: [] := by
  rcases h.both with e | e
  · exact ⟨_, _, e⟩
  · exact ⟨_, _, e⟩
/-! ### the law's fours -/
def pairsPre (l : List Nat) (i : Nat) : List (Nat × Nat) := (List.range i).flatMap fun k => (l.drop (k + 1)).map fun h => (l.getD k 0, h)
def pairsL (l : List Nat) : List (Nat × Nat) := pairsPre l l.length
def foursB (o : List Nat) (p : Nat × Nat) (b : Nat) : List (List Nat) := (o.filter fun s => decide (p.2 < s)).map fun s => [p.1, b, p.2, s]
def foursP (o : List Nat) (p : Nat × Nat) : List (List Nat) := (o.filter fun s => decide (p.1 < s) && decide (s < p.2)).flatMap (foursB o p)
def foursO (l o : List Nat) : List (List Nat) := (pairsL l).flatMap (foursP o)
def foursOf (D : List (List Nat)) (l : List Nat) : List (List Nat) := (D.filter fun o => !decide (o = l)).flatMap (foursO l)
def lawFours (D : List (List Nat)) : List (List Nat) := srtLx (D.flatMap (foursOf D))
theorem flat_len {α β : Type} {G : α → List β} {c : Nat} : ∀ {l : List α}, (∀ x ∈ l, (G x).length ≤ c) → (l.flatMap G).length ≤ l.length * c
  | [], _ => by simp
  | x :: l, h => by
    have ih := flat_len (G := G) (c := c) (l := l) fun y hy => h y (List.mem_cons_of_mem _ hy)
    have h1 := h x List.mem_cons_self
    rw [List.flatMap_cons, List.length_append, List.length_cons, Nat.succ_mul]
    omega
theorem fm_step {α β : Type} {G : α → List β} {l : List α} {i : Nat} {x : α} (h : l[i]? = some x) : (l.take (i + 1)).flatMap G = (l.take i).flatMap G ++ G x := by
  rw [List.take_add_one, h, List.flatMap_append]
  simp
theorem pairs_step {l : List Nat} {i : Nat} {x : Nat} (h : l[i]? = some x) : pairsPre l (i + 1) = pairsPre l i ++ (l.drop (i + 1)).map fun k => (x, k) := by
  unfold pairsPre
  rw [List.range_succ, List.flatMap_append]
  simp [h]
theorem mem_drop_pw {l : List Nat} (h : l.Pairwise (· < ·)) {i : Nat} {x y : Nat} (hx : l[i]? = some x) (hy : y ∈ l) (hxy : x < y) : y ∈ l.drop (i + 1) := by
  obtain ⟨hi, e⟩ := List.getElem?_eq_some_iff.mp hx
  have es : l = l.take i ++ x :: l.drop (i + 1) := by rw [← e, ← List.drop_eq_getElem_cons hi, List.take_append_drop]
  rw [es] at hy h
  rcases List.mem_append.mp hy with q | q
  · have := (List.pairwise_append.mp h).2.2 y q x List.mem_cons_self
    omega
  · rcases List.mem_cons.mp q with q | q
    · omega
    · exact q
theorem pairs_mem {l : List Nat} (h : l.Pairwise (· < ·)) {x y : Nat} (hx : x ∈ l) (hy : y ∈ l) (hxy : x < y) : (x, y) ∈ pairsL l := by
  obtain ⟨i, hi, e⟩ := List.getElem_of_mem hx
  have hx? : l[i]? = some x := by rw [List.getElem?_eq_getElem hi, e]
  unfold pairsL pairsPre
  refine List.mem_flatMap.mpr ⟨i, List.mem_range.mpr hi, List.mem_map.mpr ⟨y, mem_drop_pw h hx? hy hxy, ?_⟩⟩
  simp [hx?]
theorem fours_clear (h : IsDeal n D) (e : lawFours D = []) : isClear D = true := by
  refine (isClear_iff h).mpr fun a ha b hb hab hc => ?_
  obtain ⟨w, x, y, z, h1, h2, h3, hw, hy, hx, hz⟩ := hc
  have m : [w, x, y, z] ∈ lawFours D := by
    unfold lawFours
    rw [srt_mem]
    refine List.mem_flatMap.mpr ⟨a, ha, List.mem_flatMap.mpr ⟨b, List.mem_filter.mpr ⟨hb, ?_⟩, List.mem_flatMap.mpr ⟨(w, y), pairs_mem (h.lot a ha).2 hw hy (by omega), List.mem_flatMap.mpr ⟨x, List.mem_filter.mpr ⟨hx, ?_⟩, List.mem_map.mpr ⟨z, List.mem_filter.mpr ⟨hz, ?_⟩, rfl⟩⟩⟩⟩⟩
    · simp [Ne.symm hab]
    · simp [h1, h2]
    · simp [h3]
  rw [e] at m
  cases m
/-! ### laid -/
def Dj (P : List (List Nat)) : Prop := ∀ a ∈ P, ∀ b ∈ P, ∀ s, s ∈ a → s ∈ b → a = b
theorem IsDeal.dj (h : IsDeal n D) : Dj D := fun a ha b hb s h1 h2 => h.one ha hb h1 h2
def near (own : List Nat) (l : List Nat) : Bool := !decide ((l.filter fun s => decide (s ∈ own)) = [])
theorem near_iff {own l : List Nat} : near own l = true ↔ ∃ s, s ∈ l ∧ s ∈ own := by
  unfold near
  rw [Bool.not_eq_true', decide_eq_false_iff_not, List.filter_eq_nil_iff]
  constructor
  · intro h
    refine Classical.byContradiction fun z => h fun s hs q => z ⟨s, hs, of_decide_eq_true q⟩
  · rintro ⟨s, h1, h2⟩ q
    exact q s h1 (decide_eq_true h2)
structure LInv (n : Nat) (A B left found : List (List Nat)) : Prop where
  lot : ∀ l ∈ left ++ found, IsLot l ∧ ∀ s ∈ l, s < 8
  tot : left.flatten.length ≤ 16
  len : left.length + found.length ≤ 16
  sep : found.Pairwise fun a b => ∀ s ∈ a, s ∉ b
  off : ∀ f ∈ found, ∀ l ∈ left, ∀ s ∈ f, s ∉ l
  cov : ∀ s, s < n ↔ ∃ l ∈ left ++ found, s ∈ l
  upA : Fin2 A (left ++ found)
  upB : Fin2 B (left ++ found)
  low : ∀ P, Dj P → Fin2 A P → Fin2 B P → Fin2 (left ++ found) P
theorem Fin2.left {A B C : List (List Nat)} (h : Fin2 A B) : Fin2 A (B ++ C) := fun a ha => by
  obtain ⟨b, hb, hs⟩ := h a ha
  exact ⟨b, List.mem_append_left _ hb, hs⟩
theorem Fin2.right {A B C : List (List Nat)} (h : Fin2 A C) : Fin2 A (B ++ C) := fun a ha => by
  obtain ⟨b, hb, hs⟩ := h a ha
  exact ⟨b, List.mem_append_right _ hb, hs⟩
theorem LInv.start (hA : IsDeal n A) (hB : IsDeal n B) : LInv n A B (A ++ B) [] := by
  have n8 := hA.n8
  have a1 := hA.len
  have b1 := hB.len
  refine ⟨fun l hl => ?_, ?_, ?_, .nil, fun f hf => (by cases hf), fun s => ?_, ?_, ?_, fun P _ h1 h2 l hl => ?_⟩
  · rw [List.append_nil] at hl
    rcases List.mem_append.mp hl with q | q
    · exact ⟨hA.lot l q, fun s hs => hA.l8 q hs⟩
    · exact ⟨hB.lot l q, fun s hs => hB.l8 q hs⟩
  · rw [List.flatten_append, List.length_append, hA.flen, hB.flen]
    omega
  · rw [List.length_append, List.length_nil]
    omega
  · rw [List.append_nil, hA.seats s]
    constructor
    · rintro ⟨l, hl, hs⟩
      exact ⟨l, List.mem_append_left _ hl, hs⟩
    · rintro ⟨l, hl, hs⟩
      rcases List.mem_append.mp hl with q | q
      · exact ⟨l, q, hs⟩
      · exact (hA.seats s).mp ((hB.seats s).mpr ⟨l, q, hs⟩)
  · exact (Fin2.refl A).left.left
  · exact (Fin2.right (Fin2.refl B)).left
  · rw [List.append_nil] at hl
    rcases List.mem_append.mp hl with q | q
    · exact h1 l q
    · exact h2 l q
theorem len_sub : ∀ {a b : List Nat}, a.Nodup → (∀ s ∈ a, s ∈ b) → a.length ≤ b.length
  | [], _, _, _ => Nat.zero_le _
  | x :: r, b, hn, h => by
    obtain ⟨s, t, e⟩ := List.append_of_mem (h x List.mem_cons_self)
    obtain ⟨h1, h2⟩ := List.nodup_cons.mp hn
    have ih := len_sub (a := r) (b := s ++ t) h2 fun k hk => by
      have := h k (List.mem_cons_of_mem _ hk)
      rw [e] at this
      rcases List.mem_append.mp this with q | q
      · exact List.mem_append_left _ q
      · rcases List.mem_cons.mp q with q | q
        · rw [q] at hk; exact absurd hk h1
        · exact List.mem_append_right _ q
    rw [e, List.length_append, List.length_cons, List.length_cons]
    rw [List.length_append] at ih
    omega
theorem flat_filter (p : List Nat → Bool) : ∀ L : List (List Nat), (L.filter p).flatten.length + (L.filter fun l => !p l).flatten.length = L.flatten.length
  | [] => rfl
  | l :: L => by
    have ih := flat_filter p L
    rw [List.filter_cons, List.filter_cons, List.flatten_cons, List.length_append]
    cases q : p l with
    | true =>
      rw [if_pos rfl, if_neg (by decide), List.flatten_cons, List.length_append]
      omega
    | false =>
      rw [if_neg (by decide), if_pos (by decide), List.flatten_cons, List.length_append]
      omega
theorem len_filter (p : List Nat → Bool) : ∀ L : List (List Nat), (L.filter p).length + (L.filter fun l => !p l).length = L.length
  | [] => rfl
  | l :: L => by
    have ih := len_filter p L
    rw [List.filter_cons, List.filter_cons, List.length_cons]
    cases q : p l with
    | true =>
      rw [if_pos rfl, if_neg (by decide), List.length_cons]
      omega
    | false =>
      rw [if_neg (by decide), if_pos (by decide), List.length_cons]
      omega
/-- those not among the near -/
theorem not_near {own : List Nat} {left : List (List Nat)} : (left.filter fun l => !decide (l ∈ left.filter (near own))) = left.filter fun l => !near own l := by
  refine List.filter_congr fun l hl => ?_
  have e : decide (l ∈ left.filter (near own)) = near own l := by
    rw [Bool.eq_iff_iff, decide_eq_true_iff, List.mem_filter]
    exact ⟨fun h => h.2, fun h => ⟨hl, h⟩⟩
  rw [e]
theorem LInv.found {own : List Nat} {left fnd : List (List Nat)} (h : LInv n A B (left ++ [own]) fnd) (hn : left.filter (near own) = []) : LInv n A B left (fnd ++ [own]) := by
  have nn : ∀ l ∈ left, ∀ s ∈ own, s ∉ l := fun l hl s h1 h2 => List.filter_eq_nil_iff.mp hn l hl (near_iff.mpr ⟨s, h2, h1⟩)
  have me : ∀ l, l ∈ left ++ (fnd ++ [own]) ↔ l ∈ (left ++ [own]) ++ fnd := fun l => by simp; constructor <;> (rintro (q | q | q) <;> simp [q])
  have f1 : ∀ {X : List (List Nat)}, Fin2 X ((left ++ [own]) ++ fnd) → Fin2 X (left ++ (fnd ++ [own])) := fun h a ha => by
    obtain ⟨b, hb, hs⟩ := h a ha
    exact ⟨b, (me b).mpr hb, hs⟩
  refine ⟨fun l hl => h.lot l ((me l).mp hl), ?_, ?_, ?_, fun f hf l hl s h1 h2 => ?_, fun s => ?_, f1 h.upA, f1 h.upB, fun P hP h1 h2 l hl => h.low P hP h1 h2 l ((me l).mp hl)⟩
  · have := h.tot
    rw [List.flatten_append, List.length_append] at this
    omega
  · have := h.len
    simp only [List.length_append, List.length_singleton] at this ⊢
    omega
  · refine List.pairwise_append.mpr ⟨h.sep, List.pairwise_singleton _ _, fun f hf o ho s h1 h2 => ?_⟩
    rw [List.mem_singleton.mp ho] at h2
    exact h.off f hf own (by simp) s h1 h2
  · rcases List.mem_append.mp hf with q | q
    · exact h.off f q l (List.mem_append_left _ hl) s h1 h2
    · rw [List.mem_singleton.mp q] at h1
      exact nn l hl s h1 h2
  · rw [h.cov s]
    constructor
    · rintro ⟨l, hl, hs⟩
      exact ⟨l, (me l).mpr hl, hs⟩
    · rintro ⟨l, hl, hs⟩
      exact ⟨l, (me l).mp hl, hs⟩
theorem LInv.merge {own : List Nat} {left fnd : List (List Nat)} (h : LInv n A B (left ++ [own]) fnd) (hn : left.filter (near own) ≠ []) :
    LInv n A B ((left.filter fun l => !near own l) ++ [sset (own ++ (left.filter (near own)).flatten)]) fnd ∧ (left.filter fun l => !near own l).length < left.length ∧ (own ++ (left.filter (near own)).flatten).length ≤ 16 := by
  have hl1 := len_filter (near own) left
  have hl2 := flat_filter (near own) left
  have hl3 : (left.filter (near own)).length ≠ 0 := fun e => hn (List.eq_nil_of_length_eq_zero e)
  have tot := h.tot
  have len := h.len
  rw [List.flatten_append, List.length_append] at tot
  simp only [List.flatten_cons, List.flatten_nil, List.append_nil] at tot
  simp only [List.length_append, List.length_singleton] at len
  have hj : ∀ s, s ∈ own ++ (left.filter (near own)).flatten ↔ s ∈ own ∨ ∃ l ∈ left, near own l = true ∧ s ∈ l := fun s => by
    rw [List.mem_append, List.mem_flatten]
    simp only [List.mem_filter, and_assoc]
  have hown : own ∈ (left ++ [own]) ++ fnd := by simp
  have hleft : ∀ l ∈ left, l ∈ (left ++ [own]) ++ fnd := fun l hl => by simp [hl]
  have j8 : ∀ s ∈ own ++ (left.filter (near own)).flatten, s < 8 := fun s hs => by
    rcases (hj s).mp hs with q | ⟨l, hl, _, q⟩
    · exact (h.lot own hown).2 s q
    · exact (h.lot l (hleft l hl)).2 s q
  have jl : (own ++ (left.filter (near own)).flatten).length ≤ 16 := by
    rw [List.length_append]
    omega
  have jne : own ++ (left.filter (near own)).flatten ≠ [] := fun e => (h.lot own hown).1.1 (List.append_eq_nil_iff.mp e).1
  have js : (sset (own ++ (left.filter (near own)).flatten)).length ≤ (own ++ (left.filter (near own)).flatten).length := len_sub (pw_nd (sset_pw _)) fun s hs => sset_sub _ s hs
  generalize hje : own ++ (left.filter (near own)).flatten = j at hj j8 jl jne js
  have mem : ∀ l, l ∈ ((left.filter fun l => !near own l) ++ [sset j]) ++ fnd ↔ (l ∈ left ∧ near own l = false) ∨ l = sset j ∨ l ∈ fnd := fun l => by
    simp only [List.mem_append, List.mem_filter, List.mem_singleton, Bool.not_eq_true', or_assoc]
  have up : ∀ {X : List (List Nat)}, Fin2 X ((left ++ [own]) ++ fnd) → Fin2 X (((left.filter fun l => !near own l) ++ [sset j]) ++ fnd) := fun hX => hX.trans fun l hl => by
    have hl' : l ∈ left ∨ l = own ∨ l ∈ fnd := by simpa using hl
    have toJ : (∀ s ∈ l, s ∈ j) → ∃ b ∈ ((left.filter fun l => !near own l) ++ [sset j]) ++ fnd, Sub l b := fun q => ⟨sset j, (mem _).mpr (.inr (.inl rfl)), fun s hs => sub_sset j8 s (q s hs)⟩
    rcases hl' with q | q | q
    · cases z : near own l with
      | true => exact toJ fun s hs => (hj s).mpr (.inr ⟨l, q, z, hs⟩)
      | false => exact ⟨l, (mem l).mpr (.inl ⟨q, z⟩), Sub.refl l⟩
    · exact toJ fun s hs => (hj s).mpr (.inl (q ▸ hs))
    · exact ⟨l, (mem l).mpr (.inr (.inr q)), Sub.refl l⟩
  refine ⟨⟨fun l hl => ?_, ?_, ?_, h.sep, fun f hf l hl s h1 h2 => ?_, fun s => ?_, up h.upA, up h.upB, fun P hP h1 h2 l hl => ?_⟩, by omega, jl⟩
  · rcases (mem l).mp hl with ⟨q, _⟩ | q | q
    · exact h.lot l (hleft l q)
    · rw [q]
      exact ⟨⟨sset_ne jne j8, sset_pw j⟩, fun s hs => (sset_lt hs).1⟩
    · exact h.lot l (List.mem_append_right _ q)
  · rw [List.flatten_append, List.length_append]
    simp only [List.flatten_cons, List.flatten_nil, List.append_nil]
    have : j.length = own.length + (left.filter (near own)).flatten.length := by rw [← hje, List.length_append]
    omega
  · simp only [List.length_append, List.length_singleton]
    omega
  · have hoff : ∀ k ∈ left ++ [own], s ∉ k := fun k hk => h.off f hf k hk s h1
    rcases List.mem_append.mp hl with q | q
    · exact hoff l (List.mem_append_left _ (List.mem_filter.mp q).1) h2
    · rw [List.mem_singleton.mp q] at h2
      rcases (hj s).mp (sset_sub j s h2) with z | ⟨k, hk, _, z⟩
      · exact hoff own (by simp) z
      · exact hoff k (List.mem_append_left _ hk) z
  · rw [h.cov s]
    constructor
    · rintro ⟨l, hl, hs⟩
      obtain ⟨b, hb, hsub⟩ := up (Fin2.refl _) l hl
      exact ⟨b, hb, hsub s hs⟩
    · rintro ⟨l, hl, hs⟩
      rcases (mem l).mp hl with ⟨q, _⟩ | q | q
      · exact ⟨l, hleft l q, hs⟩
      · rw [q] at hs
        rcases (hj s).mp (sset_sub j s hs) with z | ⟨k, hk, _, z⟩
        · exact ⟨own, hown, z⟩
        · exact ⟨k, hleft k hk, z⟩
      · exact ⟨l, List.mem_append_right _ q, hs⟩
  · have hlow := h.low P hP h1 h2
    rcases (mem l).mp hl with ⟨q, _⟩ | q | q
    · exact hlow l (hleft l q)
    · obtain ⟨p, hp, hs⟩ := hlow own hown
      refine ⟨p, hp, fun s hs2 => ?_⟩
      rw [q] at hs2
      rcases (hj s).mp (sset_sub j s hs2) with z | ⟨k, hk, hnk, z⟩
      · exact hs s z
      · obtain ⟨p2, hp2, hs3⟩ := hlow k (hleft k hk)
        obtain ⟨t, ht1, ht2⟩ := near_iff.mp hnk
        have e := hP p hp p2 hp2 t (hs t ht2) (hs3 t ht1)
        rw [e]
        exact hs3 s z
    · exact hlow l (List.mem_append_right _ q)
structure Laid (n : Nat) (A B D : List (List Nat)) : Prop where
  deal : IsDeal n D
  upA : Fin2 A D
  upB : Fin2 B D
  low : ∀ P, Dj P → Fin2 A P → Fin2 B P → Fin2 D P
theorem LInv.lots {fnd : List (List Nat)} (h : LInv n A B [] fnd) : LotsP fnd := ⟨fun l hl => (h.lot l (by simpa using hl)).1.1, fun l hl => pw_nd (h.lot l (by simpa using hl)).1.2, fun l hl => (h.lot l (by simpa using hl)).2, by have := h.len; omega⟩
theorem LInv.done {fnd : List (List Nat)} (hA : IsDeal n A) (h : LInv n A B [] fnd) : Laid n A B (inOrder fnd) := by
  have l := h.lots
  refine ⟨inOrder_deal hA.n1 hA.n8 l h.sep (by simpa using h.cov), Fin2.trans (by simpa using h.upA) (inOrder_fin l), Fin2.trans (by simpa using h.upB) (inOrder_fin l), fun P hP h1 h2 => inOrder_low (by simpa using h.low P hP h1 h2)⟩
/-- cleared of what is laid is what over gives -/
theorem laid_over (hA : IsDeal n A) (hB : IsDeal n B) {E : List (List Nat)} (h : Laid n A B E) : clearedBy E = clearedBy (overL A B) := by
  have c1 := cleared_all h.deal
  obtain ⟨ok, hl⟩ := overL_ok hA hB
  have hm : ∀ l, l ∈ overL A B ↔ l ∈ A ∨ l ∈ B := fun l => by
    unfold overL
    rw [List.mem_append, List.mem_filter]
    by_cases q : l ∈ A <;> simp [q]
  have c2 := clearedBy_all (n := n) hA.n1 hA.n8 ok hl fun s => by
    constructor
    · intro hs
      obtain ⟨l, h1, h2⟩ := hA.has hs
      exact ⟨l, (hm l).mpr (.inl h1), h2⟩
    · rintro ⟨l, h1, h2⟩
      rcases (hm l).mp h1 with q | q
      · exact hA.lt q h2
      · exact hB.lt q h2
  have fA : Fin2 A (clearedBy (overL A B)) := fun l hl => c2.up l ((hm l).mpr (.inl hl))
  have fB : Fin2 B (clearedBy (overL A B)) := fun l hl => c2.up l ((hm l).mpr (.inr hl))
  refine deal_same c1.deal c2.deal (c1.low _ (c2.deal.apt c2.clear) (h.low _ c2.deal.dj fA fB)) (c2.low _ (c1.deal.apt c1.clear) fun l hl => ?_)
  rcases (hm l).mp hl with q | q
  · exact (h.upA.trans c1.up) l q
  · exact (h.upB.trans c1.up) l q
end Rng
namespace Rng
open PySem PySem.Spec PyProof.Rows L2
abbrev eP (p : Nat × Nat) : PyData := eLot [p.1, p.2]
theorem bB {o : List Nat} (h : o.length ≤ 8) (p : Nat × Nat) (b : Nat) : (foursB o p b).length ≤ 8 := by
  unfold foursB
  rw [List.length_map]
  exact Nat.le_trans (List.length_filter_le _ _) h
theorem bP {o : List Nat} (h : o.length ≤ 8) (p : Nat × Nat) : (foursP o p).length ≤ 64 := by
  unfold foursP
  have h1 := flat_len (G := foursB o p) (c := 8) (l := o.filter fun s => decide (p.1 < s) && decide (s < p.2)) fun b _ => bB h p b
  have h2 := List.length_filter_le (fun s => decide (p.1 < s) && decide (s < p.2)) o
  omega
theorem bPre {l : List Nat} (h : l.length ≤ 8) {i : Nat} (hi : i ≤ 8) : (pairsPre l i).length ≤ 64 := by
  unfold pairsPre
  have h1 := flat_len (G := fun k => (l.drop (k + 1)).map fun h => (l.getD k 0, h)) (c := 8) (l := List.range i) fun b _ => by
    rw [List.length_map, List.length_drop]
    omega
  rw [List.length_range] at h1
  omega
theorem bO {l o : List Nat} (h : o.length ≤ 8) (hl : l.length ≤ 8) : (foursO l o).length ≤ 4096 := by
  unfold foursO
  have h1 := flat_len (G := foursP o) (c := 64) (l := pairsL l) fun b _ => bP h b
  have h2 : (pairsL l).length ≤ 64 := bPre hl hl
  omega
theorem bOf {n : Nat} {D : List (List Nat)} (h : IsDeal n D) {l : List Nat} (hl : l ∈ D) : (foursOf D l).length ≤ 32768 := by
  unfold foursOf
  have n8 := h.n8
  have hl8 := h.llen hl
  have h1 := flat_len (G := foursO l) (c := 4096) (l := D.filter fun o => !decide (o = l)) fun o ho => by
    have := h.llen (List.mem_filter.mp ho).1
    exact bO (by omega) (by omega)
  have h2 := List.length_filter_le (fun o => !decide (o = l)) D
  have h3 := h.len
  omega
theorem take_at {α : Type} {l : List α} {i : Nat} {x : α} (h : l[i]? = some x) : x ∈ l := List.mem_of_getElem? h
theorem map_at {α : Type} {f : α → PyData} {l : List α} {i : Nat} {d : PyData} (h : (l.map f)[i]? = some d) : ∃ x, l[i]? = some x ∧ d = f x := by
  rw [List.getElem?_map] at h
  cases q : l[i]? with
  | none => rw [q] at h; cases h
  | some x =>
    rw [q] at h
    exact ⟨x, rfl, (Option.some.inj h).symm⟩
theorem ze (l : List Nat) : (zs l).map PyData.int = l.map eN := by unfold zs; rw [List.map_map]; rfl
theorem lt_N (a b : Nat) : RB2 (fun i j => decide (i < j)) (eN a) (eN b) (.bool (decide (a < b))) := ⟨_, _, rfl, rfl, congrArg PyData.bool (decide_eq_decide.mpr (by omega))⟩
theorem gt_N (a b : Nat) : RB2 (fun i j => decide (i > j)) (eN a) (eN b) (.bool (decide (b < a))) := ⟨_, _, rfl, rfl, congrArg PyData.bool (decide_eq_decide.mpr (by omega))⟩
section
variable {P : Program} {w : World} {K : PySem.W.Frag} {mg : Str → Option Value} {base : Heap} {f : Addr} {fd : FuncData}
abbrev R_law_fours : List PyData → PyData → Prop := fun ds d => ∃ n D, IsDeal n D ∧ ds = [eDeal D] ∧ d = eLots (lawFours D)
abbrev N_law_fours : List Str := ["_law_deal_here", "_law_found", "_law_lot", "_law_pairs", "_law_at", "_law_low", "_law_other", "_law_a", "_law_c", "_law_b", "_law_high", "_law_one", "_law_seat"]
theorem sc_law_fours : FnScope N_law_fours ["_law_deal_here"] (defScope s_law_fours) := ⟨rfl, rfl, rfl, by decide +kernel, rfl, by decide +kernel, by decide +kernel⟩
theorem c_law_fours (T : Txt mg) (h : Has K mg "_law_fours" s_law_fours f fd) : Cal P w K mg base 1 "_law_fours" ["_law_deal_here"] R_law_fours := by
  refine CalS.mk' h (fn_Oc h.1 sc_law_fours (fun ds d ⟨n, D, _, e, _⟩ => by rw [e]; rfl) (by decide) (fun cdv A outer s H E hr => ⟨_, (oss_cons (os_new (i := 1) sc_law_fours.nd rfl (Or.inl rfl) of_nil)
      (oss_cons (os_for PassesOwn.never (oi_tup (oe_pure (de_var 0))) (og_name (i := 2) sc_law_fours.nd rfl (Or.inr rfl)) (oss_cons (os_new (i := 3) sc_law_fours.nd rfl (Or.inl rfl) of_nil)
      (oss_cons (os_for PassesOwn.never (oi_enumT rfl T.enumerate (de_var 2)) (og_two (i := 4) (j := 5) rfl sc_law_fours.nd rfl rfl (Or.inl rfl) (Or.inr rfl)) (oss_one (os_expr (oe_extend (i := 3) (oe_pure (de_lc (own := [("_law_high", 10)]) rfl sc_law_fours.nd (di_tup (de_slT (de_var 2) (do_some (de_op op_add vop_I (de_var 4) de_int)) do_none)) (blkOk_by (own := [("_law_high", 10)]) (N := N_law_fours) (sc := defScope s_law_fours) (by decide +kernel)) (fun _ _ _ _ _ => (dg_name (i := 10) sc_law_fours.nd rfl (Or.inl rfl))) (fun _ _ _ _ _ => dts_nil) (fun _ _ _ _ _ => (de_tup (da_cons (de_var 5) (da_cons (de_var 10) da_nil))))))))))
      (oss_freeze 3 (oss_one (os_for PassesOwn.never (oi_list (oe_pure (de_lc (own := [("_law_one", 11)]) rfl sc_law_fours.nd (di_tup (de_var 0)) (blkOk_by (own := [("_law_one", 11)]) (N := N_law_fours) (sc := defScope s_law_fours) (by decide +kernel)) (fun _ _ _ _ _ => (dg_name (i := 11) sc_law_fours.nd rfl (Or.inl rfl))) (fun _ _ _ _ _ => (dts_one (dt_cmp (op_neD hr.units) vop_ne (de_var 11) (de_var 2) (nomark _)))) (fun _ _ _ _ _ => (de_var 11))))) (og_name (i := 6) sc_law_fours.nd rfl (Or.inl rfl)) (oss_one (os_for PassesOwn.never (oi_list (oe_pure (de_var 3))) (og_two (i := 7) (j := 8) rfl sc_law_fours.nd rfl rfl (Or.inr rfl) (Or.inr rfl)) (oss_one (os_for PassesOwn.never (oi_list (oe_pure (de_lc (own := [("_law_seat", 12)]) rfl sc_law_fours.nd (di_tup (de_var 6)) (blkOk_by (own := [("_law_seat", 12)]) (N := N_law_fours) (sc := defScope s_law_fours) (by decide +kernel)) (fun _ _ _ _ _ => (dg_name (i := 12) sc_law_fours.nd rfl (Or.inl rfl))) (fun _ _ _ _ _ => (dts_one (dt_chain op_lt vop_B op_lt vop_B (de_var 7) (de_var 12) (de_var 8)))) (fun _ _ _ _ _ => (de_var 12))))) (og_name (i := 9) sc_law_fours.nd rfl (Or.inr rfl)) (oss_one (os_expr (oe_extend (i := 1) (oe_pure (de_lc (own := [("_law_seat", 12)]) rfl sc_law_fours.nd (di_tup (de_var 6)) (blkOk_by (own := [("_law_seat", 12)]) (N := N_law_fours) (sc := defScope s_law_fours) (by decide +kernel)) (fun _ _ _ _ _ => (dg_name (i := 12) sc_law_fours.nd rfl (Or.inl rfl))) (fun _ _ _ _ _ => (dts_one (dt_cmp op_gt vop_B (de_var 12) (de_var 8) (nomark _)))) (fun _ _ _ _ _ => (de_tup (da_cons (de_var 7) (da_cons (de_var 9) (da_cons (de_var 8) (da_cons (de_var 12) da_nil)))))))))))))))))))))
      (oss_freeze 1 (oss_one (os_ret (oe_pure (de_callB cr_sortLx vc_sortLx rfl T.sorted (by decide +kernel) (da_cons (de_var 1) da_nil)))))))), fun ds d ⟨n, D, hD, e1, e2⟩ => ?_⟩)) (fun _ _ _ _ _ _ us hl => match us, hl with | [_], _ => rfl)
  subst e1 e2
  have n8 := hD.n8
  have hl := hD.len
  refine ⟨by show 1 < 13; omega, _, rfl, _, rfl, fun i ρ ω => ∃ o2 o3 e3 o4 o5 o6 o7 o8 o9, ρ = [some (eDeal D), none, o2, o3, o4, o5, o6, o7, o8, o9, none, none, none] ∧ ω = [.no, .own (((D.take i).flatMap (foursOf D)).map eLot), .no, e3, .no, .no, .no, .no, .no, .no, .no, .no, .no], ⟨none, none, .no, none, none, none, none, none, none, rfl, rfl⟩, ?_, ?_⟩
  · rintro i d ρ ω hd ⟨o2, o3, e3, o4, o5, o6, o7, o8, o9, rfl, rfl⟩
    obtain ⟨l, hx, rfl⟩ := map_at hd
    have hlm := take_at hx
    have hll := hD.llen hlm
    have bF : ((D.take i).flatMap (foursOf D)).length ≤ 262144 := by
      have h1 := flat_len (G := foursOf D) (c := 32768) (l := D.take i) fun k hk => bOf hD (List.mem_of_mem_take hk)
      have h2 : (D.take i).length ≤ 8 := by rw [List.length_take]; omega
      omega
    generalize hF : (D.take i).flatMap (foursOf D) = F at bF
    refine ⟨by show 3 < 13; omega, _, rfl, fun j ρ ω => ∃ o4 o5 o6 o7 o8 o9, ρ = [some (eDeal D), none, some (eLot l), none, o4, o5, o6, o7, o8, o9, none, none, none] ∧ ω = [.no, .own (F.map eLot), .no, .own ((pairsPre l j).map eP), .no, .no, .no, .no, .no, .no, .no, .no, .no], ⟨o4, o5, o6, o7, o8, o9, rfl, rfl⟩, ?_, ?_⟩
    · rintro j d ρ ω hd ⟨o4, o5, o6, o7, o8, o9, rfl, rfl⟩
      obtain ⟨d', hd', rfl⟩ := enumD_at hd
      rw [ze] at hd'
      obtain ⟨x, hx2, rfl⟩ := map_at hd'
      have hj := (List.getElem?_eq_some_iff.mp hx2).1
      have bp := bPre (l := l) (by omega) (show j ≤ 8 by omega)
      refine ⟨_, _, rfl, ⟨_, rfl⟩, .list ((l.drop (j + 1)).map fun k => eP (x, k)), ⟨(l.drop (j + 1)).map eN, _, ⟨_, _, _, rfl, ⟨((j : Int) + 1), ⟨_, _, rfl, rfl, _, _, rfl, rfl, rfl⟩, rfl⟩, rfl, _, rfl, ?_⟩, ?_, LcAll.ofMap (fun k hk => lcT_1 rfl ⟨_, ⟨_, _, rfl, ⟨_, _, rfl, rfl, rfl⟩, rfl⟩, by show 2 ≤ sizeLine; decide, rfl⟩), rfl⟩, _, _, rfl, rfl, ?_, ?_⟩
      · have q := cut_from (ds := (zs l).map PyData.int) (j + 1)
        have e3 : cutD ((zs l).map PyData.int) (some ((j : Int) + 1)) none = ((zs l).map PyData.int).drop (j + 1) := q
        rw [e3, ze, List.map_drop]
      · rw [List.length_map, List.length_drop]; omega
      · rw [List.length_map, List.length_map, List.length_drop]
        omega
      · refine ⟨_, _, _, _, _, _, rfl, ?_⟩
        show _ = [Ent.no, .own (F.map eLot), .no, .own ((pairsPre l (j + 1)).map eP), .no, .no, .no, .no, .no, .no, .no, .no, .no]
        rw [pairs_step hx2, List.map_append, List.map_map]
        rfl
    · rintro ρ ω ⟨o4, o5, o6, o7, o8, o9, rfl, rfl⟩
      rw [enumD_len, List.length_map, zs_len]
      generalize hO : (D.filter fun o => !decide (o = l)) = O
      have hOl : O.length ≤ 8 := by
        have := List.length_filter_le (fun o => !decide (o = l)) D
        rw [hO] at this
        omega
      have hOD : ∀ o ∈ O, o ∈ D := fun o ho => by rw [← hO] at ho; exact (List.mem_filter.mp ho).1
      refine ⟨_, rfl, .list (O.map eLot), ⟨D.map eLot, _, rfl, by rw [List.length_map]; omega, LcAll.of (f := eLot) (h := eLot) (p := fun o => !decide (o = l)) (as := D) (fun o ho => lcT_of rfl ⟨_, _, rfl, rfl, ne_lot o l⟩ fun _ => rfl), by rw [hO]⟩, _, rfl, fun k ρ ω => ∃ o4 o5 o6 o7 o8 o9, ρ = [some (eDeal D), none, some (eLot l), some (.list ((pairsL l).map eP)), o4, o5, o6, o7, o8, o9, none, none, none] ∧ ω = [.no, .own ((F ++ (O.take k).flatMap (foursO l)).map eLot), .no, .no, .no, .no, .no, .no, .no, .no, .no, .no, .no], ⟨o4, o5, o6, o7, o8, o9, rfl, ?_⟩, ?_, ?_⟩
      · show _ = [Ent.no, .own ((F ++ []).map eLot), .no, .no, .no, .no, .no, .no, .no, .no, .no, .no, .no]
        rw [List.append_nil]
        rfl
      · rintro k d ρ ω hd ⟨o4, o5, o6, o7, o8, o9, rfl, rfl⟩
        obtain ⟨o, ho, rfl⟩ := map_at hd
        have hom := hOD o (take_at ho)
        have hol := hD.llen hom
        have bG : ((O.take k).flatMap (foursO l)).length ≤ 32768 := by
          have h1 := flat_len (G := foursO l) (c := 4096) (l := O.take k) fun p hp => bO (by have := hD.llen (hOD p (List.mem_of_mem_take hp)); omega) (by omega)
          have h2 : (O.take k).length ≤ 8 := by rw [List.length_take]; omega
          omega
        generalize hG : F ++ (O.take k).flatMap (foursO l) = G
        have bG2 : G.length ≤ 300000 := by rw [← hG, List.length_append]; omega
        refine ⟨_, rfl, _, rfl, fun m ρ ω => ∃ o4 o5 o7 o8 o9, ρ = [some (eDeal D), none, some (eLot l), some (.list ((pairsL l).map eP)), o4, o5, some (eLot o), o7, o8, o9, none, none, none] ∧ ω = [.no, .own ((G ++ ((pairsL l).take m).flatMap (foursP o)).map eLot), .no, .no, .no, .no, .no, .no, .no, .no, .no, .no, .no], ⟨o4, o5, o7, o8, o9, rfl, ?_⟩, ?_, ?_⟩
        · show _ = [Ent.no, .own ((G ++ []).map eLot), .no, .no, .no, .no, .no, .no, .no, .no, .no, .no, .no]
          rw [List.append_nil]
          rfl
        · rintro m d ρ ω hd ⟨o4, o5, o7, o8, o9, rfl, rfl⟩
          obtain ⟨p, hp, rfl⟩ := map_at hd
          have bpl : (pairsL l).length ≤ 64 := bPre (by omega) (by omega)
          have bJ : (((pairsL l).take m).flatMap (foursP o)).length ≤ 4096 := by
            have h1 := flat_len (G := foursP o) (c := 64) (l := (pairsL l).take m) fun p _ => bP (by omega) p
            have h2 : ((pairsL l).take m).length ≤ 64 := by rw [List.length_take]; omega
            omega
          generalize hJ : G ++ ((pairsL l).take m).flatMap (foursP o) = J
          have bJ2 : J.length ≤ 310000 := by rw [← hJ, List.length_append]; omega
          generalize hB : (o.filter fun s => decide (p.1 < s) && decide (s < p.2)) = Bs
          have hBl : Bs.length ≤ 8 := by
            have := List.length_filter_le (fun s => decide (p.1 < s) && decide (s < p.2)) o
            rw [hB] at this
            omega
          refine ⟨_, _, rfl, .list (Bs.map eN), ⟨o.map eN, _, congrArg (fun z => some (some (PyData.tuple z))) (ze o), by rw [List.length_map]; omega, LcAll.of (f := eN) (h := eN) (p := fun s => decide (p.1 < s) && decide (s < p.2)) (as := o) (fun s hs => lcT_of rfl ⟨_, _, decide (p.1 < s), rfl, rfl, lt_N _ _, ?_⟩ fun _ => rfl), by rw [hB]⟩, _, rfl, fun q ρ ω => ∃ o4 o5 o9, ρ = [some (eDeal D), none, some (eLot l), some (.list ((pairsL l).map eP)), o4, o5, some (eLot o), some (eN p.1), some (eN p.2), o9, none, none, none] ∧ ω = [.no, .own ((J ++ (Bs.take q).flatMap (foursB o p)).map eLot), .no, .no, .no, .no, .no, .no, .no, .no, .no, .no, .no], ⟨o4, o5, o9, rfl, ?_⟩, ?_, ?_⟩
          · cases decide (p.1 < s) with
            | false => exact iteF rfl
            | true => exact iteT ⟨_, rfl, lt_N _ _⟩
          · show _ = [Ent.no, .own ((J ++ []).map eLot), .no, .no, .no, .no, .no, .no, .no, .no, .no, .no, .no]
            rw [List.append_nil]
            rfl
          · rintro q d ρ ω hd ⟨o4, o5, o9, rfl, rfl⟩
            obtain ⟨b, hb, rfl⟩ := map_at hd
            have bK : ((Bs.take q).flatMap (foursB o p)).length ≤ 64 := by
              have h1 := flat_len (G := foursB o p) (c := 8) (l := Bs.take q) fun b _ => bB (by omega) p b
              have h2 : (Bs.take q).length ≤ 8 := by rw [List.length_take]; omega
              omega
            have bb := bB (o := o) (by omega) p b
            refine ⟨⟨_, rfl⟩, .list ((foursB o p b).map eLot), ⟨o.map eN, _, congrArg (fun z => some (some (PyData.tuple z))) (ze o), by rw [List.length_map]; omega, LcAll.of (f := eN) (h := fun s => eLot [p.1, b, p.2, s]) (p := fun s => decide (p.2 < s)) (as := o) (fun s hs => lcT_of rfl ⟨_, _, rfl, rfl, gt_N _ _⟩ fun _ => ⟨_, ⟨_, _, rfl, ⟨_, _, rfl, ⟨_, _, rfl, ⟨_, _, rfl, rfl, rfl⟩, rfl⟩, rfl⟩, rfl⟩, by show 4 ≤ sizeLine; decide, rfl⟩), ?_⟩, _, _, rfl, rfl, ?_, ?_⟩
            · unfold foursB
              rw [List.map_map]
              rfl
            · rw [List.length_map, List.length_map, List.length_append]
              omega
            · refine ⟨_, _, _, rfl, ?_⟩
              rw [fm_step hb, ← List.append_assoc, List.map_append (l₁ := J ++ (Bs.take q).flatMap (foursB o p))]
              rfl
          · rintro ρ ω ⟨o4, o5, o9, rfl, rfl⟩
            rw [List.length_map, List.take_length]
            refine ⟨_, _, _, _, _, rfl, ?_⟩
            have e : foursP o p = Bs.flatMap (foursB o p) := by unfold foursP; rw [hB]
            rw [fm_step hp, ← List.append_assoc, hJ, e]
        · rintro ρ ω ⟨o4, o5, o7, o8, o9, rfl, rfl⟩
          rw [List.length_map, List.take_length]
          refine ⟨_, _, _, _, _, _, rfl, ?_⟩
          rw [fm_step ho, ← List.append_assoc, hG]
          rfl
      · rintro ρ ω ⟨o4, o5, o6, o7, o8, o9, rfl, rfl⟩
        rw [List.length_map, List.take_length]
        refine ⟨_, _, .no, _, _, _, _, _, _, rfl, ?_⟩
        have e : foursOf D l = O.flatMap (foursO l) := by unfold foursOf; rw [hO]
        rw [fm_step hx, hF, e]
  · rintro ρ ω ⟨o2, o3, e3, o4, o5, o6, o7, o8, o9, rfl, rfl⟩
    rw [List.length_map, List.take_length]
    refine ⟨_, rfl, _, ⟨_, ⟨_, _, rfl, rfl, rfl⟩, rsort_lx fun k hk => ?_⟩, rfl⟩
    intro e
    subst e
    obtain ⟨l, _, h1⟩ := List.mem_flatMap.mp hk
    obtain ⟨o, _, h2⟩ := List.mem_flatMap.mp h1
    obtain ⟨p, _, h3⟩ := List.mem_flatMap.mp h2
    obtain ⟨b, _, h4⟩ := List.mem_flatMap.mp h3
    obtain ⟨s, _, h5⟩ := List.mem_map.mp h4
    cases h5
abbrev R_law_is_clear : List PyData → PyData → Prop := fun ds d => ∃ n D, IsDeal n D ∧ ds = [eDeal D] ∧ d = .bool (decide (lawFours D = []))
abbrev N_law_is_clear : List Str := ["_law_deal_here"]
theorem sc_law_is_clear : FnScope N_law_is_clear ["_law_deal_here"] (defScope s_law_is_clear) := ⟨rfl, rfl, rfl, by decide +kernel, rfl, by decide +kernel, by decide +kernel⟩
theorem c_law_is_clear (T : Txt mg) (C_law_fours : Cal P w K mg base 1 "_law_fours" ["_law_deal_here"] R_law_fours) (h : Has K mg "_law_is_clear" s_law_is_clear f fd) : Cal P w K mg base 2 "_law_is_clear" ["_law_deal_here"] R_law_is_clear := by
  refine CalS.mk' h (fn_D h.1 sc_law_is_clear (fun ds d ⟨n, D, _, e, _⟩ => by rw [e]; rfl) (fun cdv A outer s H E hr => ⟨_, (dss_one (ds_ret (de_cmp (op_eqD hr.units) vop_eq (de_cal C_law_fours hr (by decide) rfl (da_cons (de_var 0) da_nil)) (de_lst da_nil) (nomark _)))), fun ds d ⟨n, D, hD, e1, e2⟩ => ?_⟩)) (fun _ _ _ _ _ _ us hl => match us, hl with | [_], _ => rfl)
  subst e1 e2
  refine ⟨_, ⟨_, _, ⟨_, ⟨_, _, rfl, rfl, rfl⟩, n, D, hD, rfl, rfl⟩, ⟨_, rfl, Nat.zero_le _, rfl⟩, sh_lots _, sh_nil, rfl⟩, ?_⟩
  rw [list_eq0]
  exact congrArg PyData.bool (decide_eq_decide.mpr (by rw [List.map_eq_nil_iff]))
end
end Rng
namespace Rng
open PySem PySem.Spec PyProof.Rows L2
def tipsL (D : List (List Nat)) : List Nat := D.map fun l => l.headD 0
def joinsAt (D : List (List Nat)) (a : Nat) : List (List Nat) := ((tipsL D).filter fun b => decide (a < b) && decide (lawFours (inOrder (lawPutL D a b)) = [])).map fun b => [a, b]
def lawJoins (D : List (List Nat)) : List (List Nat) := srtLx ((tipsL D).flatMap (joinsAt D))
theorem tips_mem {D : List (List Nat)} {a : Nat} (h : a ∈ tipsL D) : ∃ l ∈ D, l.headD 0 = a := by
  unfold tipsL at h
  obtain ⟨l, h1, h2⟩ := List.mem_map.mp h
  exact ⟨l, h1, h2⟩
/-- what a join of the list is -/
theorem joins_mem {n : Nat} {D : List (List Nat)} (h : IsDeal n D) {x : List Nat} (hx : x ∈ lawJoins D) : ∃ a b x1 y1 : _, x = [a, b] ∧ lawBoth D a b = x1 :: y1 :: [] ∧ LotsP (lawPutL D a b) ∧ IsDeal n (inOrder (lawPutL D a b)) ∧ isClear (inOrder (lawPutL D a b)) = true := by
  unfold lawJoins at hx
  rw [srt_mem] at hx
  obtain ⟨a, ha, h1⟩ := List.mem_flatMap.mp hx
  obtain ⟨b, hb, rfl⟩ := List.mem_map.mp h1
  obtain ⟨hb, hp⟩ := List.mem_filter.mp hb
  rw [Bool.and_eq_true, decide_eq_true_iff, decide_eq_true_iff] at hp
  obtain ⟨la, hla, ea⟩ := tips_mem ha
  obtain ⟨lb, hlb, eb⟩ := tips_mem hb
  have p := put_all h hla hlb ea eb (by omega)
  obtain ⟨x1, y1, e⟩ := both_xy p
  exact ⟨a, b, x1, y1, rfl, e, p.lots, p.deal, fours_clear p.deal hp.2⟩
theorem eDeal_inj {A B : List (List Nat)} (h : eDeal A = eDeal B) : A = B := by
  have e := eqv_deal A B
  rw [h, eqv_deal, decide_eq_true rfl] at e
  exact of_decide_eq_true e.symm
theorem atI_last {α : Type} {xs : List α} {x : α} : atI (xs ++ [x]) (-1) = some x := by
  unfold atI ixN
  rw [if_neg (by omega), if_pos (by rw [List.length_append, List.length_singleton]; omega)]
  show (xs ++ [x])[_]? = _
  have e : (((-1 : Int) + ((xs ++ [x]).length : Int))).toNat = xs.length := by rw [List.length_append, List.length_singleton]; omega
  rw [e, List.getElem?_append_right (Nat.le_refl _), Nat.sub_self]
  rfl
section
variable {P : Program} {w : World} {K : PySem.W.Frag} {mg : Str → Option Value} {base : Heap} {f : Addr} {fd : FuncData}
abbrev R_law_joins : List PyData → PyData → Prop := fun ds d => ∃ n D, IsDeal n D ∧ ds = [eDeal D] ∧ d = eLots (lawJoins D)
abbrev N_law_joins : List Str := ["_law_parting_here", "_law_tips", "_law_found", "_law_a", "_law_lot", "_law_b"]
theorem sc_law_joins : FnScope N_law_joins ["_law_parting_here"] (defScope s_law_joins) := ⟨rfl, rfl, rfl, by decide +kernel, rfl, by decide +kernel, by decide +kernel⟩
theorem c_law_joins (T : Txt mg) (C_law_is_clear : Cal P w K mg base 2 "_law_is_clear" ["_law_deal_here"] R_law_is_clear) (C_law_put : Cal P w K mg base 2 "_law_put" ["_law_parting_here", "_law_a", "_law_b"] R_law_put) (h : Has K mg "_law_joins" s_law_joins f fd) : Cal P w K mg base 3 "_law_joins" ["_law_parting_here"] R_law_joins := by
  refine CalS.mk' h (fn_Oc h.1 sc_law_joins (fun ds d ⟨n, D, _, e, _⟩ => by rw [e]; rfl) (by decide) (fun cdv A outer s H E hr => ⟨_, (oss_cons (os_parCF (i := 1) (j := 2) rfl sc_law_joins.nd rfl rfl (by decide) rfl rfl (de_lc (own := [("_law_lot", 4)]) rfl sc_law_joins.nd (di_tup (de_var 0)) (blkOk_by (own := [("_law_lot", 4)]) (N := N_law_joins) (sc := defScope s_law_joins) (by decide +kernel)) (fun _ _ _ _ _ => (dg_name (i := 4) sc_law_joins.nd rfl (Or.inl rfl))) (fun _ _ _ _ _ => dts_nil) (fun _ _ _ _ _ => (de_ixT (de_var 4) de_int (fun _ _ => rfl)))) (by rfl))
      (oss_cons (os_for PassesOwn.never (oi_list (oe_pure (de_var 1))) (og_name (i := 3) sc_law_joins.nd rfl (Or.inr rfl)) (oss_one (os_expr (oe_extend (i := 2) (oe_pure (de_lc (own := [("_law_b", 5)]) rfl sc_law_joins.nd (di_list (de_var 1)) (blkOk_by (own := [("_law_b", 5)]) (N := N_law_joins) (sc := defScope s_law_joins) (by decide +kernel)) (fun _ _ _ _ _ => (dg_name (i := 5) sc_law_joins.nd rfl (Or.inl rfl))) (fun _ _ _ _ _ => (dts_one (DW.dt (dw_and (dt_cmp op_lt vop_B (de_var 3) (de_var 5) (nomark _)) (dw_and1 (dt_val (de_cal C_law_is_clear hr (by decide) rfl (da_cons (de_cal C_law_put hr (by decide) rfl (da_cons (de_var 0) (da_cons (de_var 3) (da_cons (de_var 5) da_nil)))) da_nil)))))))) (fun _ _ _ _ _ => (de_tup (da_cons (de_var 3) (da_cons (de_var 5) da_nil))))))))))
      (oss_freeze 2 (oss_one (os_ret (oe_pure (de_callB cr_sortLx vc_sortLx rfl T.sorted (by decide +kernel) (da_cons (de_var 2) da_nil)))))))), fun ds d ⟨n, D, hD, e1, e2⟩ => ?_⟩)) (fun _ _ _ _ _ _ us hl => match us, hl with | [_], _ => rfl)
  subst e1 e2
  have n8 := hD.n8
  have hl := hD.len
  have tl : (tipsL D).length = D.length := by unfold tipsL; rw [List.length_map]
  have bj : ∀ a, (joinsAt D a).length ≤ 8 := fun a => by
    unfold joinsAt
    rw [List.length_map]
    have := List.length_filter_le (fun b => decide (a < b) && decide (lawFours (inOrder (lawPutL D a b)) = [])) (tipsL D)
    omega
  refine ⟨by show 2 < 6; omega, .list ((tipsL D).map eN), ⟨D.map eLot, _, rfl, by rw [List.length_map]; omega, LcAll.ofMap (f := eLot) (h := fun l => eN (l.headD 0)) (as := D) (fun l hl => lcT_1 rfl ⟨_, _, rfl, rfl, _, _, rfl, rfl, atI_lot0 (hD.lot l hl).1⟩), by unfold tipsL; rw [List.map_map]; rfl⟩, ?_⟩
  refine ⟨_, rfl, _, rfl, fun i ρ ω => ∃ o3, ρ = [some (eDeal D), some (.list ((tipsL D).map eN)), none, o3, none, none] ∧ ω = [.no, .no, .own ((((tipsL D).take i).flatMap (joinsAt D)).map eLot), .no, .no, .no], ⟨none, rfl, rfl⟩, ?_, ?_⟩
  · rintro i d ρ ω hd ⟨o3, rfl, rfl⟩
    obtain ⟨a, ha, rfl⟩ := map_at hd
    obtain ⟨la, hla, ea⟩ := tips_mem (take_at ha)
    have bF : (((tipsL D).take i).flatMap (joinsAt D)).length ≤ 64 := by
      have h1 := flat_len (G := joinsAt D) (c := 8) (l := (tipsL D).take i) fun k _ => bj k
      have h2 : ((tipsL D).take i).length ≤ 8 := by rw [List.length_take]; omega
      omega
    have hb := bj a
    refine ⟨⟨_, rfl⟩, .list ((joinsAt D a).map eLot), ⟨(tipsL D).map eN, _, rfl, by rw [List.length_map]; omega, LcAll.of (f := eN) (h := fun b => eLot [a, b]) (p := fun b => decide (a < b) && decide (lawFours (inOrder (lawPutL D a b)) = [])) (as := tipsL D) (fun b hb => lcT_of rfl ⟨decide (a < b), ⟨_, _, rfl, rfl, lt_N a b⟩, ?_⟩ fun _ => ⟨_, ⟨_, _, rfl, ⟨_, _, rfl, rfl, rfl⟩, rfl⟩, by show 2 ≤ sizeLine; decide, rfl⟩), ?_⟩, _, _, rfl, rfl, ?_, ?_⟩
    · cases hq : decide (a < b) with
      | false => exact iteF rfl
      | true =>
        obtain ⟨lb, hlb, eb⟩ := tips_mem hb
        have hab : a ≠ b := by have := of_decide_eq_true hq; omega
        have p := put_all hD hla hlb ea eb hab
        obtain ⟨x1, y1, e⟩ := both_xy p
        exact iteT ⟨_, ⟨_, _, ⟨_, ⟨_, _, rfl, ⟨_, _, rfl, ⟨_, _, rfl, rfl, rfl⟩, rfl⟩, rfl⟩, n, D, a, b, x1, y1, [], hD, e, p.lots, rfl, rfl⟩, rfl, rfl⟩, n, _, p.deal, rfl, rfl⟩
    · unfold joinsAt
      rw [List.map_map]
      rfl
    · rw [List.length_map, List.length_map]
      omega
    · refine ⟨_, rfl, ?_⟩
      rw [fm_step ha, List.map_append]
      rfl
  · rintro ρ ω ⟨o3, rfl, rfl⟩
    rw [List.length_map, List.take_length]
    refine ⟨_, rfl, _, ⟨_, ⟨_, _, rfl, rfl, rfl⟩, rsort_lx fun k hk => ?_⟩, rfl⟩
    intro e
    subst e
    obtain ⟨l, _, h1⟩ := List.mem_flatMap.mp hk
    obtain ⟨s, _, h5⟩ := List.mem_map.mp h1
    cases h5
abbrev Pre_law_drawn_row : List PyData → Prop := fun ds => ∃ n D k, IsDeal n D ∧ isClear D = true ∧ k ≤ 10 ∧ ds = [eDeal D, eN k]
abbrev Post_law_drawn_row : List PyData → PyData → Prop := fun ds d => ∃ n D k D' rs, IsDeal n D ∧ ds = [eDeal D, eN k] ∧ IsDeal n D' ∧ isClear D' = true ∧ d = .tuple [.tuple rs, eDeal D']
abbrev N_law_drawn_row : List Str := ["_law_pen_here", "_law_parting_here", "_law_most", "_law_row", "_law_lap", "_law_some"]
theorem sc_law_drawn_row : FnScope N_law_drawn_row ["_law_pen_here", "_law_parting_here", "_law_most"] (defScope s_law_drawn_row) := ⟨rfl, rfl, rfl, by decide +kernel, rfl, by decide +kernel, by decide +kernel⟩
theorem c_law_drawn_row (T : Txt mg) (C_law_joins : Cal P w K mg base 3 "_law_joins" ["_law_parting_here"] R_law_joins) (C_law_put : Cal P w K mg base 2 "_law_put" ["_law_parting_here", "_law_a", "_law_b"] R_law_put) (C_law_pick : CalP P w K mg base 2 "_law_pick" ["_law_pen_here", "_law_some"] Pre_law_pick Post_law_pick)
    (h : Has K mg "_law_drawn_row" s_law_drawn_row f fd) : CalP P w K mg base 4 "_law_drawn_row" ["_law_pen_here", "_law_parting_here", "_law_most"] Pre_law_drawn_row Post_law_drawn_row := by
  refine CalS.mk' h (fn_O h.1 sc_law_drawn_row (fun ds ⟨n, D, k, _, _, _, e⟩ => by rw [e]; rfl) (by decide) (fun cdv A outer s H E hr => ⟨_, (oss_cons (os_set (i := 3) sc_law_drawn_row.nd rfl (Or.inl rfl) (oe_pure (de_tup da_nil)))
      (oss_cons (os_for PassesOwn.never (oi_range1 rfl T.range (de_var 2)) (og_name (i := 4) sc_law_drawn_row.nd rfl (Or.inl rfl)) (oss_cons (os_set (i := 5) sc_law_drawn_row.nd rfl (Or.inl rfl) (oe_pure (de_cal C_law_joins hr (by decide) rfl (da_cons (de_var 1) da_nil))))
      (oss_one (os_if (ot_pure (dt_cmp (op_neD hr.units) vop_ne (de_var 5) (de_lst da_nil) (nomark _))) (oss_cons (os_set (i := 3) sc_law_drawn_row.nd rfl (Or.inl rfl) (oe_op op_catA vop_catT (oe_pure (de_var 3)) (oe_tup (oa_cons (oe_pen (i := 0) C_law_pick hr (by decide) rfl (oa_cons (oe_pure (de_var 5)) oa_nil)) oa_nil))))
      (oss_one (os_set (i := 1) sc_law_drawn_row.nd rfl (Or.inl rfl) (oe_pure (de_cal C_law_put hr (by decide) rfl (da_cons (de_var 1) (da_cons (de_ixT (de_ixT (de_var 3) (de_neg de_int) (fun _ _ => rfl)) de_int (fun _ _ => rfl)) (da_cons (de_ixT (de_ixT (de_var 3) (de_neg de_int) (fun _ _ => rfl)) de_int (fun _ _ => rfl)) da_nil)))))))) oss_nil))))
      (oss_one (os_ret (oe_pure (de_tup (da_cons (de_var 3) (da_cons (de_var 1) da_nil)))))))), fun ds ⟨n, D, k, hD, cD, hk, e⟩ => ?_⟩)) (fun _ _ _ _ _ _ us hl => match us, hl with | [_, _, _], _ => rfl)
  subst e
  refine ⟨_, ⟨_, rfl, Nat.zero_le _, rfl⟩, k, rfl, by omega, fun i ρ ω => ∃ E rs o4 o5, ρ = [none, some (eDeal E), some (eN k), some (.tuple rs), o4, o5] ∧ ω = [.pen, .no, .no, .no, .no, .no] ∧ IsDeal n E ∧ isClear E = true ∧ rs.length ≤ i, ⟨D, [], none, none, rfl, rfl, hD, cD, Nat.le_refl _⟩, ?_, ?_⟩
  · rintro i d ρ ω hd ⟨E, rs, o4, o5, rfl, rfl, hE, cE, hr⟩
    obtain ⟨rfl, hi⟩ := rngD_at hd
    refine ⟨_, ⟨_, ⟨_, _, rfl, rfl, rfl⟩, n, E, hE, rfl, rfl⟩, !decide (lawJoins E = []), ⟨_, _, rfl, ⟨_, rfl, Nat.zero_le _, rfl⟩, sh_lots _, sh_nil, ?_⟩, ?_⟩
    · rw [list_eq0]
      exact congrArg (fun b => PyData.bool (!b)) (decide_eq_decide.mpr (by rw [List.map_eq_nil_iff]))
    · by_cases hq : lawJoins E = []
      · refine ite_f (by rw [decide_eq_true hq]; rfl) ⟨E, rs, _, _, rfl, rfl, hE, cE, by omega⟩
      · have jl : (lawJoins E).length ≤ 1000 := by
          unfold lawJoins
          rw [(srtLx_perm _).length_eq]
          have n8 := hE.n8
          have hl := hE.len
          have tl : (tipsL E).length = E.length := by unfold tipsL; rw [List.length_map]
          have h1 := flat_len (G := joinsAt E) (c := 8) (l := tipsL E) fun a _ => by
            unfold joinsAt
            rw [List.length_map]
            have := List.length_filter_le (fun b => decide (a < b) && decide (lawFours (inOrder (lawPutL E a b)) = [])) (tipsL E)
            omega
          omega
        refine ite_t (by rw [decide_eq_false hq]; rfl) ⟨_, rfl, rfl, _, rfl, rfl, ⟨(lawJoins E).map eLot, by rw [Ne, List.map_eq_nil_iff]; exact hq, by rw [List.length_map]; exact jl, rfl⟩, fun d ⟨L, eL, hdL⟩ => ?_⟩
        have eL2 : (lawJoins E).map eLot = L := PyData.list.inj (List.cons.inj eL).1
        rw [← eL2] at hdL
        obtain ⟨x, hx, rfl⟩ := List.mem_map.mp hdL
        obtain ⟨a, b, x1, y1, rfl, eb, lots, deal, clr⟩ := joins_mem hE hx
        refine ⟨by show 1 ≤ sizeLine; decide, _, ⟨_, _, rfl, rfl, by show _ + 1 ≤ _; omega, rfl⟩, ?_⟩
        refine ⟨_, ⟨_, ⟨_, _, rfl, ⟨_, _, ⟨eLot [a, b], _, ⟨_, _, rfl, ⟨1, rfl, rfl⟩, _, _, rfl, rfl, atI_last⟩, rfl, _, _, rfl, rfl, (rfl : _ = some (eN a))⟩, ⟨_, _, ⟨eLot [a, b], _, ⟨_, _, rfl, ⟨1, rfl, rfl⟩, _, _, rfl, rfl, atI_last⟩, rfl, _, _, rfl, rfl, (rfl : _ = some (eN b))⟩, rfl, rfl⟩, rfl⟩, rfl⟩, n, E, a, b, x1, y1, [], hE, eb, lots, rfl, rfl⟩, ?_⟩
        exact ⟨_, _, _, _, rfl, rfl, deal, clr, by rw [List.length_append, List.length_singleton]; omega⟩
  · rintro ρ ω ⟨E, rs, o4, o5, rfl, rfl, hE, cE, hr⟩
    exact ⟨_, ⟨_, ⟨_, _, rfl, ⟨_, _, rfl, rfl, rfl⟩, rfl⟩, by show 2 ≤ sizeLine; decide, rfl⟩, n, D, k, E, rs, hD, rfl, hE, cE, rfl⟩
abbrev Post_law_coarser : List PyData → PyData → Prop := fun ds d => ∃ n D k D', IsDeal n D ∧ ds = [eDeal D, eN k] ∧ IsDeal n D' ∧ isClear D' = true ∧ d = eDeal D'
abbrev Pre_law_coarser : List PyData → Prop := fun ds => ∃ n D k, IsDeal n D ∧ isClear D = true ∧ k ≤ 9 ∧ ds = [eDeal D, eN k]
abbrev N_law_coarser : List Str := ["_law_pen_here", "_law_parting_here", "_law_most"]
theorem sc_law_coarser : FnScope N_law_coarser ["_law_pen_here", "_law_parting_here", "_law_most"] (defScope s_law_coarser) := ⟨rfl, rfl, rfl, by decide +kernel, rfl, by decide +kernel, by decide +kernel⟩
theorem c_law_coarser (T : Txt mg) (C_law_draw : CalP P w K mg base 1 "_law_draw" ["_law_pen_here", "_law_many"] Pre_law_draw Post_law_draw) (C_law_drawn_row : CalP P w K mg base 4 "_law_drawn_row" ["_law_pen_here", "_law_parting_here", "_law_most"] Pre_law_drawn_row Post_law_drawn_row)
    (h : Has K mg "_law_coarser" s_law_coarser f fd) : CalP P w K mg base 5 "_law_coarser" ["_law_pen_here", "_law_parting_here", "_law_most"] Pre_law_coarser Post_law_coarser := by
  refine CalS.mk' h (fn_O h.1 sc_law_coarser (fun ds ⟨n, D, k, _, _, _, e⟩ => by rw [e]; rfl) (by decide) (fun cdv A outer s H E hr => ⟨_, (oss_one (os_ret (oe_ixT (oe_pen (i := 0) C_law_drawn_row hr (by decide) rfl (oa_cons (oe_pure (de_var 1)) (oa_cons (oe_pen (i := 0) C_law_draw hr (by decide) rfl (oa_cons (oe_pure (de_op op_add vop_I (de_var 2) de_int)) oa_nil)) oa_nil))) (oe_pure de_int) (fun _ _ => rfl)))), fun ds ⟨n, D, k, hD, cD, hk, e⟩ => ?_⟩)) (fun _ _ _ _ _ _ us hl => match us, hl with | [_, _, _], _ => rfl)
  subst e
  refine ⟨rfl, _, rfl, rfl, _, ⟨_, _, rfl, rfl, _, _, rfl, rfl, rfl⟩, rfl, ⟨k + 1, by omega, by omega, rfl⟩, fun d ⟨m, j, e, hj, e2⟩ => ?_⟩
  subst e2
  have em : k + 1 = m := int_nat (a := k + 1) e
  refine ⟨rfl, ⟨n, D, j, hD, cD, by omega, rfl⟩, fun d ⟨n2, D2, k2, D', rs, hD2, e3, hD', cD', e4⟩ => ?_⟩
  subst e4
  have e5 := eDeal_inj (List.cons.inj e3).1
  subst e5
  exact ⟨_, rfl, _, ⟨_, _, rfl, rfl, (rfl : _ = some (eDeal D'))⟩, n2, D, k, D', hD2, rfl, hD', cD', rfl⟩
end
end Rng
namespace Rng
open PySem PySem.Spec PyProof.Rows L2
theorem IsDeal.uniq {n m : Nat} {D : List (List Nat)} (h : IsDeal n D) (k : IsDeal m D) : n = m := by rw [← h.flen, k.flen]
theorem eq_N (a b : Nat) : REq (eN a) (eN b) (.bool (decide (a = b))) := ⟨sh_int _, sh_int _, congrArg PyData.bool (eqv_N a b).symm⟩
section
variable {P : Program} {w : World} {K : PySem.W.Frag} {mg : Str → Option Value} {base : Heap} {f : Addr} {fd : FuncData}
abbrev Post_law_two : List PyData → PyData → Prop := fun ds d => ∃ n A B, ds = [eN n] ∧ IsDeal n A ∧ isClear A = true ∧ IsDeal n B ∧ isClear B = true ∧ d = .tuple [eDeal A, eDeal B]
abbrev N_law_two : List Str := ["_law_pen_here", "_law_many", "_law_one", "_law_way"]
theorem sc_law_two : FnScope N_law_two ["_law_pen_here", "_law_many"] (defScope s_law_two) := ⟨rfl, rfl, rfl, by decide +kernel, rfl, by decide +kernel, by decide +kernel⟩
theorem c_law_two (T : Txt mg) (C_law_draw : CalP P w K mg base 1 "_law_draw" ["_law_pen_here", "_law_many"] Pre_law_draw Post_law_draw) (C_law_parting : CalP P w K mg base 2 "_law_parting" ["_law_pen_here", "_law_many"] Pre_N Post_law_parting) (C_law_coarser : CalP P w K mg base 5 "_law_coarser" ["_law_pen_here", "_law_parting_here", "_law_most"] Pre_law_coarser Post_law_coarser)
    (h : Has K mg "_law_two" s_law_two f fd) : CalP P w K mg base 6 "_law_two" ["_law_pen_here", "_law_many"] Pre_N Post_law_two := by
  refine CalS.mk' h (fn_O h.1 sc_law_two (fun ds ⟨n, _, _, e⟩ => by rw [e]; rfl) (by decide) (fun cdv A outer s H E hr => ⟨_, (oss_cons (os_par (i := 2) (j := 3) rfl sc_law_two.nd rfl rfl (by decide) rfl rfl (oa_cons (oe_pen (i := 0) C_law_parting hr (by decide) rfl (oa_cons (oe_pure (de_var 1)) oa_nil)) (oa_cons (oe_pen (i := 0) C_law_draw hr (by decide) rfl (oa_cons (oe_pure de_int) oa_nil)) oa_nil)) (by rfl))
      (oss_cons (os_if (ot_pure (dt_cmp (op_eqD hr.units) vop_eq (de_var 3) de_int (nomark _))) (oss_one (os_ret (oe_tup (oa_cons (oe_pure (de_var 2)) (oa_cons (oe_pen (i := 0) C_law_coarser hr (by decide) rfl (oa_cons (oe_pure (de_var 2)) (oa_cons (oe_pure de_int) oa_nil))) oa_nil))))) oss_nil)
      (oss_cons (os_if (ot_pure (dt_cmp (op_eqD hr.units) vop_eq (de_var 3) de_int (nomark _))) (oss_one (os_ret (oe_tup (oa_cons (oe_pen (i := 0) C_law_coarser hr (by decide) rfl (oa_cons (oe_pure (de_var 2)) (oa_cons (oe_pure de_int) oa_nil))) (oa_cons (oe_pure (de_var 2)) oa_nil))))) oss_nil)
      (oss_cons (os_if (ot_pure (dt_cmp (op_eqD hr.units) vop_eq (de_var 3) de_int (nomark _))) (oss_one (os_ret (oe_tup (oa_cons (oe_pen (i := 0) C_law_coarser hr (by decide) rfl (oa_cons (oe_pure (de_var 2)) (oa_cons (oe_pure de_int) oa_nil))) (oa_cons (oe_pen (i := 0) C_law_coarser hr (by decide) rfl (oa_cons (oe_pure (de_var 2)) (oa_cons (oe_pure de_int) oa_nil))) oa_nil))))) oss_nil)
      (oss_one (os_ret (oe_tup (oa_cons (oe_pure (de_var 2)) (oa_cons (oe_ixL (oe_lst (oa_cons (oe_pure (de_var 2)) (oa_cons (oe_pen (i := 0) C_law_parting hr (by decide) rfl (oa_cons (oe_pure (de_var 1)) oa_nil)) oa_nil))) (oe_callTy call_int1 vc_int rfl T.int (by decide +kernel) (oa_cons (oe_or (oe_pure (de_cmp (op_eqD hr.units) vop_eq (de_var 3) de_int (nomark _))) (oe_or1 (oe_cmp op_gt vop_B (oe_pen (i := 0) C_law_draw hr (by decide) rfl (oa_cons (oe_pure de_int) oa_nil)) (oe_pure de_int) (nomark _)))) oa_nil)) (fun _ _ => rfl)) oa_nil))))))))), fun ds ⟨n, n1, n8, e⟩ => ?_⟩)) (fun _ _ _ _ _ _ us hl => match us, hl with | [_, _], _ => rfl)
  subst e
  refine ⟨rfl, _, rfl, rfl, ⟨n, n1, n8, rfl⟩, fun d ⟨n2, D, e, hD, cD, e2⟩ => ?_⟩
  subst e2
  have en := int_nat e
  subst en
  refine ⟨rfl, _, rfl, rfl, ⟨5, by omega, by omega, rfl⟩, fun d ⟨m, k, e, hk, e2⟩ => ⟨_, _, rfl, ?_⟩⟩
  subst e2
  have co : ∀ (j : Nat) (d : PyData), Post_law_coarser [eDeal D, eN j] d → ∃ D', IsDeal n D' ∧ isClear D' = true ∧ d = eDeal D' := fun j d ⟨n2, D2, k2, D', h1, e3, h2, h3, e4⟩ => by
    have e5 := eDeal_inj (List.cons.inj e3).1
    subst e5
    have e6 := hD.uniq h1
    subst e6
    exact ⟨D', h2, h3, e4⟩
  refine ⟨decide (k = 0), ⟨_, _, rfl, rfl, eq_N k 0⟩, ?_⟩
  by_cases k0 : k = 0
  · refine ite_t (decide_eq_true k0) ⟨_, rfl, rfl, _, rfl, _, rfl, rfl, ⟨n, D, 3, hD, cD, by omega, rfl⟩, fun d hd => ?_⟩
    obtain ⟨D', h1, h2, e⟩ := co 3 d hd
    subst e
    exact ⟨by show 2 ≤ sizeLine; decide, n, D, D', rfl, hD, cD, h1, h2, rfl⟩
  refine ite_f (decide_eq_false k0) ⟨decide (k = 1), ⟨_, _, rfl, rfl, eq_N k 1⟩, ?_⟩
  by_cases k1 : k = 1
  · refine ite_t (decide_eq_true k1) ⟨rfl, _, rfl, _, rfl, rfl, ⟨n, D, 3, hD, cD, by omega, rfl⟩, fun d hd => ?_⟩
    obtain ⟨D', h1, h2, e⟩ := co 3 d hd
    subst e
    exact ⟨_, rfl, by show 2 ≤ sizeLine; decide, n, D', D, rfl, h1, h2, hD, cD, rfl⟩
  refine ite_f (decide_eq_false k1) ⟨decide (k = 2), ⟨_, _, rfl, rfl, eq_N k 2⟩, ?_⟩
  by_cases k2 : k = 2
  · refine ite_t (decide_eq_true k2) ⟨rfl, _, rfl, _, rfl, rfl, ⟨n, D, 2, hD, cD, by omega, rfl⟩, fun d hd => ?_⟩
    obtain ⟨D', h1, h2, e⟩ := co 2 d hd
    subst e
    refine ⟨rfl, _, rfl, _, rfl, rfl, ⟨n, D, 2, hD, cD, by omega, rfl⟩, fun d hd => ?_⟩
    obtain ⟨D'', h3, h4, e⟩ := co 2 d hd
    subst e
    exact ⟨by show 2 ≤ sizeLine; decide, n, D', D'', rfl, h1, h2, h3, h4, rfl⟩
  refine ite_f (decide_eq_false k2) ⟨_, rfl, _, rfl, rfl, _, rfl, rfl, ⟨n, n1, n8, rfl⟩, fun d ⟨n2, D2, e, hD2, cD2, e2⟩ => ?_⟩
  subst e2
  have en := int_nat e
  subst en
  have fin0 : Post_law_two [eN n] (.tuple [eDeal D, eDeal D]) := ⟨n, D, D, rfl, hD, cD, hD, cD, rfl⟩
  have fin1 : Post_law_two [eN n] (.tuple [eDeal D, eDeal D2]) := ⟨n, D, D2, rfl, hD, cD, hD2, cD2, rfl⟩
  refine ⟨by show 2 ≤ sizeLine; decide, _, ⟨_, _, rfl, rfl, eq_N k 4⟩, decide (k = 4), rfl, ?_⟩
  by_cases k4 : k = 4
  · exact ite_t (decide_eq_true k4) ⟨_, ⟨true, rfl, rfl⟩, _, ⟨_, _, rfl, rfl, (rfl : _ = some (eDeal D2))⟩, by show 2 ≤ sizeLine; decide, fin1⟩
  refine ite_f (decide_eq_false k4) ⟨rfl, _, rfl, rfl, ⟨3, by omega, by omega, rfl⟩, fun d ⟨m2, j, e, hj, e2⟩ => ?_⟩
  subst e2
  refine ⟨_, rfl, _, gt_N j 0, _, ⟨decide (0 < j), rfl, rfl⟩, ?_⟩
  by_cases j0 : 0 < j
  · rw [decide_eq_true j0]
    exact ⟨_, ⟨_, _, rfl, rfl, (rfl : _ = some (eDeal D2))⟩, by show 2 ≤ sizeLine; decide, fin1⟩
  · rw [decide_eq_false j0]
    exact ⟨_, ⟨_, _, rfl, rfl, (rfl : _ = some (eDeal D))⟩, by show 2 ≤ sizeLine; decide, fin0⟩
abbrev Pre_law_laid : List PyData → Prop := fun ds => ∃ n A B, IsDeal n A ∧ IsDeal n B ∧ ds = [eDeal A, eDeal B]
abbrev Post_law_laid : List PyData → PyData → Prop := fun ds d => ∃ n A B E, IsDeal n A ∧ IsDeal n B ∧ ds = [eDeal A, eDeal B] ∧ Laid n A B E ∧ d = eDeal E
abbrev N_law_laid : List Str := ["_law_one", "_law_other", "_law_left", "_law_found", "_law_own", "_law_near", "_law_lot", "_law_seat"]
theorem sc_law_laid : FnScope N_law_laid ["_law_one", "_law_other"] (defScope s_law_laid) := ⟨rfl, rfl, rfl, by decide +kernel, rfl, by decide +kernel, by decide +kernel⟩
theorem flat_lots (L : List (List Nat)) : (L.map fun l => (zs l).map PyData.int).flatten = (zs L.flatten).map PyData.int := by
  unfold zs
  rw [List.map_flatten, List.map_flatten, List.map_map]
  rfl
theorem c_law_laid (T : Txt mg) (C_law_in_order : Cal P w K mg base 1 "_law_in_order" ["_law_lots"] R_law_in_order) (h : Has K mg "_law_laid" s_law_laid f fd) : CalS P w K mg base 2 "_law_laid" ["_law_one", "_law_other"] (spQ Pre_law_laid Post_law_laid) := by
  refine CalS.mk' h (fn_Od h.1 sc_law_laid (fun ds ⟨n, A, B, _, _, e⟩ => by rw [e]; rfl) (by decide) (fun cdv Ar outer s H E hr => ⟨_, (oss_cons (os_parFF (i := 2) (j := 3) rfl sc_law_laid.nd rfl rfl (by decide) rfl rfl (of_list rfl T.list (de_op op_catA vop_catT (de_var 0) (de_var 1))) (by rfl))
      (oss_cons (os_while PassesOwn.never (ot_peek 2 (dt_cmp (op_neD hr.units) vop_ne (de_var 2) (de_lst da_nil) (nomark _))) (oss_cons (os_set (i := 4) sc_law_laid.nd rfl (Or.inr rfl) (oe_pop (i := 2)))
      (oss_cons (os_set (i := 5) sc_law_laid.nd rfl (Or.inr rfl) (oe_lcOwn (own := [("_law_lot", 6)]) rfl sc_law_laid.nd (k := 2) (blkOk_by (own := [("_law_lot", 6)]) (N := N_law_laid) (sc := defScope s_law_laid) (by decide +kernel)) (fun _ _ _ _ _ => (dg_name (i := 6) sc_law_laid.nd rfl (Or.inl rfl))) (fun _ _ _ _ _ => (dts_one (dt_cmp (op_neD hr.units) vop_ne (de_lc (own := [("_law_seat", 7)]) rfl sc_law_laid.nd (di_tup (de_var 6)) (blkOk_by (own := [("_law_seat", 7)]) (N := N_law_laid) (sc := ⟨.function, [(".0", .local), ("_law_lot", .local), ("_law_own", .cell)], false, false, []⟩) (by decide +kernel)) (fun _ _ _ _ _ => (dg_name (i := 7) sc_law_laid.nd rfl (Or.inl rfl))) (fun _ _ _ _ _ => (dts_one (dt_cmp (op_inT hr.u65) vop_inT (de_var 7) (de_var 4) (by rfl)))) (fun _ _ _ _ _ => (de_var 7))) (de_lst da_nil) (nomark _)))) (fun _ _ _ _ _ => (de_var 6))))
      (oss_one (os_if (ot_pure (dt_cmp (op_eqD hr.units) vop_eq (de_var 5) (de_lst da_nil) (nomark _))) (oss_one (os_expr (oe_append (i := 3) (oe_pure (de_var 4))))) (oss_one (os_new (i := 2) sc_law_laid.nd rfl (Or.inl rfl) (of_cat (oe_lcOwn (own := [("_law_lot", 6)]) rfl sc_law_laid.nd (k := 2) (blkOk_by (own := [("_law_lot", 6)]) (N := N_law_laid) (sc := defScope s_law_laid) (by decide +kernel)) (fun _ _ _ _ _ => (dg_name (i := 6) sc_law_laid.nd rfl (Or.inl rfl))) (fun _ _ _ _ _ => (dts_one (dt_cmp (op_notInD hr.u65) vop_notInL (de_var 6) (de_var 5) (by rfl)))) (fun _ _ _ _ _ => (de_var 6))) (oe_pure (de_lst (da_cons (de_callTy call_tuple_of vc_tuple rfl T.tuple (by decide +kernel) (da_cons (de_sortSet rfl rfl T.sorted rfl T.set (de_op op_catA vop_catT (de_var 4) (de_callB (cr_sumT rfl) vc_sumT rfl T.sum (by decide +kernel) (da_cons (de_var 5) (da_cons (de_tup da_nil) da_nil))))) da_nil)) da_nil)))))))))))
      (oss_freeze 3 (oss_one (os_ret (oe_pure (de_cal C_law_in_order hr (by decide) rfl (da_cons (de_var 3) da_nil)))))))), fun ds ⟨n, A, B, hA, hB, e⟩ => ?_⟩)) (fun _ _ _ _ _ _ us hl => match us, hl with | [_, _], _ => rfl)
  subst e
  have n8 := hA.n8
  have lA := hA.len
  have lB := hB.len
  refine ⟨(A ++ B).map eLot, _, ⟨_, _, rfl, rfl, _, _, rfl, rfl, by rw [List.length_map, List.length_map]; omega, rfl⟩, .inr (by rw [List.map_append]), by show 2 < 8; omega, by show 3 < 8; omega, ?_⟩
  refine ⟨fun m ρ ω => ∃ left fnd o4 o5, m = left.length ∧ ρ = [some (eDeal A), some (eDeal B), none, none, o4, o5, none, none] ∧ ω = [.no, .no, .own (left.map eLot), .own (fnd.map eLot), .no, .no, .no, .no] ∧ LInv n A B left fnd, ⟨_, A ++ B, [], none, none, rfl, rfl, rfl, LInv.start hA hB⟩, ?_⟩
  rintro m ρ ω ⟨left, fnd, o4, o5, rfl, rfl, rfl, hI⟩
  refine ⟨_, !decide (left = []), rfl, ⟨_, _, rfl, ⟨_, rfl, Nat.zero_le _, rfl⟩, sh_lots _, sh_nil, ?_⟩, ?_⟩
  · rw [list_eq0]
    exact congrArg (fun b => PyData.bool (!b)) (decide_eq_decide.mpr (by rw [List.map_eq_nil_iff]))
  by_cases hl : left = []
  · subst hl
    refine ite_f rfl ?_
    exact ⟨_, rfl, _, ⟨_, ⟨_, _, rfl, rfl, rfl⟩, fnd, hI.lots, rfl, rfl⟩, n, A, B, inOrder fnd, hA, hB, rfl, hI.done hA, rfl⟩
  · refine ite_t (by rw [decide_eq_false hl]; rfl) ?_
    obtain ⟨lf, own, e⟩ : ∃ lf own, left = lf ++ [own] := ⟨left.dropLast, left.getLast hl, (List.dropLast_concat_getLast hl).symm⟩
    subst e
    have hlen := hI.len
    rw [List.length_append, List.length_singleton] at hlen
    have ho := hI.lot own (by simp)
    have hol := len8 (pw_nd ho.1.2) ho.2
    refine ⟨lf.map eLot, eLot own, by rw [List.map_append]; rfl, ?_⟩
    refine ⟨lf.map eLot, _, rfl, by rw [List.length_map]; omega, LcAll.of (f := eLot) (h := eLot) (p := near own) (as := lf) (fun l hl => lcT_of rfl ⟨.list ((l.filter fun s => decide (s ∈ own)).map eN), .list [], ⟨l.map eN, _, congrArg (fun z => some (some (PyData.tuple z))) (ze l), ?_, LcAll.of (f := eN) (h := eN) (p := fun s => decide (s ∈ own)) (as := l) (fun s hs => lcT_of rfl ⟨_, _, rfl, rfl, in_lot s own⟩ fun _ => rfl), rfl⟩, ⟨_, rfl, Nat.zero_le _, rfl⟩, sh_lN _, sh_nil, ?_⟩ fun _ => rfl), ?_⟩
    · have hl2 := hI.lot l (by simp [hl])
      have := len8 (pw_nd hl2.1.2) hl2.2
      rw [List.length_map]
      omega
    · rw [list_eq0]
      unfold near
      exact congrArg (fun b => PyData.bool (!b)) (decide_eq_decide.mpr (by rw [List.map_eq_nil_iff]))
    generalize hN : lf.filter (near own) = nl
    refine ⟨decide (nl = []), ⟨_, _, rfl, ⟨_, rfl, Nat.zero_le _, rfl⟩, sh_lots nl, sh_nil, ?_⟩, ?_⟩
    · rw [list_eq0]
      exact congrArg PyData.bool (decide_eq_decide.mpr (by rw [List.map_eq_nil_iff]))
    by_cases hn : nl = []
    · refine ite_t (decide_eq_true hn) ⟨⟨_, rfl⟩, _, rfl, _, rfl, by rw [List.length_map]; omega, lf.length, ?_, lf, fnd ++ [own], _, _, rfl, rfl, ?_, hI.found (hN.trans hn)⟩
      · rw [List.length_append, List.length_singleton]
        omega
      · rw [List.map_append (l₁ := fnd)]
        rfl
    · have mg := hI.merge (by rw [hN]; exact hn)
      rw [hN] at mg
      obtain ⟨m1, m2, m3⟩ := mg
      have nnl : nl.length ≤ lf.length := by rw [← hN]; exact List.length_filter_le _ _
      have hfl : (lf.filter fun l => !decide (l ∈ nl)) = lf.filter fun l => !near own l := by
        rw [← hN]
        exact not_near
      refine ite_f (decide_eq_false hn) ⟨lf.map eLot, _, rfl, by rw [List.length_map]; omega, LcAll.of (f := eLot) (h := eLot) (p := fun l => !decide (l ∈ nl)) (as := lf) (fun l hl => lcT_of rfl ⟨_, _, rfl, rfl, notin_lotsL l nl⟩ fun _ => rfl), .list [eLot (sset (own ++ nl.flatten))], ⟨_, ⟨_, _, ⟨_, ⟨_, _, ⟨zs (own ++ nl.flatten), zs (sset (own ++ nl.flatten)), ⟨_, .tuple ((zs nl.flatten).map .int), rfl, ⟨_, ⟨_, _, rfl, ⟨_, _, ⟨_, rfl, Nat.zero_le _, rfl⟩, rfl, rfl⟩, rfl⟩, nl.map fun l => (zs l).map .int, by rw [List.map_map]; rfl, ?_, by rw [flat_lots]⟩, _, _, rfl, rfl, ?_, by rw [zs_append, List.map_append]⟩, by rw [zs_len]; omega, zs_pw (sset_pw _), fun k => ?_, rfl⟩, rfl, rfl⟩, _, .inl rfl, rfl⟩, rfl, rfl⟩, by show 1 ≤ sizeLine; decide, rfl⟩, _, _, rfl, rfl, ?_, by show 2 < 8; omega, _, ?_, _, fnd, _, _, rfl, rfl, ?_, m1⟩
      · rw [flat_lots, List.length_map, zs_len]
        rw [List.length_append] at m3
        omega
      · rw [List.length_map, List.length_map, zs_len, zs_len]
        rw [List.length_append] at m3
        omega
      · have q8 : ∀ s ∈ own ++ nl.flatten, s < 8 := fun s hs => by
          rcases List.mem_append.mp hs with q | q
          · exact ho.2 s q
          · obtain ⟨l, hl, hsl⟩ := List.mem_flatten.mp q
            rw [← hN] at hl
            exact (hI.lot l (by simp [(List.mem_filter.mp hl).1])).2 s hsl
        rw [zs_mem, zs_mem]
        exact ⟨fun ⟨m, h1, h2⟩ => ⟨m, (sset_mem q8 m).mp h1, h2⟩, fun ⟨m, h1, h2⟩ => ⟨m, (sset_mem q8 m).mpr h1, h2⟩⟩
      · rw [List.length_map]
        have := List.length_filter_le (fun l => !decide (l ∈ nl)) lf
        show _ + 1 ≤ _
        omega
      · rw [List.length_append, List.length_append, List.length_singleton, List.length_singleton]
        omega
      · rw [hfl, List.map_append (l₁ := lf.filter fun l => !near own l)]
        rfl
end
end Rng
namespace Rng
open PySem PySem.Spec PyProof.Rows L2
theorem ne_B (a b : Bool) : RNe (.bool a) (.bool b) (.bool (!decide (a = b))) := ⟨sh_bool _, sh_bool _, congrArg (fun b => PyData.bool (!b)) (eqv_bool a b).symm⟩
theorem ne_same (a : Bool) : RNe (.bool a) (.bool a) (.bool false) := by
  have q := ne_B a a
  rw [decide_eq_true rfl] at q
  exact q
theorem eq_deal (A B : List (List Nat)) : REq (eDeal A) (eDeal B) (.bool (decide (A = B))) := ⟨sh_deal _, sh_deal _, congrArg PyData.bool (eqv_deal A B).symm⟩
theorem ne_deal (A B : List (List Nat)) : RNe (eDeal A) (eDeal B) (.bool (!decide (A = B))) := ⟨sh_deal _, sh_deal _, congrArg (fun b => PyData.bool (!b)) (eqv_deal A B).symm⟩
theorem cross_clear {n : Nat} {D : List (List Nat)} (h : IsDeal n D) (c : isClear D = true) : crossD D n = dClear := by
  rcases cross_cases h with ⟨_, e⟩ | ⟨a, b, c', d, e, _⟩
  · exact e
  · rw [c] at e; cases e
theorem cross_eq {n : Nat} {D : List (List Nat)} (h : IsDeal n D) : REq (crossD D n) dClear (.bool (isClear D)) := by
  rcases cross_cases h with ⟨c, e⟩ | ⟨a, b, c', d, c, _, _, _, _, _, e⟩
  · rw [e, c]
    exact ⟨sh_clear, sh_clear, congrArg PyData.bool eqv_clear.symm⟩
  · rw [e, c]
    exact ⟨sh_cross _, sh_clear, congrArg PyData.bool (eqv_cross _).symm⟩
theorem cross_ne {n : Nat} {D : List (List Nat)} (h : IsDeal n D) : RNe (crossD D n) dClear (.bool (!isClear D)) := by
  obtain ⟨h1, h2, h3⟩ := cross_eq h
  exact ⟨h1, h2, congrArg (fun d : PyData => match d with | .bool b => PyData.bool (!b) | d => d) h3⟩
theorem sh_dFiner : SeqAt.shaped dFiner = true := by decide +kernel
theorem sh_Apart (s t : Nat) : SeqAt.shaped (dApart s t) = true := by
  have e : PyData.canLay0 (.str "apart") = true := by decide +kernel
  have e2 : PyData.depth (.str "apart") = 0 := by decide +kernel
  have q := sh_tI [(s : Int), (t : Int)]
  unfold SeqAt.shaped at q ⊢
  have can2 := can_ints [(s : Int), (t : Int)]
  have dep2 := dep_ints [(s : Int), (t : Int)]
  have can2 : PyData.canLayAll0 [eN s, eN t] = true := can2
  have dep2 : PyData.depthAll [eN s, eN t] = 0 := dep2
  rw [PyData.canLay0, PyData.canLayAll0, can2, e, PyData.depth, PyData.depthAll, dep2, e2]
  rfl
theorem FinerD.sh {A B : List (List Nat)} {n : Nat} {d : PyData} (h : FinerD A B n d) : SeqAt.shaped d = true := by
  rcases h with ⟨_, rfl⟩ | ⟨s, t, _, _, _, _, rfl⟩
  · exact sh_dFiner
  · exact sh_Apart s t
theorem finer_eqB {n : Nat} {A B : List (List Nat)} (hA : IsDeal n A) (hB : IsDeal n B) {d : PyData} (h : FinerD A B n d) {b : Bool} (hb : b = true ↔ Fin2 A B) : REq d dFiner (.bool b) := by
  refine ⟨h.sh, sh_dFiner, congrArg PyData.bool ?_⟩
  rw [Bool.eq_iff_iff, hb]
  exact (finer_iff hA hB h).symm
theorem sum_deal {n : Nat} {D : List (List Nat)} (h : IsDeal n D) : (D.map fun l => (((zs l).map PyData.int).length : Int)).sum = (n : Int) := by
  have e : (D.map fun l => (((zs l).map PyData.int).length : Int)) = (D.map List.length).map fun n : Nat => (n : Int) := by
    rw [List.map_map]
    exact List.map_congr_left fun l _ => by rw [List.length_map, zs_len]; rfl
  rw [e, sum_ints, sum_len, h.flen]
section
variable {P : Program} {w : World} {K : PySem.W.Frag} {mg : Str → Option Value} {base : Heap} {f : Addr} {fd : FuncData}
abbrev Pre_deal : List PyData → Prop := fun ds => ∃ n D, IsDeal n D ∧ ds = [eDeal D]
abbrev Post_true : List PyData → PyData → Prop := fun _ d => d = .bool true
abbrev N_law_clear_right : List Str := ["_law_pen_here", "_law_deal_here", "_law_told", "_law_word", "_law_other", "_law_seat", "_law_lot"]
theorem sc_law_clear_right : FnScope N_law_clear_right ["_law_pen_here", "_law_deal_here"] (defScope s_law_clear_right) := ⟨rfl, rfl, rfl, by decide +kernel, rfl, by decide +kernel, by decide +kernel⟩
theorem c_law_clear_right (T : Txt mg) (C_cleared : Cal P w K mg base 21 "cleared" ["deal"] R_cleared) (C_crossing : Cal P w K mg base 6 "crossing" ["deal"] R_crossing) (C_is_parting : Cal P w K mg base 5 "is_parting" ["thing"] R_is_parting) (C_law_has_all : Cal P w K mg base 7 "_law_has_all" ["_law_parting_here", "_law_deal_here"] R_law_has_all)
    (C_shows_crossing : Cal P w K mg base 6 "shows_crossing" ["deal", "thing"] R_shows_crossing) (C_lot_of : Cal P w K mg base 6 "lot_of" ["deal", "seat"] R_lot_of) (C_finer : Cal P w K mg base 8 "finer" ["one", "other"] R_finer) (C_law_coarser : CalP P w K mg base 5 "_law_coarser" ["_law_pen_here", "_law_parting_here", "_law_most"] Pre_law_coarser Post_law_coarser)
    (C_law_parting : CalP P w K mg base 2 "_law_parting" ["_law_pen_here", "_law_many"] Pre_N Post_law_parting) (h : Has K mg "_law_clear_right" s_law_clear_right f fd) : CalP P w K mg base 22 "_law_clear_right" ["_law_pen_here", "_law_deal_here"] Pre_deal Post_true := by
  refine CalS.mk' h (fn_O h.1 sc_law_clear_right (fun ds ⟨n, D, _, e⟩ => by rw [e]; rfl) (by decide) (fun cdv A outer s H E hr => ⟨_, (oss_cons (os_asg (oe_pure (de_tup (da_cons (de_cal C_cleared hr (by decide) rfl (da_cons (de_var 1) da_nil)) (da_cons (de_cal C_crossing hr (by decide) rfl (da_cons (de_var 1) da_nil)) da_nil)))) (og_two (i := 2) (j := 3) rfl sc_law_clear_right.nd rfl rfl (Or.inr rfl) (Or.inl rfl)))
      (oss_cons (os_if (ot_pure (DW.dt (dw_or (dt_not (dt_val (de_cal C_is_parting hr (by decide) rfl (da_cons (de_var 2) da_nil)))) (dw_or (dt_cmp (op_neD hr.units) vop_ne (de_cal C_crossing hr (by decide) rfl (da_cons (de_var 2) da_nil)) (de_tup (da_cons de_str da_nil)) (nomark _)) (dw_or (dt_cmp (op_neD hr.units) vop_ne (de_cal C_cleared hr (by decide) rfl (da_cons (de_var 2) da_nil)) (de_var 2) (nomark _)) (dw_or1 (dt_not (dt_val (de_cal C_law_has_all hr (by decide) rfl (da_cons (de_var 2) (da_cons (de_var 1) da_nil))))))))))) (oss_one (os_ret (oe_pure de_bl))) oss_nil)
      (oss_cons (os_if (ot_pure (DW.dt (dw_or (dt_cmp (op_neD hr.units) vop_ne (de_cmp (op_eqD hr.units) vop_eq (de_var 3) (de_tup (da_cons de_str da_nil)) (nomark _)) (de_cmp (op_eqD hr.units) vop_eq (de_var 2) (de_var 1) (nomark _)) (nomark _)) (dw_or1 (dt_cmp (op_neD hr.units) vop_ne (de_cal C_is_parting hr (by decide) rfl (da_cons (de_var 1) da_nil)) (de_cmp (op_eqD hr.units) vop_eq (de_var 2) (de_var 1) (nomark _)) (nomark _)))))) (oss_one (os_ret (oe_pure de_bl))) oss_nil)
      (oss_cons (os_if (ot_pure (DW.dt (dw_or (dt_cmp op_isnot_bl vop_notB (de_cal C_shows_crossing hr (by decide) rfl (da_cons (de_var 1) (da_cons (de_var 3) da_nil))) de_bl (nomark _)) (dw_or1 (dt_cmp op_isnot_bl vop_notB (de_cal C_shows_crossing hr (by decide) rfl (da_cons (de_var 2) (da_cons (de_tup (da_cons de_str da_nil)) da_nil))) de_bl (nomark _)))))) (oss_one (os_ret (oe_pure de_bl))) oss_nil)
      (oss_cons (os_if (ot_pure (DW.dt (dw_and (dt_cmp (op_neD hr.units) vop_ne (de_var 3) (de_tup (da_cons de_str da_nil)) (nomark _)) (dw_and1 (dt_cmp (op_neD hr.units) vop_ne (de_lenSet1 rfl hr.units rfl T.len rfl T.set (de_lc (own := [("_law_seat", 5)]) rfl sc_law_clear_right.nd (di_tup (de_slT (de_var 3) (do_some de_int) do_none)) (blkOk_by (own := [("_law_seat", 5)]) (N := N_law_clear_right) (sc := defScope s_law_clear_right) (by decide +kernel)) (fun _ _ _ _ _ => (dg_name (i := 5) sc_law_clear_right.nd rfl (Or.inl rfl))) (fun _ _ _ _ _ => dts_nil) (fun _ _ _ _ _ => (de_cal C_lot_of hr (by decide) rfl (da_cons (de_var 2) (da_cons (de_var 5) da_nil)))))) de_int (nomark _)))))) (oss_one (os_ret (oe_pure de_bl))) oss_nil)
      (oss_cons (os_for PassesOwn.never (oi_list (oe_lst (oa_cons (oe_pen (i := 0) C_law_coarser hr (by decide) rfl (oa_cons (oe_pure (de_var 2)) (oa_cons (oe_pure de_int) oa_nil))) (oa_cons (oe_pen (i := 0) C_law_parting hr (by decide) rfl (oa_cons (oe_pure (de_callB (cr_sum rfl) vc_sumI rfl T.sum (by decide +kernel) (da_cons (de_lc (own := [("_law_lot", 6)]) rfl sc_law_clear_right.nd (di_tup (de_var 1)) (blkOk_by (own := [("_law_lot", 6)]) (N := N_law_clear_right) (sc := defScope s_law_clear_right) (by decide +kernel)) (fun _ _ _ _ _ => (dg_name (i := 6) sc_law_clear_right.nd rfl (Or.inl rfl))) (fun _ _ _ _ _ => dts_nil) (fun _ _ _ _ _ => (de_callB call_len_seq vc_len rfl T.len (by decide +kernel) (da_cons (de_var 6) da_nil)))) da_nil))) oa_nil)) oa_nil)))) (og_name (i := 4) sc_law_clear_right.nd rfl (Or.inl rfl)) (oss_one (os_if (ot_pure (dt_cmp (op_neD hr.units) vop_ne (de_cal C_law_has_all hr (by decide) rfl (da_cons (de_var 4) (da_cons (de_var 1) da_nil))) (de_cmp (op_eqD hr.units) vop_eq (de_cal C_finer hr (by decide) rfl (da_cons (de_var 2) (da_cons (de_var 4) da_nil))) (de_tup (da_cons de_str da_nil)) (nomark _)) (nomark _))) (oss_one (os_ret (oe_pure de_bl))) oss_nil)))
      (oss_one (os_ret (oe_pure de_bl))))))))), fun ds ⟨n, D, hD, e⟩ => ?_⟩)) (fun _ _ _ _ _ _ us hl => match us, hl with | [_, _], _ => rfl)
  subst e
  have c := cleared_all hD
  have hte : decide (clearedBy D = D) = isClear D := by
    rw [Bool.eq_iff_iff, decide_eq_true_iff]
    exact cleared_eq hD
  have hT := c.deal
  have cT := c.clear
  have n8 := hD.n8
  have n1 := hD.n1
  have hl := hD.len
  have idT := cleared_id hT cT
  generalize hTe : clearedBy D = TT at c hte hT cT idT
  refine ⟨_, ⟨_, ⟨_, _, ⟨_, ⟨_, _, rfl, rfl, rfl⟩, n, D, hD, rfl, rfl⟩, ⟨_, _, ⟨_, ⟨_, _, rfl, rfl, rfl⟩, n, D, hD, rfl, rfl⟩, rfl, rfl⟩, rfl⟩, by show 2 ≤ sizeLine; decide, rfl⟩, _, _, rfl, ?_⟩
  rw [hTe]
  -- told is a parting, clear, itself cleared, has all
  refine ⟨false, ⟨false, ⟨_, ⟨_, _, rfl, rfl, rfl⟩, n, TT, hT, rfl, by rw [cT]; rfl⟩, iteF ⟨false, ⟨_, _, ⟨_, ⟨_, _, rfl, rfl, rfl⟩, n, TT, hT, rfl, rfl⟩, ⟨_, ⟨_, _, rfl, rfl, rfl⟩, by show 1 ≤ sizeLine; decide, rfl⟩, ?_⟩, iteF ⟨false, ⟨_, _, ⟨_, ⟨_, _, rfl, rfl, rfl⟩, n, TT, hT, rfl, rfl⟩, rfl, ?_⟩, iteF ⟨_, ⟨_, _, rfl, ⟨_, _, rfl, rfl, rfl⟩, rfl⟩, n, TT, D, hT, hD, rfl, ?_⟩⟩⟩⟩, iteF ?_⟩
  · have q := cross_ne hT
    rw [cT] at q
    exact q
  · rw [idT]
    have q := ne_deal TT TT
    rw [decide_eq_true rfl] at q
    exact q
  · rw [(hasAll_iff hT hD).mpr c.up]
    rfl
  -- the word says what told says
  refine ⟨false, ⟨false, ⟨.bool (isClear D), .bool (isClear D), ⟨_, _, rfl, ⟨_, ⟨_, _, rfl, rfl, rfl⟩, by show 1 ≤ sizeLine; decide, rfl⟩, cross_eq hD⟩, ⟨_, _, rfl, rfl, ?_⟩, ne_same _⟩, iteF ⟨.bool (isClear D), .bool (isClear D), ⟨_, ⟨_, _, rfl, rfl, rfl⟩, n, D, hD, rfl, rfl⟩, ⟨_, _, rfl, rfl, ?_⟩, ne_same _⟩⟩, iteF ?_⟩
  · rw [← hte]
    exact eq_deal TT D
  · rw [← hte]
    exact eq_deal TT D
  -- both are shown
  have shw : R_shows_crossing [eDeal D, crossD D n] (.bool true) := by
    rcases cross_cases hD with ⟨cl, e⟩ | ⟨a, b, c', d, cl, ha, hb, hc, hd, hf, e⟩
    · exact .inl ⟨n, D, hD, by rw [e], by rw [cl]⟩
    · exact .inr ⟨n, D, a, b, c', d, hD, ha, hb, hc, hd, by rw [e], by rw [hf]⟩
  refine ⟨false, ⟨false, ⟨.bool true, .bool true, ⟨_, ⟨_, _, rfl, ⟨_, _, rfl, rfl, rfl⟩, rfl⟩, shw⟩, rfl, true, true, rfl, rfl, rfl⟩, iteF ⟨.bool true, .bool true, ⟨_, ⟨_, _, rfl, ⟨_, _, ⟨_, ⟨_, _, rfl, rfl, rfl⟩, by show 1 ≤ sizeLine; decide, rfl⟩, rfl, rfl⟩, rfl⟩, .inl ⟨n, TT, hT, rfl, by rw [cT]⟩⟩, rfl, true, true, rfl, rfl, rfl⟩⟩, iteF ?_⟩
  -- the four lie in one
  refine ⟨false, ⟨!isClear D, ⟨_, _, rfl, ⟨_, ⟨_, _, rfl, rfl, rfl⟩, by show 1 ≤ sizeLine; decide, rfl⟩, cross_ne hD⟩, ?_⟩, iteF ?_⟩
  · rcases cross_cases hD with ⟨cl, e⟩ | ⟨a, b, c', d, cl, ha, hb, hc, hd, hf, e⟩
    · exact ite_f (by rw [cl]; rfl) rfl
    · refine ite_t (by rw [cl]; rfl) ?_
      rw [e]
      obtain ⟨t, ht, h1, h2, h3, h4⟩ := four_in hD c hd hf
      have lw : ∀ s ∈ [a, b, c', d], s < n ∧ lotW TT s = t := fun s hs => by
        simp at hs
        rcases hs with e | e | e | e
        · subst e; exact ⟨ha, hT.lotW ht h1⟩
        · subst e; exact ⟨hb, hT.lotW ht h2⟩
        · subst e; exact ⟨hc, hT.lotW ht h3⟩
        · subst e; exact ⟨hd, hT.lotW ht h4⟩
      have hcut : PyData.tuple ((zs [a, b, c', d]).map .int) = .tuple (cutD (.str "cross" :: (zs [a, b, c', d]).map .int) (some 1) none) := congrArg PyData.tuple (cut_from (ds := .str "cross" :: (zs [a, b, c', d]).map .int) 1).symm
      refine ⟨.int 1, .int 1, ⟨[a, b, c', d].map fun _ => zs t, zs t, ⟨[a, b, c', d].map eN, _, ⟨_, _, _, rfl, ⟨1, rfl, rfl⟩, rfl, _, rfl, by rw [← ze]; exact hcut⟩, by rw [List.length_map]; show 4 ≤ _; omega, LcAll.ofMap (f := eN) (h := fun _ => eLot t) (as := [a, b, c', d]) (fun s hs => lcT_1 rfl ⟨_, ⟨_, _, rfl, ⟨_, _, rfl, rfl, rfl⟩, rfl⟩, n, TT, s, hT, (lw s hs).1, rfl, by rw [(lw s hs).2]⟩), by rw [List.map_map]; rfl⟩, by simp, by simp, fun k hk => ?_, rfl⟩, rfl, sh_int _, sh_int _, ?_⟩
      · obtain ⟨_, _, e⟩ := List.mem_map.mp hk
        exact e.symm
      · exact congrArg (fun b => PyData.bool (!b)) (eqv_N 1 1).symm
  -- it is the finest
  have fin : ∀ Q : List (List Nat), IsDeal n Q → isClear Q = true → ∃ d, FinerD TT Q n d ∧ REq d dFiner (.bool (hasAll Q D)) := fun Q hQ cQ => by
    obtain ⟨d, hd⟩ := finer_some TT Q n
    exact ⟨d, hd, finer_eqB hT hQ hd (by rw [hasAll_iff hQ hD]; exact clr_fin hQ cQ c)⟩
  refine ⟨rfl, _, rfl, _, rfl, rfl, ⟨n, TT, 2, hT, cT, by omega, rfl⟩, fun d ⟨n2, D2, k2, Q1, q1, q2, q3, q4, q5⟩ => ?_⟩
  subst q5
  have e5 := eDeal_inj (List.cons.inj q2).1
  subst e5
  have e6 := hT.uniq q1
  subst e6
  refine ⟨rfl, eN n, ⟨_, ⟨_, _, ⟨_, _, rfl, by rw [List.length_map]; omega, LcAll.ofMap (f := eLot) (h := fun l => PyData.int (((zs l).map PyData.int).length : Int)) (as := D) (fun l hl => lcT_1 rfl ⟨_, ⟨_, _, rfl, rfl, rfl⟩, _, .inr rfl, rfl⟩), rfl⟩, rfl, rfl⟩, D.map (fun l => (((zs l).map PyData.int).length : Int)), by rw [List.map_map]; rfl, by rw [sum_deal hD]⟩, rfl, ⟨n, n1, n8, rfl⟩, fun d ⟨n3, Q2, r1, r2, r3, r4⟩ => ?_⟩
  subst r4
  have e7 := int_nat r1
  subst e7
  refine ⟨by show 2 ≤ sizeLine; decide, [Q1, Q2].map eDeal, rfl, fun i ρ ω => ∃ o4, ρ = [none, some (eDeal D), some (eDeal TT), some (crossD D n), o4, none, none] ∧ ω = [.pen, .no, .no, .no, .no, .no, .no], ⟨none, rfl, rfl⟩, ?_, ?_⟩
  · rintro i d ρ ω hd ⟨o4, rfl, rfl⟩
    obtain ⟨Q, hQ, rfl⟩ := map_at hd
    have hQm := take_at hQ
    obtain ⟨hQd, hQc⟩ : IsDeal n Q ∧ isClear Q = true := by
      simp at hQm
      rcases hQm with e | e
      · subst e; exact ⟨q3, q4⟩
      · subst e; exact ⟨r2, r3⟩
    obtain ⟨d, hd, hq⟩ := fin Q hQd hQc
    exact ⟨false, ⟨.bool (hasAll Q D), .bool (hasAll Q D), ⟨_, ⟨_, _, rfl, ⟨_, _, rfl, rfl, rfl⟩, rfl⟩, n, Q, D, hQd, hD, rfl, rfl⟩, ⟨d, dFiner, ⟨_, ⟨_, _, rfl, ⟨_, _, rfl, rfl, rfl⟩, rfl⟩, n, TT, Q, hT, hQd, cT, hQc, rfl, hd⟩, ⟨_, ⟨_, _, rfl, rfl, rfl⟩, by show 1 ≤ sizeLine; decide, rfl⟩, hq⟩, ne_same _⟩, iteF ⟨_, rfl, rfl⟩⟩
  · rintro ρ ω ⟨o4, rfl, rfl⟩
    exact ⟨_, rfl, rfl⟩
theorem perm_map_inv {α β : Type} {g : α → β} {xs ys : List β} (h : xs.Perm ys) : ∀ l : List α, ys = l.map g → ∃ M : List α, M.Perm l ∧ xs = M.map g := by
  induction h with
  | nil =>
    intro l e
    have : l = [] := List.map_eq_nil_iff.mp e.symm
    subst this
    exact ⟨[], List.Perm.refl _, rfl⟩
  | cons x _ ih =>
    intro l e
    cases l with
    | nil => cases e
    | cons a l =>
      rw [List.map_cons] at e
      obtain ⟨e1, e2⟩ := List.cons.inj e
      obtain ⟨M, h1, h2⟩ := ih l e2
      exact ⟨a :: M, h1.cons a, by rw [List.map_cons, e1, h2]⟩
  | swap x y t =>
    intro l e
    match l, e with
    | a :: b :: l, e =>
      rw [List.map_cons, List.map_cons] at e
      obtain ⟨e1, e⟩ := List.cons.inj e
      obtain ⟨e2, e3⟩ := List.cons.inj e
      exact ⟨b :: a :: l, List.Perm.swap _ _ _, by rw [List.map_cons, List.map_cons, e1, e2, e3]⟩
  | trans _ _ ih1 ih2 =>
    intro l e
    obtain ⟨M, h1, h2⟩ := ih2 l e
    obtain ⟨M2, h3, h4⟩ := ih1 M h2
    exact ⟨M2, h3.trans h1, h4⟩
theorem tips_nodup {n : Nat} {D : List (List Nat)} (h : IsDeal n D) : (tipsL D).Nodup := by
  unfold tipsL
  refine List.pairwise_map.mpr (List.Pairwise.imp_of_mem ?_ h.nodup)
  intro a b ha hb hab e
  exact hab (h.one ha hb (head_mem (h.lot a ha)) (by rw [e]; exact head_mem (h.lot b hb)))
abbrev N_law_joined_right : List Str := ["_law_pen_here", "_law_deal_here", "_law_a", "_law_b", "_law_wide", "_law_lot"]
theorem sc_law_joined_right : FnScope N_law_joined_right ["_law_pen_here", "_law_deal_here"] (defScope s_law_joined_right) := ⟨rfl, rfl, rfl, by decide +kernel, rfl, by decide +kernel, by decide +kernel⟩
theorem c_law_joined_right (T : Txt mg) (C_law_mixed : CalP P w K mg base 2 "_law_mixed" ["_law_pen_here", "_law_some"] Pre_law_mixed Post_law_mixed) (C_law_put : Cal P w K mg base 2 "_law_put" ["_law_parting_here", "_law_a", "_law_b"] R_law_put) (C_cleared : Cal P w K mg base 21 "cleared" ["deal"] R_cleared) (C_is_parting : Cal P w K mg base 5 "is_parting" ["thing"] R_is_parting)
    (C_lot_of : Cal P w K mg base 6 "lot_of" ["deal", "seat"] R_lot_of) (C_finer : Cal P w K mg base 8 "finer" ["one", "other"] R_finer) (h : Has K mg "_law_joined_right" s_law_joined_right f fd) : CalP P w K mg base 22 "_law_joined_right" ["_law_pen_here", "_law_deal_here"] Pre_deal Post_true := by
  refine CalS.mk' h (fn_O h.1 sc_law_joined_right (fun ds ⟨n, D, _, e⟩ => by rw [e]; rfl) (by decide) (fun cdv A outer s H E hr => ⟨_, (oss_cons (os_if (ot_pure (dt_cmp (op_eqD hr.units) vop_eq (de_callB call_len_seq vc_len rfl T.len (by decide +kernel) (da_cons (de_var 1) da_nil)) de_int (nomark _))) (oss_one (os_ret (oe_pure de_bl))) oss_nil)
      (oss_cons (os_asg (oe_callB cr_sortIT vc_sortI rfl T.sorted (by decide +kernel) (oa_cons (oe_slL (oe_pen (i := 0) C_law_mixed hr (by decide) rfl (oa_cons (oe_pure (de_lc (own := [("_law_lot", 5)]) rfl sc_law_joined_right.nd (di_tup (de_var 1)) (blkOk_by (own := [("_law_lot", 5)]) (N := N_law_joined_right) (sc := defScope s_law_joined_right) (by decide +kernel)) (fun _ _ _ _ _ => (dg_name (i := 5) sc_law_joined_right.nd rfl (Or.inl rfl))) (fun _ _ _ _ _ => dts_nil) (fun _ _ _ _ _ => (de_ixT (de_var 5) de_int (fun _ _ => rfl))))) oa_nil)) do_none (do_some de_int)) oa_nil)) (og_twoL (i := 2) (j := 3) rfl sc_law_joined_right.nd rfl rfl (Or.inl rfl) (Or.inl rfl)))
      (oss_cons (os_set (i := 4) sc_law_joined_right.nd rfl (Or.inl rfl) (oe_pure (de_cal C_law_put hr (by decide) rfl (da_cons (de_var 1) (da_cons (de_var 2) (da_cons (de_var 3) da_nil))))))
      (oss_cons (os_if (ot_pure (DW.dt (dw_or (dt_not (dt_val (de_cal C_is_parting hr (by decide) rfl (da_cons (de_cal C_cleared hr (by decide) rfl (da_cons (de_var 4) da_nil)) da_nil)))) (dw_or1 (dt_cmp (op_neD hr.units) vop_ne (de_cal C_finer hr (by decide) rfl (da_cons (de_cal C_cleared hr (by decide) rfl (da_cons (de_var 1) da_nil)) (da_cons (de_cal C_cleared hr (by decide) rfl (da_cons (de_var 4) da_nil)) da_nil))) (de_tup (da_cons de_str da_nil)) (nomark _)))))) (oss_one (os_ret (oe_pure de_bl))) oss_nil)
      (oss_one (os_ret (oe_pure (de_cmp (op_eqD hr.units) vop_eq (de_cal C_lot_of hr (by decide) rfl (da_cons (de_cal C_cleared hr (by decide) rfl (da_cons (de_var 4) da_nil)) (da_cons (de_var 2) da_nil))) (de_cal C_lot_of hr (by decide) rfl (da_cons (de_cal C_cleared hr (by decide) rfl (da_cons (de_var 4) da_nil)) (da_cons (de_var 3) da_nil))) (nomark _))))))))), fun ds ⟨n, D, hD, e⟩ => ?_⟩)) (fun _ _ _ _ _ _ us hl => match us, hl with | [_, _], _ => rfl)
  subst e
  have n8 := hD.n8
  have hl := hD.len
  refine ⟨decide (D.length = 1), ⟨_, _, ⟨_, ⟨_, _, rfl, rfl, rfl⟩, _, .inr rfl, rfl⟩, rfl, ?_⟩, ?_⟩
  · rw [List.length_map]
    exact eq_N D.length 1
  by_cases h1 : D.length = 1
  · exact ite_t (decide_eq_true h1) ⟨_, rfl, rfl⟩
  refine ite_f (decide_eq_false h1) ?_
  have tl : (tipsL D).length = D.length := by unfold tipsL; rw [List.length_map]
  have hD0 : D.length ≠ 0 := fun e => hD.ne (List.eq_nil_of_length_eq_zero e)
  refine ⟨rfl, .list ((tipsL D).map eN), ⟨D.map eLot, _, rfl, by rw [List.length_map]; omega, LcAll.ofMap (f := eLot) (h := fun l => eN (l.headD 0)) (as := D) (fun l hl => lcT_1 rfl ⟨_, _, rfl, rfl, _, _, rfl, rfl, atI_lot0 (hD.lot l hl).1⟩), by unfold tipsL; rw [List.map_map]; rfl⟩, rfl, ⟨(tipsL D).map eN, by rw [List.length_map]; omega, rfl⟩, fun d ⟨L, L', eL, hp, e⟩ => ?_⟩
  subst e
  have eL2 : (tipsL D).map eN = L := PyData.list.inj (List.cons.inj eL).1
  subst eL2
  obtain ⟨M, hM, rfl⟩ := perm_map_inv hp _ rfl
  have hMl := hM.length_eq
  have hMn : M.Nodup := hM.nodup_iff.mpr (tips_nodup hD)
  match M, hM, hMl, hMn with
  | [], _, q, _ => exact absurd (q.trans tl) (by intro z; exact hD0 z.symm)
  | [x], _, q, _ => exact absurd (q.trans tl) (by intro z; exact h1 z.symm)
  | x :: y :: r, hM, _, hMn =>
    have hxy : x ≠ y := by
      have := (List.nodup_cons.mp hMn).1
      intro e
      exact this (by rw [e]; exact List.mem_cons_self)
    have hx : x ∈ tipsL D := hM.mem_iff.mp List.mem_cons_self
    have hy : y ∈ tipsL D := hM.mem_iff.mp (by simp)
    have hcut : cutD ((x :: y :: r).map eN) none (some 2) = [eN x, eN y] := cut_to (ds := (x :: y :: r).map eN) 2
    -- the two in order
    obtain ⟨a, b, hab, ha, hb, hperm⟩ : ∃ a b, a < b ∧ a ∈ tipsL D ∧ b ∈ tipsL D ∧ [(a : Int), (b : Int)].Perm [(x : Int), (y : Int)] := by
      by_cases q : x < y
      · exact ⟨x, y, q, hx, hy, List.Perm.refl _⟩
      · exact ⟨y, x, by omega, hy, hx, List.Perm.swap _ _ _⟩
    obtain ⟨la, hla, ea⟩ := tips_mem ha
    obtain ⟨lb, hlb, eb⟩ := tips_mem hb
    have p := put_all hD hla hlb ea eb (by omega)
    obtain ⟨x1, y1, ebo⟩ := both_xy p
    have wd := p.deal
    have wup := p.up
    have wone := p.one
    have c := cleared_all hD
    have c2 := cleared_all wd
    have ff : Fin2 (clearedBy D) (clearedBy (inOrder (lawPutL D a b))) := c.low _ (c2.deal.apt c2.clear) (wup.trans c2.up)
    obtain ⟨d, hd⟩ := finer_some (clearedBy D) (clearedBy (inOrder (lawPutL D a b))) n
    have hfe : REq d dFiner (.bool true) := finer_eqB c.deal c2.deal hd ⟨fun _ => ff, fun _ => rfl⟩
    obtain ⟨t, ht, hat, hbt⟩ := wone
    obtain ⟨t2, ht2, hsub⟩ := c2.up t ht
    have la1 := c2.deal.lotW ht2 (hsub a hat)
    have lb1 := c2.deal.lotW ht2 (hsub b hbt)
    have an := wd.lt ht hat
    have bn := wd.lt ht hbt
    refine ⟨none, some 2, _, rfl, ⟨2, rfl, rfl⟩, rfl, .list ([(a : Int), (b : Int)].map .int), ⟨[(x : Int), (y : Int)], [(a : Int), (b : Int)], .inl ?_, hperm, by simp; omega, rfl⟩, eN a, eN b, rfl, ?_⟩
    · rw [hcut]
      rfl
    refine ⟨_, ⟨_, ⟨_, _, rfl, ⟨_, _, rfl, ⟨_, _, rfl, rfl, rfl⟩, rfl⟩, rfl⟩, n, D, a, b, x1, y1, [], hD, ebo, p.lots, rfl, rfl⟩, ?_⟩
    refine ⟨false, ⟨false, ⟨_, ⟨_, _, ⟨_, ⟨_, _, rfl, rfl, rfl⟩, n, _, wd, rfl, rfl⟩, rfl, rfl⟩, n, _, c2.deal, rfl, by rw [c2.clear]; rfl⟩, iteF ⟨d, dFiner, ⟨_, ⟨_, _, ⟨_, ⟨_, _, rfl, rfl, rfl⟩, n, D, hD, rfl, rfl⟩, ⟨_, _, ⟨_, ⟨_, _, rfl, rfl, rfl⟩, n, _, wd, rfl, rfl⟩, rfl, rfl⟩, rfl⟩, n, _, _, c.deal, c2.deal, c.clear, c2.clear, rfl, hd⟩, ⟨_, ⟨_, _, rfl, rfl, rfl⟩, by show 1 ≤ sizeLine; decide, rfl⟩, ?_⟩⟩, iteF ?_⟩
    · obtain ⟨z1, z2, z3⟩ := hfe
      exact ⟨z1, z2, congrArg (fun d : PyData => match d with | .bool b => PyData.bool (!b) | d => d) z3⟩
    · refine ⟨_, ⟨_, _, ⟨_, ⟨_, _, ⟨_, ⟨_, _, rfl, rfl, rfl⟩, n, _, wd, rfl, rfl⟩, ⟨_, _, rfl, rfl, rfl⟩, rfl⟩, n, _, a, c2.deal, an, rfl, rfl⟩, ⟨_, ⟨_, _, ⟨_, ⟨_, _, rfl, rfl, rfl⟩, n, _, wd, rfl, rfl⟩, ⟨_, _, rfl, rfl, rfl⟩, rfl⟩, n, _, b, c2.deal, bn, rfl, rfl⟩, eq_lot _ _⟩, ?_⟩
      rw [la1, lb1]
      exact congrArg PyData.bool (decide_eq_true rfl)
end
end Rng
/-! the script: a list of ints that stands, read only -/
namespace Rng
open PySem PySem.Spec PyProof.Rows L2
def Scr (K : PySem.W.Frag) (d : PyData) (ns : List Int) : Prop := ∀ H v, Rp H d v → ∃ a, v = .ref a ∧ SqL K H a (ns.map V.int)
theorem sq_same {K : PySem.W.Frag} {H H' : Hp} {a : Addr} {xs : List V} (s : Same H H') (h : SqL K H a xs) : SqL K H' a xs := by
  rcases h with (h | ⟨o, h⟩) | h
  · exact .inl (.inl (s _ _ h))
  · exact .inl (.inr ⟨o, s _ _ h⟩)
  · exact .inr h
theorem scr_kept {K : PySem.W.Frag} {a : Addr} {ns : List Int} (h : ∀ H, SqL K H a (ns.map V.int)) : Scr K (.dict [(.int (a : Int), .none)]) ns := fun H v r => by
  have e : v = .ref ((a : Int)).toNat := r
  rw [Int.toNat_natCast] at e
  exact ⟨a, e, h H⟩
theorem scr_frz {K : PySem.W.Frag} {a : Addr} {ns : List Int} : Scr K (.dict [(.int (a : Int), .list (ns.map .int))]) ns := fun H v r => by
  obtain ⟨e, o, h⟩ : v = .ref ((a : Int)).toNat ∧ ∃ o, H ((a : Int)).toNat = some (.frz o (.lst ((ns.map PyData.int).map dInt))) := r
  rw [Int.toNat_natCast] at e h
  rw [List.map_map] at h
  exact ⟨a, e, .inl (.inr ⟨o, h⟩)⟩
abbrev RLenQ (K : PySem.W.Frag) : List PyData → PyData → Prop := fun ds d => ∃ x ns, ds = [x] ∧ Scr K x ns ∧ d = .int (ns.length : Int)
theorem vc_lenQ {K : PySem.W.Frag} : VCall (fun xs H Q => ∃ p ys, xs = [.ref p] ∧ (SqL K H p ys ∨ SqT K H p ys) ∧ Q (.int ys.length) H) (RLenQ K) := fun hot H xs Q ds d al rp ⟨x, ns, e, hs, e2⟩ k => by
  subst e e2
  obtain ⟨v, rfl, r⟩ := rp_one rp
  obtain ⟨a, rfl, h⟩ := hs _ _ r
  refine ⟨a, _, rfl, .inl (sq_same cold_same h), ?_⟩
  rw [List.length_map]
  exact k.now rfl
abbrev RIxQ (K : PySem.W.Frag) : PyData → PyData → PyData → Prop := fun d1 d2 d => ∃ ns i z, Scr K d1 ns ∧ d2 = .int i ∧ atI ns i = some z ∧ d = .int z
theorem atI_map {α β : Type} {g : α → β} {xs : List α} {i : Int} {x : α} (h : atI xs i = some x) : atI (xs.map g) i = some (g x) := by
  unfold atI at h ⊢
  rw [List.length_map]
  cases q : ixN xs.length i with
  | none => rw [q] at h; cases h
  | some j =>
    rw [q] at h
    have h : xs[j]? = some x := h
    show (xs.map g)[j]? = _
    rw [List.getElem?_map, h]
    rfl
theorem vop_ixQ {K : PySem.W.Frag} : VOp (rIxL K) (RIxQ K) := fun hot H x y Q d1 d2 d al r1 r2 ⟨ns, i, z, hs, e2, e3, e4⟩ k => by
  subst e2 e4
  obtain ⟨a, rfl, h⟩ := hs _ _ r1
  have e : y = V.int i := r2
  subst e
  exact ⟨a, _, i, _, rfl, rfl, sq_same cold_same h, atI_map e3, k.now rfl⟩
theorem de_ixQ {X : Cx} {a b : Expr} {ra rb : RD} {pos : Pos} (ha : DE X a ra) (hb : DE X b rb) (hs : PlainIx b) : DE X (.Subscript a b pos) (rOp (RIxQ X.K) ra rb) := (pe_ix ix_list ha hb hs).imp fun σ H Q h => tD_op vop_ixQ h
end Rng
namespace Rng
open PySem PySem.Spec PyProof.Rows L2
abbrev RIC (C : Int → Int → Prop) (g : Int → Int → Int) : PyData → PyData → PyData → Prop := fun d1 d2 d => ∃ i j, d1 = .int i ∧ d2 = .int j ∧ C i j ∧ d = .int (g i j)
theorem vop_IC {C : Int → Int → Prop} {g : Int → Int → Int} : VOp (rI C fun i j => .int (g i j)) (RIC C g) := fun hot H x y Q d1 d2 d al r1 r2 ⟨i, j, e1, e2, hc, e3⟩ k => by
  subst e1 e2 e3
  exact ⟨i, j, r1, r2, hc, k.now rfl⟩
section
variable {P : Program} {w : World} {K : PySem.W.Frag} {mg : Str → Option Value} {base : Heap} {f : Addr} {fd : FuncData}
abbrev R_law_cell_at (K : PySem.W.Frag) : List PyData → PyData → Prop := fun ds d => ∃ (x : PyData) (ns : List Int) (k : Nat), Scr K x ns ∧ ds = [x, eN k] ∧ d = .int (ns.getD k 0)
abbrev N_law_cell_at : List Str := ["_law_script", "_law_k"]
theorem sc_law_cell_at : FnScope N_law_cell_at ["_law_script", "_law_k"] (defScope s_law_cell_at) := ⟨rfl, rfl, rfl, by decide +kernel, rfl, by decide +kernel, by decide +kernel⟩
theorem c_law_cell_at (T : Txt mg) (h : Has K mg "_law_cell_at" s_law_cell_at f fd) : Cal P w K mg base 1 "_law_cell_at" ["_law_script", "_law_k"] (R_law_cell_at K) := by
  refine CalS.mk' h (fn_D h.1 sc_law_cell_at (fun ds d ⟨x, ns, k, _, e, _⟩ => by rw [e]; rfl) (fun cdv A outer s H E hr => ⟨_, (dss_cons (ds_if (dt_cmp op_lt vop_B (de_var 1) (de_callB call_len_seq vc_lenQ rfl T.len (by decide +kernel) (da_cons (de_var 0) da_nil)) (nomark _)) (dss_one (ds_ret (de_ixQ (de_var 0) (de_var 1) (fun _ _ => rfl)))) dss_nil)
      (dss_one (ds_ret de_int))), fun ds d ⟨x, ns, k, hx, e1, e2⟩ => ?_⟩)) (fun _ _ _ _ _ _ us hl => match us, hl with | [_, _], _ => rfl)
  subst e1 e2
  refine ⟨decide (k < ns.length), ⟨_, _, rfl, ⟨_, ⟨_, _, rfl, rfl, rfl⟩, x, ns, rfl, hx, rfl⟩, _, _, rfl, rfl, congrArg PyData.bool (decide_eq_decide.mpr (by omega))⟩, ?_⟩
  by_cases hk : k < ns.length
  · refine ite_t (decide_eq_true hk) ⟨.int ns[k], ⟨_, _, rfl, rfl, ns, k, ns[k], hx, rfl, atI_nat (List.getElem?_eq_getElem hk), rfl⟩, ?_⟩
    · show PyData.int _ = PyData.int _
      rw [List.getD_eq_getElem?_getD, List.getElem?_eq_getElem hk]
      rfl
  · refine ite_f (decide_eq_false hk) ⟨_, rfl, ?_⟩
    show PyData.int _ = PyData.int _
    rw [List.getD_eq_getElem?_getD, List.getElem?_eq_none (by omega)]
    rfl
abbrev Pre_law_pen : List PyData → Prop := fun ds => ∃ c : Int, ds = [.int c]
abbrev N_law_pen : List Str := ["_law_cell"]
theorem sc_law_pen : FnScope N_law_pen ["_law_cell"] (defScope s_law_pen) := ⟨rfl, rfl, rfl, by decide +kernel, rfl, by decide +kernel, by decide +kernel⟩
theorem c_law_pen (T : Txt mg) (h : Has K mg "_law_pen" s_law_pen f fd) : CalS P w K mg base 1 "_law_pen" ["_law_cell"] (spN Pre_law_pen) := by
  refine CalS.mk' h (h.1.ok sc_law_pen (fun vs H Q E hh => ?_) (fun cdv A outer s H vs Q E hr hh => ?_)) (fun _ _ _ _ _ _ us hl => match us, hl with | [_], _ => rfl)
  · obtain ⟨hot, ds, _, rp, ⟨c, rfl⟩, _⟩ := hh
    rw [rp.length]
    rfl
  · obtain ⟨hot, ds, al, rp, ⟨c, rfl⟩, k⟩ := hh
    refine ⟨_, PSs.nox (X := cxOf CX0 P w K mg base N_law_pen "_law_pen" (defScope s_law_pen) f cdv A outer s H E) (pss_one (ps_ret (pe_lst
      (da_cons (de_callB (call_max2 rfl) vc_max rfl T.max (by decide +kernel) (da_cons de_int (da_cons (de_op op_sub vop_I (de_var 0) (de_op op_pow vop_IC de_int de_int)) da_nil)))
      (da_cons (de_op op_add vop_I (de_op op_mod vop_IC (de_var 0) de_int) de_int) (da_cons de_int da_nil)))))), ?_⟩
    refine ⟨hot, _, [.int _, .int _, .int _], al, rs_start rp, ⟨_, _, ⟨_, ⟨_, _, rfl, ⟨_, _, ⟨_, _, rfl, ⟨_, _, rfl, rfl, _, _, rfl, rfl, ⟨by decide, by decide, by decide⟩, rfl⟩, _, _, rfl, rfl, rfl⟩, rfl, rfl⟩, rfl⟩, _, _, rfl, rfl⟩, ⟨_, _, ⟨_, _, ⟨_, _, rfl, rfl, _, _, rfl, rfl, (show (0 : Int) < 2147483629 by decide), rfl⟩, rfl, _, _, rfl, rfl, rfl⟩, ⟨_, _, rfl, rfl, rfl⟩, rfl⟩, rfl⟩, fun vs H1 s1 r1 => ?_⟩
    have e := RpAll.ints (ns := [_, _, _]) r1
    subst e
    exact ⟨by show 3 ≤ sizeLine; decide, fun p hp => k p _ _ _ H1 s1 hp⟩
abbrev R_law (K : PySem.W.Frag) : List PyData → PyData → Prop := fun ds d => ∃ (x : PyData) (ns : List Int), Scr K x ns ∧ ds = [x] ∧ d = .bool true
abbrev N_law : List Str := ["_law_script", "_law_k", "_law_pen_here", "_law_lap", "_law_many", "_law_one", "_law_other", "_law_deal_here"]
theorem sc_law : FnScope N_law ["_law_script"] (defScope s_law) := ⟨rfl, rfl, rfl, by decide +kernel, rfl, by decide +kernel, by decide +kernel⟩
theorem c_law (T : Txt mg) (C_law_cell_at : Cal P w K mg base 1 "_law_cell_at" ["_law_script", "_law_k"] (R_law_cell_at K)) (C_law_pen : CalS P w K mg base 1 "_law_pen" ["_law_cell"] (spN Pre_law_pen)) (C_law_seats : CalP P w K mg base 2 "_law_seats" ["_law_pen_here"] Pre_law_seats Post_law_seats)
    (C_law_two : CalP P w K mg base 6 "_law_two" ["_law_pen_here", "_law_many"] Pre_N Post_law_two) (C_law_deal : CalP P w K mg base 2 "_law_deal" ["_law_pen_here", "_law_many"] Pre_N Post_law_deal) (C_law_laid : CalS P w K mg base 2 "_law_laid" ["_law_one", "_law_other"] (spQ Pre_law_laid Post_law_laid))
    (C_law_clear_right : CalP P w K mg base 22 "_law_clear_right" ["_law_pen_here", "_law_deal_here"] Pre_deal Post_true) (C_law_joined_right : CalP P w K mg base 22 "_law_joined_right" ["_law_pen_here", "_law_deal_here"] Pre_deal Post_true)
    (C_cleared : Cal P w K mg base 21 "cleared" ["deal"] R_cleared) (C_over : Cal P w K mg base 21 "over" ["one", "other"] R_over) (h : Has K mg "law" s_law f fd) : FnOk P w K mg base CX0 23 f fd ["_law_script"] (spR (R_law K)) := by
  refine fn_Oc h.1 sc_law (fun ds d ⟨x, ns, _, e, _⟩ => by rw [e]; rfl) (by decide) (fun cdv A outer s H E hr => ⟨_, (oss_cons (os_for PassesOwn.never (oi_range1 rfl T.range (de_callB (call_max2 rfl) vc_max rfl T.max (by decide +kernel) (da_cons de_int (da_cons (de_callB (call_min2 rfl) vc_min rfl T.min (by decide +kernel) (da_cons (de_callB call_len_seq vc_lenQ rfl T.len (by decide +kernel) (da_cons (de_var 0) da_nil)) (da_cons de_int da_nil))) da_nil)))) (og_name (i := 1) sc_law.nd rfl (Or.inl rfl)) (oss_cons (os_penNew (i := 2) sc_law.nd rfl (Or.inl rfl) C_law_pen hr (by decide) rfl (da_cons (de_cal C_law_cell_at hr (by decide) rfl (da_cons (de_var 0) (da_cons (de_var 1) da_nil))) da_nil))
      (oss_one (os_for PassesOwn.never (oi_range1 rfl T.range de_int) (og_name (i := 3) sc_law.nd rfl (Or.inl rfl)) (oss_cons (os_set (i := 4) sc_law.nd rfl (Or.inl rfl) (oe_pen (i := 2) C_law_seats hr (by decide) rfl oa_nil))
      (oss_cons (os_asg (oe_pen (i := 2) C_law_two hr (by decide) rfl (oa_cons (oe_pure (de_var 4)) oa_nil)) (og_two (i := 5) (j := 6) rfl sc_law.nd rfl rfl (Or.inl rfl) (Or.inl rfl)))
      (oss_cons (os_for PassesOwn.never (oi_list (oe_lst (oa_cons (oe_pen (i := 2) C_law_deal hr (by decide) rfl (oa_cons (oe_pure (de_var 4)) oa_nil)) (oa_cons (oe_pure (de_var 5)) (oa_cons (oe_dem C_law_laid hr (by decide) rfl (oa_cons (oe_pure (de_var 5)) (oa_cons (oe_pure (de_var 6)) oa_nil))) oa_nil))))) (og_name (i := 7) sc_law.nd rfl (Or.inl rfl)) (oss_one (os_if (OW.ot (ow_or (ot_not (ot_val (oe_pen (i := 2) C_law_clear_right hr (by decide) rfl (oa_cons (oe_pure (de_var 7)) oa_nil)))) (ow_or1 (ot_not (ot_val (oe_pen (i := 2) C_law_joined_right hr (by decide) rfl (oa_cons (oe_pure (de_var 7)) oa_nil))))))) (oss_one (os_ret (oe_pure de_bl))) oss_nil)))
      (oss_one (os_if (ot_cmp (op_neD hr.units) vop_ne (oe_cal C_cleared hr (by decide) rfl (oa_cons (oe_dem C_law_laid hr (by decide) rfl (oa_cons (oe_pure (de_var 5)) (oa_cons (oe_pure (de_var 6)) oa_nil))) oa_nil)) (oe_pure (de_cal C_over hr (by decide) rfl (da_cons (de_var 5) (da_cons (de_var 6) da_nil)))) (nomark _)) (oss_one (os_ret (oe_pure de_bl))) oss_nil)))))))))
      (oss_one (os_ret (oe_pure de_bl)))), fun ds d ⟨x, ns, hx, e1, e2⟩ => ?_⟩)
  subst e1 e2
  -- the rounds
  obtain ⟨m, hm, hm2⟩ : ∃ m : Nat, (m : Int) = (if (if (3 : Int) < (ns.length : Int) then 3 else (ns.length : Int)) > 1 then (if (3 : Int) < (ns.length : Int) then 3 else (ns.length : Int)) else 1) ∧ m ≤ 3 := by
    generalize ns.length = k
    refine ⟨max 1 (min k 3), ?_, by omega⟩
    split <;> split <;> omega
  refine ⟨m, ⟨_, ⟨_, _, rfl, ⟨_, _, ⟨_, ⟨_, _, ⟨_, ⟨_, _, rfl, rfl, rfl⟩, x, ns, rfl, hx, rfl⟩, ⟨_, _, rfl, rfl, rfl⟩, rfl⟩, _, _, rfl, rfl⟩, rfl, rfl⟩, rfl⟩, _, _, rfl, by rw [hm]⟩, by omega, fun i ρ ω => ∃ o1 e2 o3 o4 o5 o6 o7, ρ = [some x, o1, none, o3, o4, o5, o6, o7] ∧ ω = [.no, .no, e2, .no, .no, .no, .no, .no], ⟨none, .no, none, none, none, none, none, rfl, rfl⟩, ?_, ?_⟩
  · rintro i d ρ ω hd ⟨o1, e2, o3, o4, o5, o6, o7, rfl, rfl⟩
    obtain ⟨rfl, hi⟩ := rngD_at hd
    refine ⟨by show 2 < 8; omega, _, ⟨_, _, ⟨_, ⟨_, _, rfl, ⟨_, _, rfl, rfl, rfl⟩, rfl⟩, x, ns, i, hx, rfl, rfl⟩, rfl, rfl⟩, ⟨_, rfl⟩, ?_⟩
    refine ⟨6, rfl, by omega, fun j ρ ω => ∃ o3 o4 o5 o6 o7, ρ = [some x, some (eN i), none, o3, o4, o5, o6, o7] ∧ ω = [.no, .no, .pen, .no, .no, .no, .no, .no], ⟨o3, o4, o5, o6, o7, rfl, rfl⟩, ?_, ?_⟩
    · rintro j d ρ ω hd ⟨o3, o4, o5, o6, o7, rfl, rfl⟩
      refine ⟨rfl, rfl, rfl, fun d ⟨n, n1, n8, e⟩ => ?_⟩
      subst e
      refine ⟨rfl, _, rfl, rfl, ⟨n, n1, n8, rfl⟩, fun d ⟨n2, A2, B2, e, hA, cA, hB, cB, e2⟩ => ?_⟩
      subst e2
      have en := int_nat e
      subst en
      refine ⟨_, _, rfl, ?_⟩
      refine ⟨rfl, _, rfl, rfl, ⟨n, n1, n8, rfl⟩, fun d ⟨n3, D2, e, hD, e3⟩ => ?_⟩
      subst e3
      have en := int_nat e
      subst en
      refine ⟨_, rfl, _, rfl, _, rfl, ⟨n, A2, B2, hA, hB, rfl⟩, fun d ⟨n4, A3, B3, E3, hA3, hB3, e4, hL, e5⟩ => ?_⟩
      subst e5
      have hE : IsDeal n E3 := by
        have e6 := eDeal_inj (List.cons.inj e4).1
        subst e6
        rw [hA.uniq hA3]
        exact hL.deal
      refine ⟨by show 3 ≤ sizeLine; decide, [D2, A2, E3].map eDeal, rfl, fun q ρ ω => ∃ o7, ρ = [some x, some (eN i), none, some d, some (eN n), some (eDeal A2), some (eDeal B2), o7] ∧ ω = [.no, .no, .pen, .no, .no, .no, .no, .no], ⟨o7, rfl, rfl⟩, ?_, ?_⟩
      · rintro q d' ρ ω hd' ⟨o7, rfl, rfl⟩
        obtain ⟨Q, hQ, rfl⟩ := map_at hd'
        have hQm := take_at hQ
        have hQd : IsDeal n Q := by
          simp at hQm
          rcases hQm with e | e | e
          · subst e; exact hD
          · subst e; exact hA
          · subst e; exact hE
        refine ⟨rfl, _, rfl, rfl, ⟨n, Q, hQd, rfl⟩, fun d e => ⟨true, e, ?_⟩⟩
        refine ite_f rfl ⟨rfl, _, rfl, rfl, ⟨n, Q, hQd, rfl⟩, fun d e => ⟨true, e, ?_⟩⟩
        exact ite_f rfl ⟨_, rfl, rfl⟩
      · rintro ρ ω ⟨o7, rfl, rfl⟩
        refine ⟨_, rfl, _, rfl, ⟨n, A2, B2, hA, hB, rfl⟩, fun d ⟨n5, A4, B4, E4, hA4, hB4, e7, hL4, e8⟩ => ?_⟩
        subst e8
        have e9 := eDeal_inj (List.cons.inj e7).1
        have e10 := eDeal_inj (List.cons.inj (List.cons.inj e7).2).1
        subst e9 e10
        have en := hA.uniq hA4
        subst en
        refine ⟨_, ⟨n, E4, hL4.deal, rfl, rfl⟩, _, ⟨_, ⟨_, _, rfl, ⟨_, _, rfl, rfl, rfl⟩, rfl⟩, n, A2, B2, hA, hB, cA, cB, rfl, rfl⟩, false, ?_, ite_f rfl ⟨_, _, _, _, _, rfl, rfl⟩⟩
        rw [laid_over hA hB hL4]
        have q := ne_deal (clearedBy (overL A2 B2)) (clearedBy (overL A2 B2))
        rw [decide_eq_true rfl] at q
        exact q
    · rintro ρ ω ⟨o3, o4, o5, o6, o7, rfl, rfl⟩
      exact ⟨_, _, _, _, _, _, _, rfl, rfl⟩
  · rintro ρ ω ⟨o1, e2, o3, o4, o5, o6, o7, rfl, rfl⟩
    exact ⟨_, rfl, rfl⟩
end
end Rng
namespace Rng
open PySem PySem.Spec PyProof.Rows L2
def mkD (x : Str) (st : Stmt) : He.DefD := ⟨(x, none), x, x, defArgs st, defBody st, defScope st, [], []⟩
def fnL : List He.DefD := [mkD "is_whole" s_is_whole, mkD "is_among" s_is_among, mkD "is_lot" s_is_lot, mkD "is_deal" s_is_deal, mkD "need_deal" s_need_deal, mkD "size" s_size, mkD "lot_with" s_lot_with, mkD "lot_of" s_lot_of, mkD "is_four" s_is_four, mkD "fours" s_fours, mkD "crossing_by" s_crossing_by, mkD "crossing" s_crossing, mkD "do_cross" s_do_cross, mkD "is_clear" s_is_clear, mkD "shows_four" s_shows_four, mkD "shows_crossing" s_shows_crossing, mkD "is_parting" s_is_parting, mkD "need_parting" s_need_parting, mkD "in_order" s_in_order, mkD "need_two" s_need_two, mkD "parts_two" s_parts_two, mkD "finer_by" s_finer_by, mkD "finer" s_finer, mkD "must_join" s_must_join, mkD "put_together" s_put_together, mkD "cleared_by" s_cleared_by, mkD "over" s_over, mkD "cleared" s_cleared, mkD "_law_cell_at" s_law_cell_at, mkD "_law_pen" s_law_pen, mkD "_law_draw" s_law_draw, mkD "_law_pick" s_law_pick, mkD "_law_mixed" s_law_mixed, mkD "_law_seats" s_law_seats, mkD "_law_parting" s_law_parting, mkD "_law_deal" s_law_deal, mkD "_law_fours" s_law_fours, mkD "_law_is_clear" s_law_is_clear, mkD "_law_in_order" s_law_in_order, mkD "_law_put" s_law_put, mkD "_law_joins" s_law_joins, mkD "_law_drawn_row" s_law_drawn_row, mkD "_law_coarser" s_law_coarser, mkD "_law_two" s_law_two, mkD "_law_has_all" s_law_has_all, mkD "_law_clear_right" s_law_clear_right, mkD "_law_laid" s_law_laid, mkD "_law_joined_right" s_law_joined_right, mkD "law" s_law]
def faL0 : List He.Fa := [.glo "is_whole", .glo "is_among", .glo "is_lot", .glo "is_deal", .glo "need_deal", .glo "size", .glo "lot_with", .glo "lot_of", .glo "is_four", .glo "fours", .glo "crossing_by", .glo "crossing", .glo "do_cross", .glo "is_clear", .glo "shows_four", .glo "shows_crossing", .glo "is_parting", .glo "need_parting", .glo "in_order", .glo "need_two", .glo "parts_two", .glo "finer_by", .glo "finer", .glo "must_join", .glo "put_together", .glo "cleared_by", .glo "over", .glo "cleared", .glo "_law_cell_at", .glo "_law_pen", .glo "_law_draw", .glo "_law_pick", .glo "_law_mixed", .glo "_law_seats", .glo "_law_parting", .glo "_law_deal", .glo "_law_fours", .glo "_law_is_clear", .glo "_law_in_order", .glo "_law_put"]
def faL1 : List He.Fa := [.glo "_law_joins", .glo "_law_drawn_row", .glo "_law_coarser", .glo "_law_two", .glo "_law_has_all", .glo "_law_clear_right", .glo "_law_laid", .glo "_law_joined_right", .glo "law", .int "MOST_SEATS" 8, .str "CLEAR" "clear", .str "CROSS" "cross", .str "FINER" "finer", .str "APART" "apart", .free "isinstance", .free "int", .free "bool", .free "tuple", .free "len", .free "all", .free "any", .free "list", .free "sorted", .free "set", .free "sum", .free "range", .free "enumerate", .free "zip", .free "max", .free "min"]
def faL : List He.Fa := faL0 ++ faL1
def nms0_0 : List PySem.Str := ["is_whole", "is_among", "is_lot", "is_deal", "need_deal", "size", "lot_with", "lot_of", "is_four", "fours", "crossing_by", "crossing", "do_cross", "is_clear", "shows_four"]
def nms0_1 : List PySem.Str := ["shows_crossing", "is_parting", "need_parting", "in_order", "need_two", "parts_two", "finer_by", "finer", "must_join", "put_together", "cleared_by", "over", "cleared", "_law_cell_at", "_law_pen"]
def nms0_2 : List PySem.Str := ["_law_draw", "_law_pick", "_law_mixed", "_law_seats", "_law_parting", "_law_deal", "_law_fours", "_law_is_clear", "_law_in_order", "_law_put"]
def nms1_0 : List PySem.Str := ["_law_joins", "_law_drawn_row", "_law_coarser", "_law_two", "_law_has_all", "_law_clear_right", "_law_laid", "_law_joined_right", "RingError", "NoDeal", "NoSeat", "NoParting", "NotAlike", "MOST_SEATS", "CLEAR"]
def nms1_1 : List PySem.Str := ["CROSS", "FINER", "APART"]
def nms : List PySem.Str := nms0_0 ++ nms0_1 ++ nms0_2 ++ nms1_0 ++ nms1_1
abbrev RwR : PySem.W.OpenRow := PySem.W.OpenLaw.row PySem.Challenge.rw_ringlots_k84_whole_deals_cleared
abbrev hk : PySem.W.Hook := He.hookD 4 faL fnL
def ob (s : PySem.W.SharedT) : He.AlD := He.obsDG 4 faL fnL (HandSHeadRun.getT s)
theorem ob_eq (s : PySem.W.SharedT) : ob s = hk.obs s.abs := He.obsDG_eq (HandSHeadRun.getT_eq s)
theorem run (w : World) : HandSHeadRun.RunEq RwR (PySem.W.view RwR.prog [62]) hk ob 3000 nms w := by
  intro os
  kernel_rfl
end Rng
namespace Rng
open PySem PySem.Spec PyProof.Rows L2
theorem facts {P : Program} {w : World} {K : PySem.W.Frag} {h : Heap} {mg : Str → Option Value} {f : Addr} (X : K.In h) (G : h.Ns mainGlobals mg) (hfa : mg ("law" : Str) = some (.ref f)) (c : He.SaysD faL fnL K) :
    ∃ fd : FuncData, (∀ (s : Shared) (v : Value), BindsTo s fd ⟨[v], []⟩ [("_law_script", v)]) ∧ ∀ base : Heap, FnOk P w K mg base CX0 23 f fd ["_law_script"] (spR (R_law K)) := by
  have T : Txt mg := ⟨He.free_ok X G (c.fact 54 (f := .free "isinstance") rfl),
    He.free_ok X G (c.fact 55 (f := .free "int") rfl),
    He.free_ok X G (c.fact 56 (f := .free "bool") rfl),
    He.free_ok X G (c.fact 57 (f := .free "tuple") rfl),
    He.free_ok X G (c.fact 58 (f := .free "len") rfl),
    He.free_ok X G (c.fact 59 (f := .free "all") rfl),
    He.free_ok X G (c.fact 60 (f := .free "any") rfl),
    He.free_ok X G (c.fact 61 (f := .free "list") rfl),
    He.free_ok X G (c.fact 62 (f := .free "sorted") rfl),
    He.free_ok X G (c.fact 63 (f := .free "set") rfl),
    He.free_ok X G (c.fact 64 (f := .free "sum") rfl),
    He.free_ok X G (c.fact 65 (f := .free "range") rfl),
    He.free_ok X G (c.fact 66 (f := .free "enumerate") rfl),
    He.free_ok X G (c.fact 67 (f := .free "zip") rfl),
    He.free_ok X G (c.fact 68 (f := .free "max") rfl),
    He.free_ok X G (c.fact 69 (f := .free "min") rfl),
    He.int_ok X G (c.fact 49 (f := .int "MOST_SEATS" 8) rfl),
    He.str_ok X G (c.fact 50 (f := .str "CLEAR" "clear") rfl),
    He.str_ok X G (c.fact 51 (f := .str "CROSS" "cross") rfl),
    He.str_ok X G (c.fact 52 (f := .str "FINER" "finer") rfl),
    He.str_ok X G (c.fact 53 (f := .str "APART" "apart") rfl)⟩
  obtain ⟨d_is_whole, F_is_whole⟩ := c.def_ 0 (d := mkD "is_whole" s_is_whole) rfl
  have H_is_whole : Has K mg "is_whole" s_is_whole _ d_is_whole := ⟨F_is_whole, He.glo_ok X G (c.fact 0 (f := .glo "is_whole") rfl)⟩
  obtain ⟨d_is_among, F_is_among⟩ := c.def_ 1 (d := mkD "is_among" s_is_among) rfl
  have H_is_among : Has K mg "is_among" s_is_among _ d_is_among := ⟨F_is_among, He.glo_ok X G (c.fact 1 (f := .glo "is_among") rfl)⟩
  obtain ⟨d_is_lot, F_is_lot⟩ := c.def_ 2 (d := mkD "is_lot" s_is_lot) rfl
  have H_is_lot : Has K mg "is_lot" s_is_lot _ d_is_lot := ⟨F_is_lot, He.glo_ok X G (c.fact 2 (f := .glo "is_lot") rfl)⟩
  obtain ⟨d_is_deal, F_is_deal⟩ := c.def_ 3 (d := mkD "is_deal" s_is_deal) rfl
  have H_is_deal : Has K mg "is_deal" s_is_deal _ d_is_deal := ⟨F_is_deal, He.glo_ok X G (c.fact 3 (f := .glo "is_deal") rfl)⟩
  obtain ⟨d_need_deal, F_need_deal⟩ := c.def_ 4 (d := mkD "need_deal" s_need_deal) rfl
  have H_need_deal : Has K mg "need_deal" s_need_deal _ d_need_deal := ⟨F_need_deal, He.glo_ok X G (c.fact 4 (f := .glo "need_deal") rfl)⟩
  obtain ⟨d_size, F_size⟩ := c.def_ 5 (d := mkD "size" s_size) rfl
  have H_size : Has K mg "size" s_size _ d_size := ⟨F_size, He.glo_ok X G (c.fact 5 (f := .glo "size") rfl)⟩
  obtain ⟨d_lot_with, F_lot_with⟩ := c.def_ 6 (d := mkD "lot_with" s_lot_with) rfl
  have H_lot_with : Has K mg "lot_with" s_lot_with _ d_lot_with := ⟨F_lot_with, He.glo_ok X G (c.fact 6 (f := .glo "lot_with") rfl)⟩
  obtain ⟨d_lot_of, F_lot_of⟩ := c.def_ 7 (d := mkD "lot_of" s_lot_of) rfl
  have H_lot_of : Has K mg "lot_of" s_lot_of _ d_lot_of := ⟨F_lot_of, He.glo_ok X G (c.fact 7 (f := .glo "lot_of") rfl)⟩
  obtain ⟨d_is_four, F_is_four⟩ := c.def_ 8 (d := mkD "is_four" s_is_four) rfl
  have H_is_four : Has K mg "is_four" s_is_four _ d_is_four := ⟨F_is_four, He.glo_ok X G (c.fact 8 (f := .glo "is_four") rfl)⟩
  obtain ⟨d_fours, F_fours⟩ := c.def_ 9 (d := mkD "fours" s_fours) rfl
  have H_fours : Has K mg "fours" s_fours _ d_fours := ⟨F_fours, He.glo_ok X G (c.fact 9 (f := .glo "fours") rfl)⟩
  obtain ⟨d_crossing_by, F_crossing_by⟩ := c.def_ 10 (d := mkD "crossing_by" s_crossing_by) rfl
  have H_crossing_by : Has K mg "crossing_by" s_crossing_by _ d_crossing_by := ⟨F_crossing_by, He.glo_ok X G (c.fact 10 (f := .glo "crossing_by") rfl)⟩
  obtain ⟨d_crossing, F_crossing⟩ := c.def_ 11 (d := mkD "crossing" s_crossing) rfl
  have H_crossing : Has K mg "crossing" s_crossing _ d_crossing := ⟨F_crossing, He.glo_ok X G (c.fact 11 (f := .glo "crossing") rfl)⟩
  obtain ⟨d_do_cross, F_do_cross⟩ := c.def_ 12 (d := mkD "do_cross" s_do_cross) rfl
  have H_do_cross : Has K mg "do_cross" s_do_cross _ d_do_cross := ⟨F_do_cross, He.glo_ok X G (c.fact 12 (f := .glo "do_cross") rfl)⟩
  obtain ⟨d_is_clear, F_is_clear⟩ := c.def_ 13 (d := mkD "is_clear" s_is_clear) rfl
  have H_is_clear : Has K mg "is_clear" s_is_clear _ d_is_clear := ⟨F_is_clear, He.glo_ok X G (c.fact 13 (f := .glo "is_clear") rfl)⟩
  obtain ⟨d_shows_four, F_shows_four⟩ := c.def_ 14 (d := mkD "shows_four" s_shows_four) rfl
  have H_shows_four : Has K mg "shows_four" s_shows_four _ d_shows_four := ⟨F_shows_four, He.glo_ok X G (c.fact 14 (f := .glo "shows_four") rfl)⟩
  obtain ⟨d_shows_crossing, F_shows_crossing⟩ := c.def_ 15 (d := mkD "shows_crossing" s_shows_crossing) rfl
  have H_shows_crossing : Has K mg "shows_crossing" s_shows_crossing _ d_shows_crossing := ⟨F_shows_crossing, He.glo_ok X G (c.fact 15 (f := .glo "shows_crossing") rfl)⟩
  obtain ⟨d_is_parting, F_is_parting⟩ := c.def_ 16 (d := mkD "is_parting" s_is_parting) rfl
  have H_is_parting : Has K mg "is_parting" s_is_parting _ d_is_parting := ⟨F_is_parting, He.glo_ok X G (c.fact 16 (f := .glo "is_parting") rfl)⟩
  obtain ⟨d_need_parting, F_need_parting⟩ := c.def_ 17 (d := mkD "need_parting" s_need_parting) rfl
  have H_need_parting : Has K mg "need_parting" s_need_parting _ d_need_parting := ⟨F_need_parting, He.glo_ok X G (c.fact 17 (f := .glo "need_parting") rfl)⟩
  obtain ⟨d_in_order, F_in_order⟩ := c.def_ 18 (d := mkD "in_order" s_in_order) rfl
  have H_in_order : Has K mg "in_order" s_in_order _ d_in_order := ⟨F_in_order, He.glo_ok X G (c.fact 18 (f := .glo "in_order") rfl)⟩
  obtain ⟨d_need_two, F_need_two⟩ := c.def_ 19 (d := mkD "need_two" s_need_two) rfl
  have H_need_two : Has K mg "need_two" s_need_two _ d_need_two := ⟨F_need_two, He.glo_ok X G (c.fact 19 (f := .glo "need_two") rfl)⟩
  obtain ⟨d_parts_two, F_parts_two⟩ := c.def_ 20 (d := mkD "parts_two" s_parts_two) rfl
  have H_parts_two : Has K mg "parts_two" s_parts_two _ d_parts_two := ⟨F_parts_two, He.glo_ok X G (c.fact 20 (f := .glo "parts_two") rfl)⟩
  obtain ⟨d_finer_by, F_finer_by⟩ := c.def_ 21 (d := mkD "finer_by" s_finer_by) rfl
  have H_finer_by : Has K mg "finer_by" s_finer_by _ d_finer_by := ⟨F_finer_by, He.glo_ok X G (c.fact 21 (f := .glo "finer_by") rfl)⟩
  obtain ⟨d_finer, F_finer⟩ := c.def_ 22 (d := mkD "finer" s_finer) rfl
  have H_finer : Has K mg "finer" s_finer _ d_finer := ⟨F_finer, He.glo_ok X G (c.fact 22 (f := .glo "finer") rfl)⟩
  obtain ⟨d_must_join, F_must_join⟩ := c.def_ 23 (d := mkD "must_join" s_must_join) rfl
  have H_must_join : Has K mg "must_join" s_must_join _ d_must_join := ⟨F_must_join, He.glo_ok X G (c.fact 23 (f := .glo "must_join") rfl)⟩
  obtain ⟨d_put_together, F_put_together⟩ := c.def_ 24 (d := mkD "put_together" s_put_together) rfl
  have H_put_together : Has K mg "put_together" s_put_together _ d_put_together := ⟨F_put_together, He.glo_ok X G (c.fact 24 (f := .glo "put_together") rfl)⟩
  obtain ⟨d_cleared_by, F_cleared_by⟩ := c.def_ 25 (d := mkD "cleared_by" s_cleared_by) rfl
  have H_cleared_by : Has K mg "cleared_by" s_cleared_by _ d_cleared_by := ⟨F_cleared_by, He.glo_ok X G (c.fact 25 (f := .glo "cleared_by") rfl)⟩
  obtain ⟨d_over, F_over⟩ := c.def_ 26 (d := mkD "over" s_over) rfl
  have H_over : Has K mg "over" s_over _ d_over := ⟨F_over, He.glo_ok X G (c.fact 26 (f := .glo "over") rfl)⟩
  obtain ⟨d_cleared, F_cleared⟩ := c.def_ 27 (d := mkD "cleared" s_cleared) rfl
  have H_cleared : Has K mg "cleared" s_cleared _ d_cleared := ⟨F_cleared, He.glo_ok X G (c.fact 27 (f := .glo "cleared") rfl)⟩
  obtain ⟨d_law_cell_at, F_law_cell_at⟩ := c.def_ 28 (d := mkD "_law_cell_at" s_law_cell_at) rfl
  have H_law_cell_at : Has K mg "_law_cell_at" s_law_cell_at _ d_law_cell_at := ⟨F_law_cell_at, He.glo_ok X G (c.fact 28 (f := .glo "_law_cell_at") rfl)⟩
  obtain ⟨d_law_pen, F_law_pen⟩ := c.def_ 29 (d := mkD "_law_pen" s_law_pen) rfl
  have H_law_pen : Has K mg "_law_pen" s_law_pen _ d_law_pen := ⟨F_law_pen, He.glo_ok X G (c.fact 29 (f := .glo "_law_pen") rfl)⟩
  obtain ⟨d_law_draw, F_law_draw⟩ := c.def_ 30 (d := mkD "_law_draw" s_law_draw) rfl
  have H_law_draw : Has K mg "_law_draw" s_law_draw _ d_law_draw := ⟨F_law_draw, He.glo_ok X G (c.fact 30 (f := .glo "_law_draw") rfl)⟩
  obtain ⟨d_law_pick, F_law_pick⟩ := c.def_ 31 (d := mkD "_law_pick" s_law_pick) rfl
  have H_law_pick : Has K mg "_law_pick" s_law_pick _ d_law_pick := ⟨F_law_pick, He.glo_ok X G (c.fact 31 (f := .glo "_law_pick") rfl)⟩
  obtain ⟨d_law_mixed, F_law_mixed⟩ := c.def_ 32 (d := mkD "_law_mixed" s_law_mixed) rfl
  have H_law_mixed : Has K mg "_law_mixed" s_law_mixed _ d_law_mixed := ⟨F_law_mixed, He.glo_ok X G (c.fact 32 (f := .glo "_law_mixed") rfl)⟩
  obtain ⟨d_law_seats, F_law_seats⟩ := c.def_ 33 (d := mkD "_law_seats" s_law_seats) rfl
  have H_law_seats : Has K mg "_law_seats" s_law_seats _ d_law_seats := ⟨F_law_seats, He.glo_ok X G (c.fact 33 (f := .glo "_law_seats") rfl)⟩
  obtain ⟨d_law_parting, F_law_parting⟩ := c.def_ 34 (d := mkD "_law_parting" s_law_parting) rfl
  have H_law_parting : Has K mg "_law_parting" s_law_parting _ d_law_parting := ⟨F_law_parting, He.glo_ok X G (c.fact 34 (f := .glo "_law_parting") rfl)⟩
  obtain ⟨d_law_deal, F_law_deal⟩ := c.def_ 35 (d := mkD "_law_deal" s_law_deal) rfl
  have H_law_deal : Has K mg "_law_deal" s_law_deal _ d_law_deal := ⟨F_law_deal, He.glo_ok X G (c.fact 35 (f := .glo "_law_deal") rfl)⟩
  obtain ⟨d_law_fours, F_law_fours⟩ := c.def_ 36 (d := mkD "_law_fours" s_law_fours) rfl
  have H_law_fours : Has K mg "_law_fours" s_law_fours _ d_law_fours := ⟨F_law_fours, He.glo_ok X G (c.fact 36 (f := .glo "_law_fours") rfl)⟩
  obtain ⟨d_law_is_clear, F_law_is_clear⟩ := c.def_ 37 (d := mkD "_law_is_clear" s_law_is_clear) rfl
  have H_law_is_clear : Has K mg "_law_is_clear" s_law_is_clear _ d_law_is_clear := ⟨F_law_is_clear, He.glo_ok X G (c.fact 37 (f := .glo "_law_is_clear") rfl)⟩
  obtain ⟨d_law_in_order, F_law_in_order⟩ := c.def_ 38 (d := mkD "_law_in_order" s_law_in_order) rfl
  have H_law_in_order : Has K mg "_law_in_order" s_law_in_order _ d_law_in_order := ⟨F_law_in_order, He.glo_ok X G (c.fact 38 (f := .glo "_law_in_order") rfl)⟩
  obtain ⟨d_law_put, F_law_put⟩ := c.def_ 39 (d := mkD "_law_put" s_law_put) rfl
  have H_law_put : Has K mg "_law_put" s_law_put _ d_law_put := ⟨F_law_put, He.glo_ok X G (c.fact 39 (f := .glo "_law_put") rfl)⟩
  obtain ⟨d_law_joins, F_law_joins⟩ := c.def_ 40 (d := mkD "_law_joins" s_law_joins) rfl
  have H_law_joins : Has K mg "_law_joins" s_law_joins _ d_law_joins := ⟨F_law_joins, He.glo_ok X G (c.fact 40 (f := .glo "_law_joins") rfl)⟩
  obtain ⟨d_law_drawn_row, F_law_drawn_row⟩ := c.def_ 41 (d := mkD "_law_drawn_row" s_law_drawn_row) rfl
  have H_law_drawn_row : Has K mg "_law_drawn_row" s_law_drawn_row _ d_law_drawn_row := ⟨F_law_drawn_row, He.glo_ok X G (c.fact 41 (f := .glo "_law_drawn_row") rfl)⟩
  obtain ⟨d_law_coarser, F_law_coarser⟩ := c.def_ 42 (d := mkD "_law_coarser" s_law_coarser) rfl
  have H_law_coarser : Has K mg "_law_coarser" s_law_coarser _ d_law_coarser := ⟨F_law_coarser, He.glo_ok X G (c.fact 42 (f := .glo "_law_coarser") rfl)⟩
  obtain ⟨d_law_two, F_law_two⟩ := c.def_ 43 (d := mkD "_law_two" s_law_two) rfl
  have H_law_two : Has K mg "_law_two" s_law_two _ d_law_two := ⟨F_law_two, He.glo_ok X G (c.fact 43 (f := .glo "_law_two") rfl)⟩
  obtain ⟨d_law_has_all, F_law_has_all⟩ := c.def_ 44 (d := mkD "_law_has_all" s_law_has_all) rfl
  have H_law_has_all : Has K mg "_law_has_all" s_law_has_all _ d_law_has_all := ⟨F_law_has_all, He.glo_ok X G (c.fact 44 (f := .glo "_law_has_all") rfl)⟩
  obtain ⟨d_law_clear_right, F_law_clear_right⟩ := c.def_ 45 (d := mkD "_law_clear_right" s_law_clear_right) rfl
  have H_law_clear_right : Has K mg "_law_clear_right" s_law_clear_right _ d_law_clear_right := ⟨F_law_clear_right, He.glo_ok X G (c.fact 45 (f := .glo "_law_clear_right") rfl)⟩
  obtain ⟨d_law_laid, F_law_laid⟩ := c.def_ 46 (d := mkD "_law_laid" s_law_laid) rfl
  have H_law_laid : Has K mg "_law_laid" s_law_laid _ d_law_laid := ⟨F_law_laid, He.glo_ok X G (c.fact 46 (f := .glo "_law_laid") rfl)⟩
  obtain ⟨d_law_joined_right, F_law_joined_right⟩ := c.def_ 47 (d := mkD "_law_joined_right" s_law_joined_right) rfl
  have H_law_joined_right : Has K mg "_law_joined_right" s_law_joined_right _ d_law_joined_right := ⟨F_law_joined_right, He.glo_ok X G (c.fact 47 (f := .glo "_law_joined_right") rfl)⟩
  obtain ⟨d_law, F_law⟩ := c.def_ 48 (d := mkD "law" s_law) rfl
  have e := hfa.symm.trans (He.glo_ok X G (c.fact 48 (f := .glo "law") rfl))
  cases e
  have H_law : Has K mg "law" s_law _ d_law := ⟨F_law, He.glo_ok X G (c.fact 48 (f := .glo "law") rfl)⟩
  have b := FunD.bindsA (ps := ["_law_script"]) F_law fun _ _ _ _ _ _ us hl => match us, hl with | [_], _ => rfl
  refine ⟨d_law, fun s v => b s [v] rfl, fun base => ?_⟩
  have C_is_whole := c_is_whole (P := P) (w := w) (base := base) (T := T) (h := H_is_whole)
  have C_is_among := c_is_among (P := P) (w := w) (base := base) (T := T) (C_is_whole := C_is_whole) (h := H_is_among)
  have C_is_lot := c_is_lot (P := P) (w := w) (base := base) (T := T) (C_is_among := C_is_among) (h := H_is_lot)
  have C_is_deal := c_is_deal (P := P) (w := w) (base := base) (T := T) (C_is_lot := C_is_lot) (h := H_is_deal)
  have C_need_deal := c_need_deal (P := P) (w := w) (base := base) (T := T) (C_is_deal := C_is_deal) (h := H_need_deal)
  have C_size := c_size (P := P) (w := w) (base := base) (T := T) (h := H_size)
  have C_lot_with := c_lot_with (P := P) (w := w) (base := base) (T := T) (h := H_lot_with)
  have C_lot_of := c_lot_of (P := P) (w := w) (base := base) (T := T) (C_is_among := C_is_among) (C_need_deal := C_need_deal) (C_size := C_size) (C_lot_with := C_lot_with) (h := H_lot_of)
  have C_is_four := c_is_four (P := P) (w := w) (base := base) (T := T) (C_lot_with := C_lot_with) (h := H_is_four)
  have C_fours := c_fours (P := P) (w := w) (base := base) (T := T) (h := H_fours)
  have C_crossing_by := c_crossing_by (P := P) (w := w) (base := base) (T := T) (C_size := C_size) (C_fours := C_fours) (C_is_four := C_is_four) (h := H_crossing_by)
  have C_crossing := c_crossing (P := P) (w := w) (base := base) (T := T) (C_need_deal := C_need_deal) (C_crossing_by := C_crossing_by) (h := H_crossing)
  have C_do_cross := c_do_cross (P := P) (w := w) (base := base) (T := T) (h := H_do_cross)
  have C_is_clear := c_is_clear (P := P) (w := w) (base := base) (T := T) (C_do_cross := C_do_cross) (h := H_is_clear)
  have C_shows_four := c_shows_four (P := P) (w := w) (base := base) (T := T) (C_is_among := C_is_among) (C_size := C_size) (C_is_four := C_is_four) (h := H_shows_four)
  have C_shows_crossing := c_shows_crossing (P := P) (w := w) (base := base) (T := T) (C_need_deal := C_need_deal) (C_is_clear := C_is_clear) (C_shows_four := C_shows_four) (h := H_shows_crossing)
  have C_is_parting := c_is_parting (P := P) (w := w) (base := base) (T := T) (C_is_deal := C_is_deal) (C_is_clear := C_is_clear) (h := H_is_parting)
  have C_need_parting := c_need_parting (P := P) (w := w) (base := base) (T := T) (C_is_parting := C_is_parting) (h := H_need_parting)
  have C_in_order := c_in_order (P := P) (w := w) (base := base) (T := T) (h := H_in_order)
  have C_need_two := c_need_two (P := P) (w := w) (base := base) (T := T) (C_need_parting := C_need_parting) (C_size := C_size) (h := H_need_two)
  have C_parts_two := c_parts_two (P := P) (w := w) (base := base) (T := T) (C_lot_with := C_lot_with) (h := H_parts_two)
  have C_finer_by := c_finer_by (P := P) (w := w) (base := base) (T := T) (C_size := C_size) (C_parts_two := C_parts_two) (h := H_finer_by)
  have C_finer := c_finer (P := P) (w := w) (base := base) (T := T) (C_need_two := C_need_two) (C_finer_by := C_finer_by) (h := H_finer)
  have C_must_join := c_must_join (P := P) (w := w) (base := base) (T := T) (C_do_cross := C_do_cross) (h := H_must_join)
  have C_put_together : Cal P w K mg base 19 "put_together" ["lots"] (R_put 16) := c_put T C_must_join H_put_together 16 (Nat.le_refl _)
  have C_cleared_by := c_cleared_by (P := P) (w := w) (base := base) (T := T) (C_in_order := C_in_order) (C_put_together := C_put_together) (h := H_cleared_by)
  have C_over := c_over (P := P) (w := w) (base := base) (T := T) (C_need_two := C_need_two) (C_cleared_by := C_cleared_by) (h := H_over)
  have C_cleared := c_cleared (P := P) (w := w) (base := base) (T := T) (C_need_deal := C_need_deal) (C_cleared_by := C_cleared_by) (h := H_cleared)
  have C_law_cell_at := c_law_cell_at (P := P) (w := w) (base := base) (T := T) (h := H_law_cell_at)
  have C_law_pen := c_law_pen (P := P) (w := w) (base := base) (T := T) (h := H_law_pen)
  have C_law_draw := c_law_draw (P := P) (w := w) (base := base) (h := H_law_draw)
  have C_law_pick := c_law_pick (P := P) (w := w) (base := base) (T := T) (C_law_draw := C_law_draw) (h := H_law_pick)
  have C_law_mixed := c_law_mixed (P := P) (w := w) (base := base) (T := T) (C_law_draw := C_law_draw) (h := H_law_mixed)
  have C_law_seats := c_law_seats (P := P) (w := w) (base := base) (T := T) (C_law_draw := C_law_draw) (h := H_law_seats)
  have C_law_parting := c_law_parting (P := P) (w := w) (base := base) (T := T) (C_law_draw := C_law_draw) (h := H_law_parting)
  have C_law_deal := c_law_deal (P := P) (w := w) (base := base) (T := T) (C_law_draw := C_law_draw) (h := H_law_deal)
  have C_law_fours := c_law_fours (P := P) (w := w) (base := base) (T := T) (h := H_law_fours)
  have C_law_is_clear := c_law_is_clear (P := P) (w := w) (base := base) (T := T) (C_law_fours := C_law_fours) (h := H_law_is_clear)
  have C_law_in_order := c_law_in_order (P := P) (w := w) (base := base) (T := T) (h := H_law_in_order)
  have C_law_put := c_law_put (P := P) (w := w) (base := base) (T := T) (C_law_in_order := C_law_in_order) (h := H_law_put)
  have C_law_joins := c_law_joins (P := P) (w := w) (base := base) (T := T) (C_law_is_clear := C_law_is_clear) (C_law_put := C_law_put) (h := H_law_joins)
  have C_law_drawn_row := c_law_drawn_row (P := P) (w := w) (base := base) (T := T) (C_law_joins := C_law_joins) (C_law_put := C_law_put) (C_law_pick := C_law_pick) (h := H_law_drawn_row)
  have C_law_coarser := c_law_coarser (P := P) (w := w) (base := base) (T := T) (C_law_draw := C_law_draw) (C_law_drawn_row := C_law_drawn_row) (h := H_law_coarser)
  have C_law_two := c_law_two (P := P) (w := w) (base := base) (T := T) (C_law_draw := C_law_draw) (C_law_parting := C_law_parting) (C_law_coarser := C_law_coarser) (h := H_law_two)
  have C_law_has_all := c_law_has_all (P := P) (w := w) (base := base) (T := T) (C_lot_of := C_lot_of) (h := H_law_has_all)
  have C_law_clear_right := c_law_clear_right (P := P) (w := w) (base := base) (T := T) (C_cleared := C_cleared) (C_crossing := C_crossing) (C_is_parting := C_is_parting) (C_law_has_all := C_law_has_all) (C_shows_crossing := C_shows_crossing) (C_lot_of := C_lot_of) (C_finer := C_finer) (C_law_coarser := C_law_coarser) (C_law_parting := C_law_parting) (h := H_law_clear_right)
  have C_law_laid := c_law_laid (P := P) (w := w) (base := base) (T := T) (C_law_in_order := C_law_in_order) (h := H_law_laid)
  have C_law_joined_right := c_law_joined_right (P := P) (w := w) (base := base) (T := T) (C_law_mixed := C_law_mixed) (C_law_put := C_law_put) (C_cleared := C_cleared) (C_is_parting := C_is_parting) (C_lot_of := C_lot_of) (C_finer := C_finer) (h := H_law_joined_right)
  exact c_law (P := P) (w := w) (base := base) (T := T) (C_law_cell_at := C_law_cell_at) (C_law_pen := C_law_pen) (C_law_seats := C_law_seats) (C_law_two := C_law_two) (C_law_deal := C_law_deal) (C_law_laid := C_law_laid) (C_law_clear_right := C_law_clear_right) (C_law_joined_right := C_law_joined_right) (C_cleared := C_cleared) (C_over := C_over) (h := H_law)
/-- the script as the law is called with it -/
theorem law_start {K : PySem.W.Frag} {H : Hp} {a : Addr} {ns : List Int} (o : Only H) (h : SqL K H a (ns.map V.int)) : spR (R_law K) [.ref a] H (fun v _ => v = .bl true) fun _ _ _ => False := by
  have fin : ∀ x : PyData, Scr K x ns → Rp H x (.ref a) → spR (R_law K) [.ref a] H (fun v _ => v = .bl true) fun _ _ _ => False := fun x hx r =>
    ⟨noHot, [x], .bool true, Alc.no, ⟨_, [], rfl, by rw [cold_no]; exact r, rfl⟩, ⟨x, ns, hx, rfl, rfl⟩, fun v H' _ r => r⟩
  rcases h with (h | ⟨q, h⟩) | h
  · rcases o a with z | ⟨q, xs, z⟩
    · rw [z] at h; cases h
    · rw [z] at h; cases h
  · refine fin _ (scr_frz (a := a)) ⟨?_, q, ?_⟩
    · rw [Int.toNat_natCast]
    · rw [Int.toNat_natCast, h, List.map_map]
      rfl
  · refine fin _ (scr_kept (a := a) fun H' => .inr h) ?_
    show V.ref a = V.ref ((a : Int)).toNat
    rw [Int.toNat_natCast]
end Rng
open PySem PySem.W PySem.Calls PyProof.Rows
theorem PySem.Challenge.cw_ringlots_k84_whole_deals_cleared_holds : PySem.Challenge.rw_ringlots_k84_whole_deals_cleared.Holds := by
  w_on; o_law
  refine HandSHeadRun.head_any (r := OpenLaw.row PySem.Challenge.rw_ringlots_k84_whole_deals_cleared) (q := view (OpenLaw.row PySem.Challenge.rw_ringlots_k84_whole_deals_cleared).prog [62]) (H := Rng.hk) (ob := Rng.ob) (M := 3000) (loose := Rng.nms) (d := HandSHeadRun.topDef (OpenLaw.row PySem.Challenge.rw_ringlots_k84_whole_deals_cleared).prog 62) (kwd := []) Rng.ob_eq
    (by kernel_rfl) (fun s => by kernel_rfl) Rng.run (by kernel_rfl) (by kernel_rfl) (by kernel_rfl) (by rfl) (by first | assumption | decide +kernel) (by decide +kernel) ⟨rfl, rfl, rfl, rfl, rfl, by decide +kernel⟩ ?hw ?hc
  case hw => w_witness2
  case hc =>
    refine L2.walk_ofE (l := PySem.Challenge.rw_ringlots_k84_whole_deals_cleared) (n := 63) (k := 23) (x := "_law_script") (CX := L2.CX0) rfl (by decide) (by kernel_rfl) ⟨rfl, by decide, by decide⟩ ?F (fun _ _ _ _ z => z)
    intro w mg fa h Y G hmg0
    obtain ⟨K, KX, c⟩ := Y
    have hmg : mg ("law" : PySem.Str) = some (.ref fa) := by
      have e : (HandSHeadRun.topDef (OpenLaw.row PySem.Challenge.rw_ringlots_k84_whole_deals_cleared).prog 62).name = ("law" : PySem.Str) := by kernel_rfl
      rw [← e]
      exact hmg0
    obtain ⟨fd, hb, hF⟩ := Rng.facts (P := (PySem.Challenge.rw_ringlots_k84_whole_deals_cleared).prog) (w := w) KX G hmg c
    exact ⟨K, fd, Rng.spR (Rng.R_law K), KX, hb, fun H a ns hl o hS => Rng.law_start o hS, fun base _ _ => hF base⟩
