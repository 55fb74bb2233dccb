import PyProof.Rows.All
import Wide.All
import OpenK.AllK
import Wide.FinOn
import HandS.ForMost
import HandS.ForExc
import HandS.Lambda
import HandS.EndTab
import HandS.TupAny
import HandS.TupMul
import HandS.TupLe
import HandS.Codes
import HandS.IsInst
import HandS.Conv
import PyProof.Rows.ListMulArg
import HandS.Walk
import HandS.Dict
import HandS.WordsExc
import HandS.TryOnly
import HandS.ExcOwn
import HandS.ExcIs
import PyProof.Cells
import HandS.ExcInit
import HandS.ExcField
import HandS.TryMany
import KE.KExcIs
import HandS.Iter
import KE.KTupSum
import KE.GoesMore
import PyProof.EnumMake
import PySem.Challenge.RW_pulsebook_k18_bad_rules
set_option Elab.async false
set_option linter.all false
set_option maxRecDepth 100000
set_option maxHeartbeats 4000000
/-! # what stays: all that is tracked but the tables of code objects, which grow well (in the place of the kit's Ex) -/
namespace Evn
open PySem PySem.Spec PyProof.Rows L2 LamX
def nt : HO → Prop
  | .tbl _ => False
  | _ => True
def nx : HO → Prop
  | .ext _ => False
  | _ => True
class Tbs where
  T : List (Addr × Str)
variable [Tbs]
structure Ex (H H' : Hp) : Prop where
  kp : ∀ (a : Addr) (o : HO), H a = some o → (_ : nt o := by exact True.intro) → H' a = some o
  tt : ∀ (a : Addr) (ps : Array Value), H a = some (.tbl ps) → ∃ qs, H' a = some (.tbl qs)
  tb : Tabs Tbs.T H → Tabs Tbs.T H'
instance {H H' : Hp} : CoeFun (Ex H H') (fun _ => ∀ (a : Addr) (o : HO), H a = some o → (_ : nt o := by exact True.intro) → H' a = some o) := ⟨@Ex.kp _ H H'⟩
theorem Ex.refl (H : Hp) : Ex H H := ⟨fun _ _ z _ => z, fun _ ps z => ⟨ps, z⟩, fun z => z⟩
theorem Ex.trans {H G F : Hp} (x : Ex H G) (y : Ex G F) : Ex H F := ⟨fun a o z n => y.kp a o (x.kp a o z n) n, fun a ps z => by
  obtain ⟨qs, z2⟩ := x.tt a ps z
  exact y.tt a qs z2, fun z => y.tb (x.tb z)⟩
theorem Ex.of {H G : Hp} (x : ∀ b o, H b = some o → G b = some o) : Ex H G := ⟨fun a o z _ => x a o z, fun a ps z => ⟨ps, x a _ z⟩, fun z => z.ext x⟩
theorem Ex.new {G : Hp} {a : Addr} {o : HO} (z : G a = none) : Ex G (upd G a o) := Ex.of fun b w zb => by
  rw [upd_ne (ne_of_none zb z)]
  exact zb
theorem nx_ne {G : Hp} {a c : Addr} {o : HO} {φ : Heap → Prop} (z : G a = some o) (n : nx o) (zc : G c = some (.ext φ)) : c ≠ a := fun e => by
  subst e
  rw [z] at zc
  cases zc
  exact n
/-- an object that the first heap does not know, of a kind that no table tells of, may change -/
theorem Ex.mut {H G : Hp} {a : Addr} {u o : HO} (x : Ex H G) (z : H a = none) (zo : G a = some o) (n : nx o := by exact True.intro) : Ex H (upd G a u) := by
  refine ⟨fun b w zb nb => ?_, fun b ps zb => ?_, fun zt p hp => ?_⟩
  · rw [upd_ne (ne_of_none zb z)]
    exact x.kp b w zb nb
  · rw [upd_ne (ne_of_none zb z)]
    exact x.tt b ps zb
  · have hP : p.1 ≠ a := by
      obtain ⟨ps, zp, _⟩ := zt p hp
      exact ne_of_none zp z
    obtain ⟨ps, z1, z2, z3⟩ := x.tb zt p hp
    refine ⟨ps, by rw [upd_ne hP]; exact z1, z2, fun pos cv hc => ?_⟩
    obtain ⟨c, e1, e2⟩ := z3 pos cv hc
    exact ⟨c, e1, by rw [upd_ne (nx_ne zo n e2)]; exact e2⟩
theorem rd_ex {H G : Hp} {a : Addr} {u : HO} (x : Ex H G) (n : nt u) (r : Rd H a u) : Rd G a u := r.elim (fun z => .inl (x.kp a u z n)) fun ⟨o, z⟩ => .inr ⟨o, x.kp a _ z True.intro⟩
theorem ex_l {K : PySem.W.Frag} {H G : Hp} {a : Addr} {ys : List V} (x : Ex H G) (r : SqL K H a ys) : SqL K G a ys := r.imp (rd_ex x True.intro) id
theorem ex_t {K : PySem.W.Frag} {H G : Hp} {a : Addr} {ys : List V} (x : Ex H G) (r : SqT K H a ys) : SqT K G a ys := r.imp (rd_ex x True.intro) id
theorem sq_of {K : PySem.W.Frag} {G : Hp} {a : Addr} {ys : List V} (z : G a = some (.lst ys)) : SqL K G a ys := .inl (.inl z)
theorem st_of {K : PySem.W.Frag} {G : Hp} {a : Addr} {ys : List V} (z : G a = some (.tup ys)) : SqT K G a ys := .inl (.inl z)
theorem sz_of {k : Nat} (z : k ≤ 100000) : k ≤ sizeLine := Nat.le_trans z (by decide)
theorem sz_lt {k : Nat} (z : k < 100000) : k < sizeLine := Nat.lt_of_lt_of_le z (by decide)
theorem fresh_back {H G : Hp} {a : Addr} (x : Ex H G) (z : G a = none) : H a = none := by
  cases e : H a with
  | none => rfl
  | some o =>
    have key : G a ≠ none := by
      cases o with
      | tbl ps =>
        obtain ⟨qs, z2⟩ := x.tt a ps e
        rw [z2]
        simp
      | _ =>
        rw [x.kp a _ e True.intro]
        simp
    exact absurd z key
/-! ### one value, one truth, one part -/
def Ev (te : TE) (σ : L2.St) (H : Hp) (v : V) : Prop := ∀ G, Ex H G → ∀ Q : VK, (∀ F, Ex G F → Q v F) → te σ G Q
def EvT (t : TT) (σ : L2.St) (H : Hp) (k : Bool) : Prop := ∀ G, Ex H G → ∀ Q : Bool → Hp → Prop, (∀ F, Ex G F → Q k F) → t σ G Q
def EvO (to : TO) (σ : L2.St) (H : Hp) (o : Option Int) : Prop := ∀ G, Ex H G → ∀ Q : Option Int → Hp → Prop, (∀ F, Ex G F → Q o F) → to σ G Q
section
variable {K : PySem.W.Frag} {σ : L2.St} {H : Hp} {ta tb te : TE} {t u : TT} {v : V} {D : Ends} {tu tw tz : TS}
theorem ev_var {i : Nat} (z : σ[i]? = some (some v)) : Ev (tVar i) σ H v := fun G _ _ q => ⟨v, z, q G (.refl G)⟩
theorem et_test {b : Bool} (e : Ev te σ H (.bl b)) : EvT (tTest te) σ H b := fun G x _ q => e G x _ fun F y => ⟨b, rfl, q F y⟩
theorem et_B {b : Bool} (e : Ev te σ H (.bl b)) : EvT (tB te) σ H b := fun G x _ q => e G x _ fun F y => ⟨b, rfl, q F y⟩
theorem et_and {a b : Bool} (e : EvT t σ H a) (f : a = true → EvT u σ H b) : EvT (tAnd t u) σ H (a && b) := by
  intro G x Q q
  refine e G x _ fun F y => ?_
  cases a
  · exact (show Q false F from q F y)
  · exact (show u σ F Q from f rfl F (x.trans y) Q fun E w => q E (y.trans w))
theorem et_or {a b : Bool} (e : EvT t σ H a) (f : a = false → EvT u σ H b) : EvT (tOr t u) σ H (a || b) := by
  intro G x Q q
  refine e G x _ fun F y => ?_
  cases a
  · exact (show u σ F Q from f rfl F (x.trans y) Q fun E w => q E (y.trans w))
  · exact (show Q true F from q F y)
theorem et_not {a : Bool} (e : EvT t σ H a) : EvT (tNot t) σ H (!a) := fun G x _ q => e G x _ q
theorem ev_andV {a b : Bool} (e : Ev ta σ H (.bl a)) (f : a = true → Ev tb σ H (.bl b)) : Ev (tAndV ta tb) σ H (.bl (a && b)) := by
  intro G x Q q
  refine e G x _ fun F y => ⟨a, rfl, ?_⟩
  cases a
  · exact (show Q (.bl false) F from q F y)
  · exact (show tb σ F Q from f rfl F (x.trans y) Q fun E w => q E (y.trans w))
theorem ev_orV {a b : Bool} (e : Ev ta σ H (.bl a)) (f : a = false → Ev tb σ H (.bl b)) : Ev (tOrV ta tb) σ H (.bl (a || b)) := by
  intro G x Q q
  refine e G x _ fun F y => ⟨a, rfl, ?_⟩
  cases a
  · exact (show tb σ F Q from f rfl F (x.trans y) Q fun E w => q E (y.trans w))
  · exact (show Q (.bl true) F from q F y)
theorem ev_notV {a : Bool} (e : Ev ta σ H (.bl a)) : Ev (tNotV ta) σ H (.bl (!a)) := fun G x _ q => e G x _ fun F y => ⟨a, rfl, q F y⟩
theorem eo_none : EvO tNoPart σ H none := fun G _ _ q => q G (.refl G)
theorem eo_some {i : Int} (e : Ev te σ H (.int i)) : EvO (tPart te) σ H (some i) := fun G x _ q => e G x _ fun F y => ⟨i, rfl, q F y⟩
theorem s_if {b : Bool} (e : EvT t σ H b) (f : b = true → ∀ G, Ex H G → tu D σ G) (g : b = false → ∀ G, Ex H G → tw D σ G) : tIfS t tu tw D σ H := by
  refine e H (.refl H) _ fun G x => ?_
  cases b
  · exact (show tw D σ G from g rfl G x)
  · exact (show tu D σ G from f rfl G x)
theorem q_if {b : Bool} (e : EvT t σ H b) (f : b = true → ∀ G, Ex H G → tu { D with nx := tz D } σ G) (g : b = false → ∀ G, Ex H G → tw { D with nx := tz D } σ G) : tSeq (tIfS t tu tw) tz D σ H := s_if (D := { D with nx := tz D }) e f g
theorem q_when {b : Bool} (e : EvT t σ H b) (f : b = true → ∀ G, Ex H G → tu { D with nx := tz D } σ G) (g : b = false → ∀ G, Ex H G → tz D σ G) : tSeq (tIfS t tu tNext) tz D σ H := s_if (D := { D with nx := tz D }) e f g
theorem s_when {b : Bool} (e : EvT t σ H b) (f : b = true → ∀ G, Ex H G → tu D σ G) (g : b = false → ∀ G, Ex H G → D.nx σ G) : tIfS t tu tNext D σ H := s_if e f g
theorem s_while (W : Nat → L2.St → Hp → Prop) (m0 : Nat) (z : W m0 σ H)
    (step : ∀ m σ' G, W m σ' G → ∃ k, EvT t σ' G k ∧ (k = true → ∀ F, Ex G F → ∃ N : L2.St → Hp → Prop, (∀ σ2 E, N σ2 E → ∃ m', m' < m ∧ W m' σ2 E) ∧ tu { D with nx := N, ct := N, bk := D.nx } σ' F) ∧ (k = false → ∀ F, Ex G F → D.nx σ' F)) : tWhile t tu D σ H := by
  refine ⟨W, ⟨m0, z⟩, fun m σ' G w => ?_⟩
  obtain ⟨k, e, f, g⟩ := step m σ' G w
  refine e G (.refl G) _ fun F x => ?_
  cases k
  · exact g rfl F x
  · exact f rfl F x
theorem q_while (W : Nat → L2.St → Hp → Prop) (m0 : Nat) (z : W m0 σ H)
    (step : ∀ m σ' G, W m σ' G → ∃ k, EvT t σ' G k ∧ (k = true → ∀ F, Ex G F → ∃ N : L2.St → Hp → Prop, (∀ σ2 E, N σ2 E → ∃ m', m' < m ∧ W m' σ2 E) ∧ tu { D with nx := N, ct := N, bk := tz D } σ' F) ∧ (k = false → ∀ F, Ex G F → tz D σ' F)) : tSeq (tWhile t tu) tz D σ H :=
  s_while (D := { D with nx := tz D }) W m0 z step
end
end Evn

/-! # The layer: readings by data. What an expression is worth is told as data (PyData): EvD; the heap only grows (Ex). -/
namespace Pb
open PySem PySem.Spec PyProof.Rows L2 Evn
variable [Evn.Tbs]
abbrev PD := PySem.PyData

/-! ### data stays when the heap grows -/
mutual
theorem dp_ex {K : PySem.W.Frag} {H H' : Hp} (e : Ex H H') : ∀ {v : V} {d : PD}, Dp K H v d → Dp K H' v d
  | _, _, .non => .non
  | _, _, .bl b => .bl b
  | _, _, .int i => .int i
  | _, _, .str x => .str x
  | _, _, .lst h a => .lst (ex_l e h) (dpa_ex e a)
  | _, _, .tup h a => .tup (ex_t e h) (dpa_ex e a)
theorem dpa_ex {K : PySem.W.Frag} {H H' : Hp} (e : Ex H H') : ∀ {vs : List V} {ds : List PD}, DpAll K H vs ds → DpAll K H' vs ds
  | _, _, .nil => .nil
  | _, _, .cons h t => .cons (dp_ex e h) (dpa_ex e t)
end
section
variable {K : PySem.W.Frag} {H H' : Hp} {v : V} {xs ys : List V} {ds es : List PD}
theorem dp_int {i : Int} (h : Dp K H v (.int i)) : v = .int i := by cases h; rfl
theorem dp_bl {b : Bool} (h : Dp K H v (.bool b)) : v = .bl b := by cases h; rfl
theorem dp_str {b : Str} (h : Dp K H v (.str b)) : v = .str b := by cases h; rfl
theorem dp_non (h : Dp K H v .none) : v = .non := by cases h; rfl
theorem dp_tup (h : Dp K H v (.tuple ds)) : ∃ a xs, v = .ref a ∧ SqT K H a xs ∧ DpAll K H xs ds := by
  cases h with
  | tup h a => exact ⟨_, _, rfl, h, a⟩
theorem dp_lst (h : Dp K H v (.list ds)) : ∃ a xs, v = .ref a ∧ SqL K H a xs ∧ DpAll K H xs ds := by
  cases h with
  | lst h a => exact ⟨_, _, rfl, h, a⟩
theorem dpa_nil (h : DpAll K H xs []) : xs = [] := by cases h; rfl
theorem dpa_cons {d : PD} (h : DpAll K H xs (d :: ds)) : ∃ x r, xs = x :: r ∧ Dp K H x d ∧ DpAll K H r ds := by
  cases h with
  | cons h t => exact ⟨_, _, rfl, h, t⟩
theorem dpa_len : ∀ {xs : List V} {ds : List PD}, DpAll K H xs ds → xs.length = ds.length
  | _, _, .nil => rfl
  | _, _, .cons _ t => by rw [List.length_cons, List.length_cons, dpa_len t]
theorem dpa_get : ∀ {xs : List V} {ds : List PD} {i : Nat} {x : V}, DpAll K H xs ds → xs[i]? = some x → ∃ d, ds[i]? = some d ∧ Dp K H x d
  | _, _, _, _, .nil, e => by simp at e
  | _, _, 0, _, .cons h _, e => by simp at e; subst e; exact ⟨_, rfl, h⟩
  | _, _, i + 1, _, .cons _ t, e => by
    obtain ⟨d, h1, h2⟩ := dpa_get (i := i) t (by simpa using e)
    exact ⟨d, by simpa using h1, h2⟩
theorem dpa_at {i : Nat} {d : PD} (h : DpAll K H xs ds) (e : ds[i]? = some d) : ∃ x, xs[i]? = some x ∧ Dp K H x d := by
  have hl := dpa_len h
  have hi : i < ds.length := (List.getElem?_eq_some_iff.mp e).1
  obtain ⟨d', h1, h2⟩ := dpa_get (i := i) (x := xs[i]'(by omega)) h (by simp [hl, hi])
  rw [e] at h1; cases h1
  exact ⟨_, by simp [hl, hi], h2⟩
theorem dpa_append : ∀ {xs ys : List V} {ds es : List PD}, DpAll K H xs ds → DpAll K H ys es → DpAll K H (xs ++ ys) (ds ++ es)
  | _, _, _, _, .nil, s => s
  | _, _, _, _, .cons r t, s => .cons r (dpa_append t s)
theorem dpa_take : ∀ {xs : List V} {ds : List PD} (n : Nat), DpAll K H xs ds → DpAll K H (xs.take n) (ds.take n)
  | _, _, 0, _ => .nil
  | _, _, _ + 1, .nil => .nil
  | _, _, n + 1, .cons r t => .cons r (dpa_take n t)
theorem dpa_drop : ∀ {xs : List V} {ds : List PD} (n : Nat), DpAll K H xs ds → DpAll K H (xs.drop n) (ds.drop n)
  | _, _, 0, r => r
  | _, _, _ + 1, .nil => .nil
  | _, _, n + 1, .cons _ t => dpa_drop n t
theorem dpa_rep (h : DpAll K H xs ds) : ∀ k : Nat, DpAll K H (List.replicate k xs).flatten (List.replicate k ds).flatten
  | 0 => .nil
  | k + 1 => by
    rw [List.replicate_succ, List.replicate_succ, List.flatten_cons, List.flatten_cons]
    exact dpa_append h (dpa_rep h k)
theorem dpa_ints : ∀ {xs : List V} {ns : List Int}, DpAll K H xs (ns.map .int) → xs = ns.map V.int
  | _, [], .nil => rfl
  | _, _ :: _, .cons h t => by rw [dp_int h, dpa_ints t]; rfl
theorem dpa_of_ints : ∀ {ns : List Int}, DpAll K H (ns.map V.int) (ns.map .int)
  | [] => .nil
  | _ :: _ => .cons (.int _) dpa_of_ints
theorem dpa_bls : ∀ {xs : List V} {ns : List Bool}, DpAll K H xs (ns.map .bool) → xs = ns.map V.bl
  | _, [], .nil => rfl
  | _, _ :: _, .cons h t => by rw [dp_bl h, dpa_bls t]; rfl
theorem dpa_strs : ∀ {xs : List V} {ns : List Str}, DpAll K H xs (ns.map .str) → xs = ns.map V.str
  | _, [], .nil => rfl
  | _, _ :: _, .cons h t => by rw [dp_str h, dpa_strs t]; rfl
theorem dpa_of_strs : ∀ {ns : List Str}, DpAll K H (ns.map V.str) (ns.map .str)
  | [] => .nil
  | _ :: _ => .cons (.str _) dpa_of_strs
end
/-! ### .. and when a list changes, where it holds no list -/
mutual
def noL : PD → Bool
  | .list _ => false
  | .dict _ => false
  | .tuple xs => noLs xs
  | .none | .bool _ | .int _ | .str _ => true
def noLs : List PD → Bool
  | [] => true
  | x :: xs => noL x && noLs xs
end
theorem sqt_upd {K : PySem.W.Frag} {H : Hp} {l a : Addr} {ys xs : List V} {o : HO} (hl : H l = some (.lst ys)) (h : SqT K H a xs) : SqT K (upd H l o) a xs := by
  rcases h with (h | ⟨o', h⟩) | h
  · refine .inl (.inl ?_)
    rw [upd_ne (ne_of h hl (fun z => by cases z))]
    exact h
  · refine .inl (.inr ⟨o', ?_⟩)
    rw [upd_ne (ne_of h hl (fun z => by cases z))]
    exact h
  · exact .inr h
mutual
theorem dp_upd {K : PySem.W.Frag} {H : Hp} {l : Addr} {ys : List V} {o : HO} (hl : H l = some (.lst ys)) : ∀ {v : V} {d : PD}, Dp K H v d → noL d = true → Dp K (upd H l o) v d
  | _, _, .non, _ => .non
  | _, _, .bl b, _ => .bl b
  | _, _, .int i, _ => .int i
  | _, _, .str x, _ => .str x
  | _, _, .lst h a, n => by simp [noL] at n
  | _, _, .tup h a, n => .tup (sqt_upd hl h) (dpa_upd hl a (by simpa [noL] using n))
theorem dpa_upd {K : PySem.W.Frag} {H : Hp} {l : Addr} {ys : List V} {o : HO} (hl : H l = some (.lst ys)) : ∀ {vs : List V} {ds : List PD}, DpAll K H vs ds → noLs ds = true → DpAll K (upd H l o) vs ds
  | _, _, .nil, _ => .nil
  | _ :: _, d :: ds, .cons h t, n => by
    have n' : noL d = true ∧ noLs ds = true := by simpa [noLs] using n
    exact .cons (dp_upd hl h n'.1) (dpa_upd hl t n'.2)
end
theorem noLs_ints : ∀ ns : List Int, noLs (ns.map .int) = true
  | [] => rfl
  | _ :: r => by rw [List.map_cons, noLs, noLs_ints r]; rfl

/-! ### the judgements -/
def EvD (K : PySem.W.Frag) (te : TE) (σ : L2.St) (H : Hp) (d : PD) : Prop := ∀ H1, Ex H H1 → ∀ Q : VK, (∀ v H2, Ex H1 H2 → Dp K H2 v d → Q v H2) → te σ H1 Q
def EvDs (K : PySem.W.Frag) (ta : TA) (σ : L2.St) (H : Hp) (ds : List PD) : Prop := ∀ H1, Ex H H1 → ∀ Q : List V → Hp → Prop, (∀ vs H2, Ex H1 H2 → DpAll K H2 vs ds → Q vs H2) → ta σ H1 Q
/-- an operation on two values, by data; on one; a call by values -/
def RD2 (K : PySem.W.Frag) (r : R2) (H : Hp) (d e f : PD) : Prop := ∀ H1, Ex H H1 → ∀ v w, Dp K H1 v d → Dp K H1 w e → ∀ Q : VK, (∀ z H2, Ex H1 H2 → Dp K H2 z f → Q z H2) → r v w H1 Q
def RDC (K : PySem.W.Frag) (r : List V → Hp → VK → Prop) (H : Hp) (ds : List PD) (f : PD) : Prop := ∀ H1, Ex H H1 → ∀ vs, DpAll K H1 vs ds → ∀ Q : VK, (∀ z H2, Ex H1 H2 → Dp K H2 z f → Q z H2) → r vs H1 Q
section
variable {K : PySem.W.Frag} {σ : L2.St} {H H' : Hp} {ta tb tc te : TE} {t u : TT} {v : V} {d e f : PD} {ds : List PD} {r : R2} {ar : TA}
theorem EvD.ex (x : Ex H H') (h : EvD K te σ H d) : EvD K te σ H' d := fun H1 a Q q => h H1 (x.trans a) Q q
theorem EvDs.ex (x : Ex H H') (h : EvDs K ar σ H ds) : EvDs K ar σ H' ds := fun H1 a Q q => h H1 (x.trans a) Q q
theorem EvD.to (h : EvD K te σ H d) (x : d = e) : EvD K te σ H e := x ▸ h
theorem EvDs.to {es : List PD} (h : EvDs K ar σ H ds) (x : ds = es) : EvDs K ar σ H es := x ▸ h
theorem ed_var {i : Nat} (h : σ[i]? = some (some v)) (hd : Dp K H v d) : EvD K (tVar i) σ H d := fun H1 x _ q => ⟨v, h, q v H1 (Ex.refl H1) (dp_ex x hd)⟩
theorem ed_cint {i : Int} : EvD K (tC (.int i)) σ H (.int i) := fun H1 _ _ q => q _ H1 (Ex.refl H1) (.int i)
theorem ed_cbl {i : Bool} : EvD K (tC (.bl i)) σ H (.bool i) := fun H1 _ _ q => q _ H1 (Ex.refl H1) (.bl i)
theorem ed_cstr {i : Str} : EvD K (tC (.str i)) σ H (.str i) := fun H1 _ _ q => q _ H1 (Ex.refl H1) (.str i)
theorem ed_cnon : EvD K (tC .non) σ H .none := fun H1 _ _ q => q _ H1 (Ex.refl H1) .non
theorem EvD.int {i : Int} (h : EvD K te σ H (.int i)) : Ev te σ H (.int i) := fun H1 x Q q => h H1 x Q fun v H2 x2 hv => by rw [dp_int hv]; exact q H2 x2
theorem EvD.bl {i : Bool} (h : EvD K te σ H (.bool i)) : Ev te σ H (.bl i) := fun H1 x Q q => h H1 x Q fun v H2 x2 hv => by rw [dp_bl hv]; exact q H2 x2
theorem EvD.str {i : Str} (h : EvD K te σ H (.str i)) : Ev te σ H (.str i) := fun H1 x Q q => h H1 x Q fun v H2 x2 hv => by rw [dp_str hv]; exact q H2 x2
theorem EvD.non (h : EvD K te σ H .none) : Ev te σ H .non := fun H1 x Q q => h H1 x Q fun v H2 x2 hv => by rw [dp_non hv]; exact q H2 x2
theorem ed_of (h : Ev te σ H v) (hd : Dp K H v d) : EvD K te σ H d := fun H1 x Q q => h H1 x Q fun H2 x2 => q v H2 x2 (dp_ex (x.trans x2) hd)
theorem ed_op (ha : EvD K ta σ H d) (hb : EvD K tb σ H e) (hr : RD2 K r H d e f) : EvD K (tOp r ta tb) σ H f := fun H1 x Q q =>
  ha H1 x _ fun v H2 x2 hv => hb H2 (x.trans x2) _ fun w H3 x3 hw => hr H3 ((x.trans x2).trans x3) v w (dp_ex x3 hv) hw Q fun z H4 x4 hz => q z H4 ((x2.trans x3).trans x4) hz
theorem ed_cb {rc : List V → Hp → VK → Prop} (ha : EvDs K ar σ H ds) (hr : RDC K rc H ds f) : EvD K (tCB rc ar) σ H f := fun H1 x Q q =>
  ha H1 x _ fun vs H2 x2 hv => hr H2 (x.trans x2) vs hv Q fun z H3 x3 hz => q z H3 (x2.trans x3) hz
theorem eds_nil : EvDs K tNil σ H [] := fun H1 _ _ q => q [] H1 (Ex.refl H1) .nil
theorem eds_cons (h : EvD K te σ H d) (hr : EvDs K ar σ H ds) : EvDs K (tCons te ar) σ H (d :: ds) := fun H1 x _ q =>
  h H1 x _ fun v H2 x2 hv => hr H2 (x.trans x2) _ fun vs H3 x3 hvs => q _ H3 (x2.trans x3) (.cons (dp_ex x3 hv) hvs)
theorem ed_tup (h : EvDs K ar σ H ds) (hl : ds.length ≤ 100000) : EvD K (tTup ar) σ H (.tuple ds) := fun H1 x _ q =>
  h H1 x _ fun vs H2 x2 hv => ⟨sz_of (by rw [dpa_len hv]; exact hl), fun p hp => q _ _ (x2.trans (Ex.new hp)) (.tup (st_of upd_same) (dpa_ex (Ex.new hp) hv))⟩
theorem ed_lst (h : EvDs K ar σ H ds) (hl : ds.length ≤ 100000) : EvD K (tLst ar) σ H (.list ds) := fun H1 x _ q =>
  h H1 x _ fun vs H2 x2 hv => ⟨sz_of (by rw [dpa_len hv]; exact hl), fun p hp => q _ _ (x2.trans (Ex.new hp)) (.lst (sq_of upd_same) (dpa_ex (Ex.new hp) hv))⟩
/-! ints -/
theorem rd_I0 {g : Int → Int → Int} {i j : Int} : RD2 K (rI0 fun i j => .int (g i j)) H (.int i) (.int j) (.int (g i j)) := fun H1 _ v w hv hw Q q => by
  rw [dp_int hv, dp_int hw]
  exact ⟨i, j, rfl, rfl, q _ H1 (Ex.refl H1) (.int _)⟩
theorem rd_B0 {g : Int → Int → Bool} {i j : Int} : RD2 K (rI0 fun i j => .bl (g i j)) H (.int i) (.int j) (.bool (g i j)) := fun H1 _ v w hv hw Q q => by
  rw [dp_int hv, dp_int hw]
  exact ⟨i, j, rfl, rfl, q _ H1 (Ex.refl H1) (.bl _)⟩
theorem rd_I {C : Int → Int → Prop} {g : Int → Int → Int} {i j : Int} (hc : C i j) : RD2 K (rI C fun i j => .int (g i j)) H (.int i) (.int j) (.int (g i j)) := fun H1 _ v w hv hw Q q => by
  rw [dp_int hv, dp_int hw]
  exact ⟨i, j, rfl, rfl, hc, q _ H1 (Ex.refl H1) (.int _)⟩
theorem RD2.ol {r' : R2} (h : RD2 K r H d e f) : RD2 K (fun x y H Q => r x y H Q ∨ r' x y H Q) H d e f := fun H1 x v w hv hw Q q => .inl (h H1 x v w hv hw Q q)
theorem RD2.or {r' : R2} (h : RD2 K r H d e f) : RD2 K (fun x y H Q => r' x y H Q ∨ r x y H Q) H d e f := fun H1 x v w hv hw Q q => .inr (h H1 x v w hv hw Q q)
theorem rd_eq (h1 : SeqAt.shaped d = true) (h2 : SeqAt.shaped e = true) : RD2 K (rEqD K) H d e (.bool (PyData.eqv d e)) := fun H1 _ v w hv hw Q q => ⟨d, e, hv, hw, h1, h2, q _ H1 (Ex.refl H1) (.bl _)⟩
theorem rd_ne (h1 : SeqAt.shaped d = true) (h2 : SeqAt.shaped e = true) : RD2 K (rNeD K) H d e (.bool (!PyData.eqv d e)) := fun H1 _ v w hv hw Q q => ⟨d, e, hv, hw, h1, h2, q _ H1 (Ex.refl H1) (.bl _)⟩
theorem ed_neg {i : Int} (ha : EvD K ta σ H (.int i)) : EvD K (tUn (rU fun i => .int (-i)) ta) σ H (.int (-i)) := fun H1 x Q q =>
  ha H1 x _ fun v H2 x2 hv => by
    rw [dp_int hv]
    exact ⟨i, rfl, q _ H2 x2 (.int _)⟩
/-! tests -/
theorem et_tst {b : Bool} (h : EvD K te σ H (.bool b)) : EvT (tTest te) σ H b := et_test h.bl
theorem et_b {b : Bool} (h : EvD K te σ H (.bool b)) : EvT (tB te) σ H b := et_B h.bl
/-- the truth of data -/
def tru : PD → Bool
  | .none => false
  | .bool b => b
  | .int i => i != 0
  | .str s => (s.length : Int) != 0
  | .list xs => !xs.isEmpty
  | .tuple xs => !xs.isEmpty
  | .dict _ => false
def strOk : PD → Bool
  | .str s => decide (s.length ≤ 100000)
  | .dict _ => false
  | _ => true
theorem tru_of (h : Dp K H v d) (ho : strOk d = true) : TruV K v H (tru d) := by
  cases h with
  | non => rfl
  | bl b => rfl
  | int i => rfl
  | str x => exact ⟨sz_of (of_decide_eq_true ho), rfl⟩
  | lst h a =>
    refine .inl ⟨_, h, ?_⟩
    cases a <;> rfl
  | tup h a =>
    refine .inr (.inl ⟨_, h, ?_⟩)
    cases a <;> rfl
theorem et_tru (h : EvD K te σ H d) (ho : strOk d = true := by rfl) : EvT (fun σ H Q => te σ H fun x H' => ∃ k, TruV K x H' k ∧ Q k H') σ H (tru d) := fun H1 x Q q =>
  h H1 x _ fun v H2 x2 hv => ⟨tru d, tru_of hv ho, q H2 x2⟩
theorem EvT.ex {b : Bool} (x : Ex H H') (h : EvT t σ H b) : EvT t σ H' b := fun H1 a Q q => h H1 (x.trans a) Q q
theorem EvT.to {b c : Bool} (h : EvT t σ H b) (x : b = c) : EvT t σ H c := x ▸ h
theorem ed_and {a b : Bool} (h1 : EvD K ta σ H (.bool a)) (h2 : a = true → EvD K tb σ H (.bool b)) : EvD K (tAndV ta tb) σ H (.bool (a && b)) := ed_of (ev_andV h1.bl fun z => (h2 z).bl) (.bl _)
theorem ed_or {a b : Bool} (h1 : EvD K ta σ H (.bool a)) (h2 : a = false → EvD K tb σ H (.bool b)) : EvD K (tOrV ta tb) σ H (.bool (a || b)) := ed_of (ev_orV h1.bl fun z => (h2 z).bl) (.bl _)
theorem ed_not {a : Bool} (h1 : EvD K ta σ H (.bool a)) : EvD K (tNotV ta) σ H (.bool (!a)) := ed_of (ev_notV h1.bl) (.bl _)
end
end Pb

namespace Pb
open PySem PySem.Spec PyProof.Rows L2 Evn
variable [Evn.Tbs]

/-! ### operations with several kinds of operands -/
section
variable {X : Cx}
/-- list + list, whatever holds them -/
def rCatL (K : PySem.W.Frag) : R2 := fun x y H Q => ∃ l b xs zs, x = .ref l ∧ y = .ref b ∧ SqL K H l xs ∧ SqL K H b zs ∧ xs.length + zs.length ≤ sizeLine ∧ ∀ p, H p = none → Q (.ref p) (upd H p (.lst (xs ++ zs)))
theorem op_catL : OpR X (binaryOp .Add) (rCatL X.K) := by
  intro pins s σ H x y v u Q I rx ry h
  obtain ⟨l, b, xs, zs, rfl, rfl, hH, hB, hz, q⟩ := h
  cases rx
  cases ry
  obtain ⟨its, r, ⟨⟨oc, od, odt, osl⟩, n, ho, c1, c2, c3⟩, hl⟩ := I.list hH
  obtain ⟨its2, r2, ⟨⟨oc2, od2, odt2, osl2⟩, n2, ho2, d1, d2, d3⟩, hl2⟩ := I.list hB
  simp only at c1 c2 c3 d1 d2 d3
  subst c1 c2 c3 d1 d2 d3
  have e : its.toArray ++ its2.toArray = (its ++ its2).toArray := by simp
  have e1 := r.length
  have e2 := r2.length
  refine concat_meets ⟨_, ho, rfl⟩ ⟨_, ho2, rfl⟩ noFill_list_add seq_list_add PySem.F.slot_list_add PySem.F.entry_list_add (PySem.F.args_list_add_2 _ _) (list_addW l b its.toArray its2.toArray n n2 none none osl osl2 (by simp; omega)) ⟨ho, ho2, ?_⟩
  rw [e]
  exact ⟨.ref _, _, I.lnew (t' := s.toks) (r.append r2) (by rw [List.length_append]; exact hz), rfl, q _ I.fresh⟩
/-- list * int -/
def rRepL (K : PySem.W.Frag) : R2 := fun x y H Q => ∃ l k xs, x = .ref l ∧ y = .int k ∧ SqL K H l xs ∧ -(2 ^ 63) ≤ k ∧ k < 2 ^ 63 ∧ xs.length * k.toNat ≤ sizeLine ∧
  ∀ p, H p = none → Q (.ref p) (upd H p (.lst (List.replicate k.toNat xs).flatten))
theorem op_repL : OpR X (binaryOp .Mult) (rRepL X.K) := by
  intro pins s σ H x y v u Q I rx ry h
  obtain ⟨l, k, xs, rfl, rfl, hH, h1, h2, hz, q⟩ := h
  cases rx
  obtain ⟨t, rfl⟩ := ry
  obtain ⟨its, r, ⟨⟨oc, od, odt, osl⟩, n, ho, c1, c2, c3⟩, hl⟩ := I.list hH
  simp only at c1 c2 c3
  subst c1 c2 c3
  have e1 := r.length
  have hz' : its.toArray.size * k.toNat ≤ 2 ^ 24 := by
    rw [List.size_toArray, ← e1]
    rw [sizeLine_eq] at hz
    exact hz
  refine wpAny_binaryOp_repeat_ref (T := "list") (U := "int") (by decide) ⟨_, ho, rfl⟩ (fun s' => typeIs_int s' k t) noFill_list_mul F.fills_int_mul F.slot_int_rmul repeat_list F.slot_int_index.lookup
    (call_meets F.slot_int_rmul (typeIs_int s k t) F.entry_int_rmul (F.args_int_rmul_2 _ _) (lm_int_rmul_list_any k t l its.toArray n none osl)
      ⟨ho, rfl, ⟨_, ho, rfl⟩, call_meets F.slot_list_mul ⟨_, ho, rfl⟩ F.entry_list_mul (F.args_list_mul_2 _ _)
        (lm_list_mul_any l its.toArray n none osl k t (by simp [Builtin.List.listFitsIndex]; omega) (by omega) (by simp [Builtin.List.listTooLong, sizeLine]; simpa using hz'))
        ⟨ho, ?_⟩⟩)
  rw [listMul_foldl_if]
  exact ⟨.ref _, _, I.lnew (t' := s.toks) (r.rep k.toNat) (by rw [PyProof.Rows.lm_len_rep_flat, Nat.mul_comm]; exact hz), rfl, q _ I.fresh⟩
/-- tuple * int, once and more -/
theorem tuple_mulS (l : Addr) (items : Array Value) (n : Nat) (dd : Option Addr) (sl : Array (Option Value)) (u : Tok) :
    Meets (Builtin.«tuple.__mul__» ⟨[.ref l, .int 1 u], []⟩) (fun _ R s => s.heap.get? l = some { cls := .type "tuple", dict := dd, data := .seq items n, slots := sl } ∧ R (.ok (.ret (Value.ref l))) s) :=
  .of_wp fun prog w A R s h => by
    obtain ⟨hp, g, d, tk, os⟩ := s
    obtain ⟨hl, h⟩ := h
    have f1 := AutoSeq1.idx_int
    have c1 : (items.isEmpty || (1 : Int) == 1) = true := by simp
    wp_walk using wpAny_loadPart' hl
    exact ⟨_, rfl, h⟩
def rRepA (K : PySem.W.Frag) : R2 := fun x y H Q => ∃ l k xs, x = .ref l ∧ y = .int k ∧ SqT K H l xs ∧ xs ≠ [] ∧ 1 ≤ k ∧ xs.length * k.toNat ≤ 1000000 ∧ (k = 1 → Q (.ref l) H) ∧ (k ≠ 1 → ∀ p, H p = none → Q (.ref p) (upd H p (.tup (List.replicate k.toNat xs).flatten)))
theorem op_repA : OpR X (binaryOp .Mult) (rRepA X.K) := by
  intro pins s σ H x y v u Q I rx ry h
  obtain ⟨l, k, xs, rfl, rfl, hT, hne, h1, hz, q1, q⟩ := h
  cases rx
  obtain ⟨t, rfl⟩ := ry
  obtain ⟨its, r, ⟨⟨cls, dd, data, sl⟩, ho, hc, n, hd⟩, hs⟩ := I.tuple hT
  simp only at hc hd
  subst hc hd
  have hle : its.length = xs.length := r.length.symm
  by_cases hk : k = 1
  · subst hk
    exact wpAny_binaryOp_repeat_ref (T := "tuple") (U := "int") (by decide) ⟨_, ho, rfl⟩ (fun s' => typeIs_int s' 1 t) noFill_tuple_mul F.fills_int_mul F.slot_int_rmul repeat_tuple F.slot_int_index.lookup
      (call_meets F.slot_int_rmul (typeIs_int s 1 t) F.entry_int_rmul (F.args_int_rmul_2 _ _) (int_rmul_tuple 1 t l its.toArray n dd sl)
        ⟨ho, rfl, ⟨_, ho, rfl⟩, call_meets F.slot_tuple_mul ⟨_, ho, rfl⟩ F.entry_tuple_mul (F.args_tuple_mul_2 _ _) (tuple_mulS l its.toArray n dd sl t) ⟨ho, ⟨.ref l, H, I, rfl, q1 rfl⟩⟩⟩)
  have hn : its ≠ [] := fun e => hne (by
    rw [e] at hle
    exact List.eq_nil_of_length_eq_zero hle.symm)
  have hi : its.toArray.isEmpty = false := by
    cases its with
    | nil => exact absurd rfl hn
    | cons a b => rfl
  have hsz0 : its.toArray.size = xs.length := by rw [List.size_toArray, hle]
  have hm : ((its.toArray.size : Nat) : Int) * k ≤ 1000000 := by
    rw [hsz0]
    have e1 : k = (k.toNat : Int) := by omega
    rw [e1, ← Int.natCast_mul]
    omega
  have kb : k ≤ 1000000 := by
    have p0 : 0 < its.toArray.size := by
      rw [hsz0]
      cases xs with
      | nil => exact absurd rfl hne
      | cons _ _ => simp
    have a1 : (1 : Int) * k ≤ ((its.toArray.size : Nat) : Int) * k := Int.mul_le_mul_of_nonneg_right (by omega) (by omega)
    omega
  have flen : (List.replicate k.toNat its).flatten.length ≤ sizeLine := by
    rw [PyProof.Rows.lm_len_rep_flat, hle, sizeLine_eq, Nat.mul_comm]
    omega
  have c0 : (decide (k < -(2 ^ 63)) || decide (k ≥ 2 ^ 63)) = false := by
    rw [decide_eq_false (by omega), decide_eq_false (by omega)] <;> rfl
  have c1 : (its.toArray.isEmpty || k == 1) = false := by
    rw [hi, Bool.false_or]
    exact beq_eq_false_iff_ne.mpr hk
  have c2 : (decide (k ≤ 0) || its.toArray.isEmpty) = false := by
    rw [hi, Bool.or_false]
    exact decide_eq_false (by omega)
  have c4 : Builtin.Tuple.tupleTooMany (((its.toArray.size : Nat) : Int) * k) = false := by
    unfold Builtin.Tuple.tupleTooMany
    rw [sizeLine_eq]
    exact decide_eq_false (by omega)
  refine wpAny_binaryOp_repeat_ref (T := "tuple") (U := "int") (by decide) ⟨_, ho, rfl⟩ (fun s' => typeIs_int s' k t) noFill_tuple_mul F.fills_int_mul F.slot_int_rmul repeat_tuple F.slot_int_index.lookup
    (call_meets F.slot_int_rmul (typeIs_int s k t) F.entry_int_rmul (F.args_int_rmul_2 _ _) (int_rmul_tuple k t l its.toArray n dd sl)
      ⟨ho, rfl, ⟨_, ho, rfl⟩, call_meets F.slot_tuple_mul ⟨_, ho, rfl⟩ F.entry_tuple_mul (F.args_tuple_mul_2 _ _) (tuple_mulW l its.toArray n dd sl k t c0 c1 c2 (by omega) c4 (by rw [size_rep, List.size_toArray]; exact flen)) ⟨ho, ?_⟩⟩)
  rw [size_rep]
  refine ⟨.ref s.heap.objs.size, _, I.laid (t' := s.toks) (o := .tup (List.replicate k.toNat xs).flatten) (fun b ob q => Heap.get?_push_of_some _ q) (Nat.le_refl _) ?_, rfl, q hk _ (I.hok.fresh (Nat.le_refl _))⟩
  exact ⟨by rw [PyProof.Rows.lm_len_rep_flat, sizeLine_eq, Nat.mul_comm]; omega, _, r.rep k.toNat, IsTup.new _ _⟩

/-- +: ints, lists, tuples, texts -/
def rAddX (K : PySem.W.Frag) : R2 := fun x y H Q => (rI0 fun i j => .int (i + j)) x y H Q ∨ (rCatL K x y H Q ∨ (rCatA K x y H Q ∨ ∃ i j, x = .str i ∧ y = .str j ∧ i.length + j.length ≤ sizeLine ∧ Q (.str (i ++ j)) H))
theorem op_addX : OpR X (binaryOp .Add) (rAddX X.K) := op_add.or (op_catL.or (op_catA.or op_add_str))
def rMulX (K : PySem.W.Frag) : R2 := fun x y H Q => (rI CMul fun i j => .int (i * j)) x y H Q ∨ (rRepL K x y H Q ∨ rRepA K x y H Q)
theorem op_mulX' : OpR X (binaryOp .Mult) (rMulX X.K) := op_mul.or (op_repL.or op_repA)
def rIsX : R2 := fun x y H Q => (y = .non ∧ Q (.bl (decide (x = .non))) H) ∨ ∃ a b, x = .bl a ∧ y = .bl b ∧ Q (.bl (decide (a = b))) H
theorem op_isX : OpR X (compareOp .Is) rIsX := op_isN.or op_is_bl
def rIsNotX : R2 := fun x y H Q => (y = .non ∧ Q (.bl (!decide (x = .non))) H) ∨ ∃ a b, x = .bl a ∧ y = .bl b ∧ Q (.bl (!decide (a = b))) H
theorem op_isNotX : OpR X (compareOp .IsNot) rIsNotX := op_notN.or op_isnot_bl
def rInX (K : PySem.W.Frag) : R2 := fun x y H Q => (∃ (c : Nat) (z : Str), x = .str ⟨#[c]⟩ ∧ y = .str z ∧ Q (.bl (decide (c ∈ z.cps.toList))) H) ∨ rIn K false x y H Q
theorem op_inX : OpR X (compareOp .In) (rInX X.K) := op_in_sign.or op_in_seq
def rNotInX (K : PySem.W.Frag) : R2 := fun x y H Q => (∃ (c : Nat) (z : Str), x = .str ⟨#[c]⟩ ∧ y = .str z ∧ Q (.bl (!decide (c ∈ z.cps.toList))) H) ∨ rIn K true x y H Q
theorem op_notInX : OpR X (compareOp .NotIn) (rNotInX X.K) := op_notIn_sign.or op_notIn_seq
/-- slices: a list's, a tuple's, a text's -/
def rSlX (K : PySem.W.Frag) : V → Option Int → Option Int → Hp → VK → Prop := fun x lo hi H Q => rSlL K x lo hi H Q ∨ rSlA K x lo hi H Q
theorem sl_X : SlR X (rSlX X.K) := sl_list.or sl_tupA
end

/-! ### .. by data -/
section
variable {K : PySem.W.Frag} {σ : L2.St} {H H' : Hp} {ta tb tc te : TE} {t u : TT} {v : V} {d e f : PD} {ds es : List PD} {r : R2} {ar : TA}
theorem ed_add {i j : Int} (ha : EvD K ta σ H (.int i)) (hb : EvD K tb σ H (.int j)) : EvD K (tOp (rAddX K) ta tb) σ H (.int (i + j)) := ed_op ha hb (RD2.ol (rd_I0 (g := fun i j => i + j)))
theorem ed_sub {i j : Int} (ha : EvD K ta σ H (.int i)) (hb : EvD K tb σ H (.int j)) : EvD K (tOp (rI0 fun i j => .int (i - j)) ta tb) σ H (.int (i - j)) := ed_op ha hb (rd_I0 (g := fun i j => i - j))
theorem ed_mul {i j : Int} (ha : EvD K ta σ H (.int i)) (hb : EvD K tb σ H (.int j)) (hc : CMul i j) : EvD K (tOp (rMulX K) ta tb) σ H (.int (i * j)) := ed_op ha hb (RD2.ol (rd_I (g := fun i j => i * j) hc))
theorem ed_mod {i j : Int} (ha : EvD K ta σ H (.int i)) (hb : EvD K tb σ H (.int j)) (hc : 0 < j) : EvD K (tOp (rI (fun _ j => 0 < j) fun i j => .int (i % j)) ta tb) σ H (.int (i % j)) := ed_op ha hb (rd_I (C := fun _ j => 0 < j) (g := fun i j => i % j) hc)
theorem ed_fdiv {i j : Int} (ha : EvD K ta σ H (.int i)) (hb : EvD K tb σ H (.int j)) (hc : CDiv i j) : EvD K (tOp (rI CDiv fun i j => .int (i / j)) ta tb) σ H (.int (i / j)) := ed_op ha hb (rd_I (g := fun i j => i / j) hc)
theorem ed_pow {i j : Int} (ha : EvD K ta σ H (.int i)) (hb : EvD K tb σ H (.int j)) (hc : CPow i j) : EvD K (tOp (rI CPow fun i j => .int (i ^ j.toNat)) ta tb) σ H (.int (i ^ j.toNat)) := ed_op ha hb (rd_I (g := fun i j => i ^ j.toNat) hc)
theorem ed_lt {i j : Int} (ha : EvD K ta σ H (.int i)) (hb : EvD K tb σ H (.int j)) : EvD K (tOp (rI0 fun i j => .bl (decide (i < j))) ta tb) σ H (.bool (decide (i < j))) := ed_op ha hb (rd_B0 (g := fun i j => decide (i < j)))
theorem ed_le {i j : Int} (ha : EvD K ta σ H (.int i)) (hb : EvD K tb σ H (.int j)) : EvD K (tOp (rI0 fun i j => .bl (decide (i ≤ j))) ta tb) σ H (.bool (decide (i ≤ j))) := ed_op ha hb (rd_B0 (g := fun i j => decide (i ≤ j)))
theorem ed_gt {i j : Int} (ha : EvD K ta σ H (.int i)) (hb : EvD K tb σ H (.int j)) : EvD K (tOp (rI0 fun i j => .bl (decide (j < i))) ta tb) σ H (.bool (decide (j < i))) := ed_op ha hb (rd_B0 (g := fun i j => decide (j < i)))
theorem ed_ge {i j : Int} (ha : EvD K ta σ H (.int i)) (hb : EvD K tb σ H (.int j)) : EvD K (tOp (rI0 fun i j => .bl (decide (j ≤ i))) ta tb) σ H (.bool (decide (j ≤ i))) := ed_op ha hb (rd_B0 (g := fun i j => decide (j ≤ i)))
theorem ed_eq (ha : EvD K ta σ H d) (hb : EvD K tb σ H e) (h1 : SeqAt.shaped d = true) (h2 : SeqAt.shaped e = true) : EvD K (tOp (rEqD K) ta tb) σ H (.bool (PyData.eqv d e)) := ed_op ha hb (rd_eq h1 h2)
theorem ed_ne (ha : EvD K ta σ H d) (hb : EvD K tb σ H e) (h1 : SeqAt.shaped d = true) (h2 : SeqAt.shaped e = true) : EvD K (tOp (rNeD K) ta tb) σ H (.bool (!PyData.eqv d e)) := ed_op ha hb (rd_ne h1 h2)
theorem ed_eqI {i j : Int} (ha : EvD K ta σ H (.int i)) (hb : EvD K tb σ H (.int j)) : EvD K (tOp (rEqD K) ta tb) σ H (.bool (i == j)) := ed_eq ha hb rfl rfl
theorem ed_neI {i j : Int} (ha : EvD K ta σ H (.int i)) (hb : EvD K tb σ H (.int j)) : EvD K (tOp (rNeD K) ta tb) σ H (.bool (!(i == j))) := ed_ne ha hb rfl rfl
theorem ed_eqB {i j : Bool} (ha : EvD K ta σ H (.bool i)) (hb : EvD K tb σ H (.bool j)) : EvD K (tOp (rEqD K) ta tb) σ H (.bool (i == j)) := ed_eq ha hb rfl rfl
theorem ed_neB {i j : Bool} (ha : EvD K ta σ H (.bool i)) (hb : EvD K tb σ H (.bool j)) : EvD K (tOp (rNeD K) ta tb) σ H (.bool (!(i == j))) := ed_ne ha hb rfl rfl
/-- chains of ints -/
theorem ed_chain {p q : Int → Int → Bool} {i j k : Int} (ha : EvD K ta σ H (.int i)) (hb : EvD K tb σ H (.int j)) (hc : p i j = true → EvD K tc σ H (.int k)) :
    EvD K (tChain (rI0 fun i j => .bl (p i j)) (rI0 fun i j => .bl (q i j)) ta tb tc) σ H (.bool (p i j && q j k)) := fun H1 x Q z =>
  ha H1 x _ fun v H2 x2 hv => hb H2 (x.trans x2) _ fun w H3 x3 hw => by
    have e1 := dp_int hv
    have e2 := dp_int hw
    subst e1 e2
    refine ⟨i, j, rfl, rfl, _, rfl, ?_⟩
    cases hp : p i j with
    | false =>
      show Q (.bl false) H3
      refine z _ H3 (x2.trans x3) ?_
      rw [hp]
      exact .bl _
    | true =>
      show tc σ H3 _
      refine hc hp H3 ((x.trans x2).trans x3) _ fun w' H4 x4 hw' => ?_
      have e3 := dp_int hw'
      subst e3
      refine ⟨j, k, rfl, rfl, z _ H4 ((x2.trans x3).trans x4) ?_⟩
      rw [hp]
      exact .bl _
def isNone : PD → Bool | .none => true | _ => false
def tyD : PD → String | .none => "NoneType" | .bool _ => "bool" | .int _ => "int" | .str _ => "str" | .list _ => "list" | .tuple _ => "tuple" | .dict _ => "dict"
theorem isN_dec (h : Dp K H v d) : decide (v = .non) = (isNone d) := by
  cases h <;> simp [isNone]
theorem ed_isN (ha : EvD K ta σ H d) : EvD K (tOp rIsX ta (tC .non)) σ H (.bool (isNone d)) := fun H1 x Q z =>
  ha H1 x _ fun v H2 x2 hv => .inl ⟨rfl, z _ H2 x2 (by rw [isN_dec hv]; exact .bl _)⟩
theorem ed_notN (ha : EvD K ta σ H d) : EvD K (tOp rIsNotX ta (tC .non)) σ H (.bool (!(isNone d))) := fun H1 x Q z =>
  ha H1 x _ fun v H2 x2 hv => .inl ⟨rfl, z _ H2 x2 (by rw [isN_dec hv]; exact .bl _)⟩
theorem ed_isB {a b : Bool} (ha : EvD K ta σ H (.bool a)) : EvD K (tOp rIsX ta (tC (.bl b))) σ H (.bool (decide (a = b))) := fun H1 x Q z =>
  ha H1 x _ fun v H2 x2 hv => .inr ⟨a, b, dp_bl hv, rfl, z _ H2 x2 (.bl _)⟩
/-! sequences -/
theorem atI_dpa {xs : List V} {i : Int} (h : DpAll K H xs ds) (e : atI ds i = some d) : ∃ x, atI xs i = some x ∧ Dp K H x d := by
  unfold atI at e ⊢
  rw [dpa_len h]
  cases q : ixN ds.length i with
  | none => rw [q] at e; cases e
  | some j =>
    rw [q] at e
    exact dpa_at h e
theorem cutV_dpa {xs : List V} (h : DpAll K H xs ds) (lo hi : Option Int) : DpAll K H (cutV xs lo hi) ((ds.drop (HT.sIx ds.length 0 lo)).take (HT.sIx ds.length ds.length hi - HT.sIx ds.length 0 lo)) := by
  unfold cutV
  rw [dpa_len h]
  exact dpa_take _ (dpa_drop _ h)
/-- a cut of data -/
def cutD {α : Type} (ds : List α) (lo hi : Option Int) : List α := (ds.drop (HT.sIx ds.length 0 lo)).take (HT.sIx ds.length ds.length hi - HT.sIx ds.length 0 lo)
theorem cutD_whole {α : Type} {ds : List α} {lo hi : Option Int} (h1 : HT.sIx ds.length 0 lo = 0) (h2 : HT.sIx ds.length ds.length hi = ds.length) : cutD ds lo hi = ds := by
  unfold cutD
  rw [h1, h2]
  simp
theorem ed_ixL {i : Int} (ha : EvD K ta σ H (.list ds)) (hb : EvD K tb σ H (.int i)) (h : atI ds i = some d) : EvD K (tOp (rIx K) ta tb) σ H d := ed_op ha hb fun H1 _ v w hv hw Q q => by
  obtain ⟨a, xs, rfl, hs, ha⟩ := dp_lst hv
  have e := dp_int hw
  subst e
  obtain ⟨x, hx, hd⟩ := atI_dpa ha h
  exact .inl ⟨a, xs, i, x, rfl, rfl, hs, hx, q x H1 (Ex.refl H1) hd⟩
theorem ed_ixT {i : Int} (ha : EvD K ta σ H (.tuple ds)) (hb : EvD K tb σ H (.int i)) (h : atI ds i = some d) : EvD K (tOp (rIx K) ta tb) σ H d := ed_op ha hb fun H1 _ v w hv hw Q q => by
  obtain ⟨a, xs, rfl, hs, ha⟩ := dp_tup hv
  have e := dp_int hw
  subst e
  obtain ⟨x, hx, hd⟩ := atI_dpa ha h
  exact .inr (.inl ⟨a, xs, i, x, rfl, rfl, hs, hx, q x H1 (Ex.refl H1) hd⟩)
theorem ed_slL {tl th : TO} {lo hi : Option Int} (h : EvD K te σ H (.list ds)) (h1 : EvO tl σ H lo) (h2 : EvO th σ H hi) : EvD K (tSl (rSlX K) te tl th) σ H (.list (cutD ds lo hi)) := fun H1 x Q q =>
  h H1 x _ fun v H2 x2 hv => h1 H2 (x.trans x2) _ fun H3 x3 => h2 H3 ((x.trans x2).trans x3) _ fun H4 x4 => by
    obtain ⟨a, xs, rfl, hs, ha⟩ := dp_lst hv
    exact .inl ⟨a, xs, rfl, ex_l (x3.trans x4) hs, fun p hp => q _ _ (((x2.trans x3).trans x4).trans (Ex.new hp)) (.lst (sq_of upd_same) (cutV_dpa (dpa_ex ((x3.trans x4).trans (Ex.new hp)) ha) lo hi))⟩
theorem ed_slT {tl th : TO} {lo hi : Option Int} (h : EvD K te σ H (.tuple ds)) (h1 : EvO tl σ H lo) (h2 : EvO th σ H hi) : EvD K (tSl (rSlX K) te tl th) σ H (.tuple (cutD ds lo hi)) := fun H1 x Q q =>
  h H1 x _ fun v H2 x2 hv => h1 H2 (x.trans x2) _ fun H3 x3 => h2 H3 ((x.trans x2).trans x3) _ fun H4 x4 => by
    obtain ⟨a, xs, rfl, hs, ha⟩ := dp_tup hv
    refine .inr ⟨a, xs, rfl, ex_t (x3.trans x4) hs, fun hw => ?_, fun hw p hp => q _ _ (((x2.trans x3).trans x4).trans (Ex.new hp)) (.tup (st_of upd_same) (cutV_dpa (dpa_ex ((x3.trans x4).trans (Ex.new hp)) ha) lo hi))⟩
    rw [dpa_len ha] at hw
    rw [cutD_whole hw.1 hw.2] at q
    exact q _ _ ((x2.trans x3).trans x4) (dp_ex (x3.trans x4) hv)
theorem eo_int {i : Int} (h : EvD K te σ H (.int i)) : EvO (tPart te) σ H (some i) := eo_some h.int
theorem ed_catL (ha : EvD K ta σ H (.list ds)) (hb : EvD K tb σ H (.list es)) (hz : ds.length + es.length ≤ 100000) : EvD K (tOp (rAddX K) ta tb) σ H (.list (ds ++ es)) := ed_op ha hb fun H1 _ v w hv hw Q q => by
  obtain ⟨a, xs, rfl, hs, ha⟩ := dp_lst hv
  obtain ⟨b, ys, rfl, hs2, hb⟩ := dp_lst hw
  exact .inr (.inl ⟨a, b, xs, ys, rfl, rfl, hs, hs2, sz_of (by rw [dpa_len ha, dpa_len hb]; exact hz), fun p hp => q _ _ (Ex.new hp) (.lst (sq_of upd_same) (dpa_ex (Ex.new hp) (dpa_append ha hb)))⟩)
theorem ed_catT (ha : EvD K ta σ H (.tuple ds)) (hb : EvD K tb σ H (.tuple es)) (hz : ds.length + es.length ≤ 100000) : EvD K (tOp (rAddX K) ta tb) σ H (.tuple (ds ++ es)) := ed_op ha hb fun H1 _ v w hv hw Q q => by
  have hv0 := hv
  have hw0 := hw
  obtain ⟨a, xs, rfl, hs, ha⟩ := dp_tup hv
  obtain ⟨b, ys, rfl, hs2, hb⟩ := dp_tup hw
  refine .inr (.inr (.inl ⟨a, b, xs, ys, rfl, rfl, hs, hs2, sz_of (by rw [dpa_len ha, dpa_len hb]; exact hz), fun e => ?_, fun _ e => ?_, fun _ _ p hp => q _ _ (Ex.new hp) (.tup (st_of upd_same) (dpa_ex (Ex.new hp) (dpa_append ha hb)))⟩))
  · subst e
    cases ha
    exact q _ _ (Ex.refl H1) hw0
  · subst e
    cases hb
    rw [List.append_nil] at q
    exact q _ _ (Ex.refl H1) hv0
theorem ed_catS {a b : Str} (ha : EvD K ta σ H (.str a)) (hb : EvD K tb σ H (.str b)) (hz : a.length + b.length ≤ 100000) : EvD K (tOp (rAddX K) ta tb) σ H (.str (a ++ b)) := ed_op ha hb fun H1 _ v w hv hw Q q =>
  .inr (.inr (.inr ⟨a, b, dp_str hv, dp_str hw, sz_of hz, q _ _ (Ex.refl H1) (.str _)⟩))
theorem ed_repL {k : Int} (ha : EvD K ta σ H (.list ds)) (hb : EvD K tb σ H (.int k)) (h1 : -1000000 ≤ k ∧ k ≤ 1000000) (hz : ds.length * k.toNat ≤ 100000) : EvD K (tOp (rMulX K) ta tb) σ H (.list (List.replicate k.toNat ds).flatten) := ed_op ha hb fun H1 _ v w hv hw Q q => by
  obtain ⟨a, xs, rfl, hs, ha⟩ := dp_lst hv
  exact .inr (.inl ⟨a, k, xs, rfl, dp_int hw, hs, by omega, by omega, sz_of (by rw [dpa_len ha]; exact hz), fun p hp => q _ _ (Ex.new hp) (.lst (sq_of upd_same) (dpa_ex (Ex.new hp) (dpa_rep ha _)))⟩)
theorem ed_repT {k : Int} (ha : EvD K ta σ H (.tuple ds)) (hb : EvD K tb σ H (.int k)) (hn : ds ≠ []) (h1 : 1 ≤ k) (hz : ds.length * k.toNat ≤ 100000) : EvD K (tOp (rMulX K) ta tb) σ H (.tuple (List.replicate k.toNat ds).flatten) := ed_op ha hb fun H1 _ v w hv hw Q q => by
  have hv0 := hv
  obtain ⟨a, xs, rfl, hs, ha⟩ := dp_tup hv
  refine .inr (.inr ⟨a, k, xs, rfl, dp_int hw, hs, fun e => hn ?_, h1, by rw [dpa_len ha]; omega, fun e => ?_, fun _ p hp => q _ _ (Ex.new hp) (.tup (st_of upd_same) (dpa_ex (Ex.new hp) (dpa_rep ha _)))⟩)
  · subst e; cases ha; rfl
  · subst e
    have e1 : (List.replicate (1 : Int).toNat ds).flatten = ds := by simp
    rw [e1] at q
    exact q _ _ (Ex.refl H1) hv0
theorem rdc_len {n : Nat} (h : ds = [.list es] ∨ ds = [.tuple es]) (hn : es.length = n) : RDC K (fun xs H Q => ∃ x n, xs = [x] ∧ LenV K x H n ∧ Q (.int n) H) H ds (.int n) := fun H1 _ vs hv Q q => by
  subst hn
  rcases h with h | h
  · subst h
    obtain ⟨x, r, rfl, hx, hr⟩ := dpa_cons hv
    cases dpa_nil hr
    obtain ⟨a, xs, rfl, hs, ha⟩ := dp_lst hx
    exact ⟨_, _, rfl, .inl ⟨xs, hs, rfl⟩, q _ _ (Ex.refl H1) (by rw [dpa_len ha]; exact .int _)⟩
  · subst h
    obtain ⟨x, r, rfl, hx, hr⟩ := dpa_cons hv
    cases dpa_nil hr
    obtain ⟨a, xs, rfl, hs, ha⟩ := dp_tup hx
    exact ⟨_, _, rfl, .inr ⟨xs, hs, rfl⟩, q _ _ (Ex.refl H1) (by rw [dpa_len ha]; exact .int _)⟩
theorem ed_lenL (ha : EvD K ta σ H (.list es)) : EvD K (tCB (fun xs H Q => ∃ x n, xs = [x] ∧ LenV K x H n ∧ Q (.int n) H) (tCons ta tNil)) σ H (.int es.length) := ed_cb (eds_cons ha eds_nil) (rdc_len (.inl rfl) rfl)
theorem ed_lenT (ha : EvD K ta σ H (.tuple es)) : EvD K (tCB (fun xs H Q => ∃ x n, xs = [x] ∧ LenV K x H n ∧ Q (.int n) H) (tCons ta tNil)) σ H (.int es.length) := ed_cb (eds_cons ha eds_nil) (rdc_len (.inr rfl) rfl)
theorem ed_lenS {a : Str} (ha : EvD K ta σ H (.str a)) (hz : a.length ≤ 100000) : EvD K (tCB (fun xs H Q => ∃ x n, xs = [x] ∧ LenV K x H n ∧ Q (.int n) H) (tCons ta tNil)) σ H (.int a.length) := ed_cb (eds_cons ha eds_nil) fun H1 _ vs hv Q q => by
  obtain ⟨x, r, rfl, hx, hr⟩ := dpa_cons hv
  cases dpa_nil hr
  rw [dp_str hx]
  exact ⟨_, _, rfl, ⟨sz_of hz, rfl⟩, q _ _ (Ex.refl H1) (.int _)⟩
abbrev rListOf (K : PySem.W.Frag) : List V → Hp → VK → Prop := fun xs H Q => ∃ p ys, xs = [.ref p] ∧ (SqL K H p ys ∨ SqT K H p ys) ∧ ∀ l, H l = none → Q (.ref l) (upd H l (.lst ys))
abbrev rTupleOf (K : PySem.W.Frag) : List V → Hp → VK → Prop := fun xs H Q => ∃ p ys, xs = [.ref p] ∧ ((SqL K H p ys ∧ ∀ l, H l = none → Q (.ref l) (upd H l (.tup ys))) ∨ (SqT K H p ys ∧ Q (.ref p) H))
theorem ed_listL (ha : EvD K ta σ H (.list es)) : EvD K (tCB (rListOf K) (tCons ta tNil)) σ H (.list es) := ed_cb (eds_cons ha eds_nil) fun H1 _ vs hv Q q => by
  obtain ⟨x, r, rfl, hx, hr⟩ := dpa_cons hv
  cases dpa_nil hr
  obtain ⟨a, xs, rfl, hs, ha⟩ := dp_lst hx
  exact ⟨_, _, rfl, .inl hs, fun p hp => q _ _ (Ex.new hp) (.lst (sq_of upd_same) (dpa_ex (Ex.new hp) ha))⟩
theorem ed_listT (ha : EvD K ta σ H (.tuple es)) : EvD K (tCB (rListOf K) (tCons ta tNil)) σ H (.list es) := ed_cb (eds_cons ha eds_nil) fun H1 _ vs hv Q q => by
  obtain ⟨x, r, rfl, hx, hr⟩ := dpa_cons hv
  cases dpa_nil hr
  obtain ⟨a, xs, rfl, hs, ha⟩ := dp_tup hx
  exact ⟨_, _, rfl, .inr hs, fun p hp => q _ _ (Ex.new hp) (.lst (sq_of upd_same) (dpa_ex (Ex.new hp) ha))⟩
theorem ed_tupL (ha : EvD K ta σ H (.list es)) : EvD K (tCB (rTupleOf K) (tCons ta tNil)) σ H (.tuple es) := ed_cb (eds_cons ha eds_nil) fun H1 _ vs hv Q q => by
  obtain ⟨x, r, rfl, hx, hr⟩ := dpa_cons hv
  cases dpa_nil hr
  obtain ⟨a, xs, rfl, hs, ha⟩ := dp_lst hx
  exact ⟨_, _, rfl, .inl ⟨hs, fun p hp => q _ _ (Ex.new hp) (.tup (st_of upd_same) (dpa_ex (Ex.new hp) ha))⟩⟩
theorem ed_tupT (ha : EvD K ta σ H (.tuple es)) : EvD K (tCB (rTupleOf K) (tCons ta tNil)) σ H (.tuple es) := ed_cb (eds_cons ha eds_nil) fun H1 _ vs hv Q q => by
  obtain ⟨x, r, rfl, hx, hr⟩ := dpa_cons hv
  cases dpa_nil hr
  have hx0 := hx
  obtain ⟨a, xs, rfl, hs, ha⟩ := dp_tup hx
  exact ⟨_, _, rfl, .inr ⟨hs, q _ _ (Ex.refl H1) hx0⟩⟩
abbrev rMax2' : List V → Hp → VK → Prop := fun xs H Q => ∃ i j, xs = [.int i, .int j] ∧ Q (.int (if j > i then j else i)) H
abbrev rMin2' : List V → Hp → VK → Prop := fun xs H Q => ∃ i j, xs = [.int i, .int j] ∧ Q (.int (if j < i then j else i)) H
abbrev rInt1 : List V → Hp → VK → Prop := fun xs H Q => (∃ i, xs = [.int i] ∧ Q (.int i) H) ∨ ∃ k, xs = [.bl k] ∧ Q (.int (if k then 1 else 0)) H
theorem ed_max2 {i j : Int} (ha : EvD K ta σ H (.int i)) (hb : EvD K tb σ H (.int j)) : EvD K (tCB rMax2' (tCons ta (tCons tb tNil))) σ H (.int (max i j)) := ed_cb (eds_cons ha (eds_cons hb eds_nil)) fun H1 _ vs hv Q q => by
  obtain ⟨x, r, rfl, hx, hr⟩ := dpa_cons hv
  obtain ⟨y, r, rfl, hy, hr⟩ := dpa_cons hr
  cases dpa_nil hr
  rw [dp_int hx, dp_int hy]
  refine ⟨i, j, rfl, q _ _ (Ex.refl H1) ?_⟩
  rw [show (if j > i then j else i) = max i j by rw [Int.max_def]; split <;> split <;> omega]
  exact .int _
theorem ed_min2 {i j : Int} (ha : EvD K ta σ H (.int i)) (hb : EvD K tb σ H (.int j)) : EvD K (tCB rMin2' (tCons ta (tCons tb tNil))) σ H (.int (min i j)) := ed_cb (eds_cons ha (eds_cons hb eds_nil)) fun H1 _ vs hv Q q => by
  obtain ⟨x, r, rfl, hx, hr⟩ := dpa_cons hv
  obtain ⟨y, r, rfl, hy, hr⟩ := dpa_cons hr
  cases dpa_nil hr
  rw [dp_int hx, dp_int hy]
  refine ⟨i, j, rfl, q _ _ (Ex.refl H1) ?_⟩
  rw [show (if j < i then j else i) = min i j by rw [Int.min_def]; split <;> split <;> omega]
  exact .int _
theorem ed_intI {i : Int} (ha : EvD K ta σ H (.int i)) : EvD K (tCB rInt1 (tCons ta tNil)) σ H (.int i) := ed_cb (eds_cons ha eds_nil) fun H1 _ vs hv Q q => by
  obtain ⟨x, r, rfl, hx, hr⟩ := dpa_cons hv
  cases dpa_nil hr
  rw [dp_int hx]
  exact .inl ⟨i, rfl, q _ _ (Ex.refl H1) (.int _)⟩
/-- a truth as a number -/
def bI (b : Bool) : Int := if b then 1 else 0
theorem ed_intB {b : Bool} (ha : EvD K ta σ H (.bool b)) : EvD K (tCB rInt1 (tCons ta tNil)) σ H (.int (bI b)) := ed_cb (eds_cons ha eds_nil) fun H1 _ vs hv Q q => by
  obtain ⟨x, r, rfl, hx, hr⟩ := dpa_cons hv
  cases dpa_nil hr
  rw [dp_bl hx]
  exact .inr ⟨b, rfl, q _ _ (Ex.refl H1) (.int _)⟩
/-! isinstance -/
theorem tyx_of (h : Dp K H v d) : TyX K H v (.type (tyD d)) := by
  cases h with
  | non => exact .base .non
  | bl b => exact .base (.bl _)
  | int i => exact .base (.int _)
  | str x => exact .base (.str _)
  | lst h a =>
    rcases h with (h | ⟨o, h⟩) | ⟨o, its, n, hk, hc, _⟩
    · exact .base (.lst h)
    · exact .base (.frz h)
    · exact .kList hk hc
  | tup h a =>
    rcases h with (h | ⟨o, h⟩) | ⟨o, its, n, hk, hc, _⟩
    · exact .base (.tup h)
    · exact .fTuple h
    · exact .kTuple hk hc
theorem ed_isi {n : String} {b : Bool} (ha : EvD K ta σ H d) (h : kitB (tyD d) n = some b) :
    EvD K (tCB (rIsi K) (tCons ta (tCons (tC (.ty n)) tNil))) σ H (.bool b) := fun H1 x Q z =>
  ha H1 x _ fun v H2 x2 hv => ⟨v, .ty n, _, _, b, rfl, .ty n, tyx_of hv, kit_ty h, z _ H2 x2 (.bl _)⟩
def isInt : PD → Bool | .int _ => true | .bool _ => true | _ => false
def isBool : PD → Bool | .bool _ => true | _ => false
def isTup : PD → Bool | .tuple _ => true | _ => false
def isLst : PD → Bool | .list _ => true | _ => false
def isStr : PD → Bool | .str _ => true | _ => false
def isDct : PD → Bool | .dict _ => true | _ => false
theorem ed_isInt (ha : EvD K ta σ H d) : EvD K (tCB (rIsi K) (tCons ta (tCons (tC (.ty "int")) tNil))) σ H (.bool (isInt d)) := ed_isi ha (by cases d <;> (simp only [tyD, isInt, isBool, isTup, isLst, isStr]; decide +kernel))
theorem ed_isBool (ha : EvD K ta σ H d) : EvD K (tCB (rIsi K) (tCons ta (tCons (tC (.ty "bool")) tNil))) σ H (.bool (isBool d)) := ed_isi ha (by cases d <;> (simp only [tyD, isInt, isBool, isTup, isLst, isStr]; decide +kernel))
theorem ed_isTup (ha : EvD K ta σ H d) : EvD K (tCB (rIsi K) (tCons ta (tCons (tC (.ty "tuple")) tNil))) σ H (.bool (isTup d)) := ed_isi ha (by cases d <;> (simp only [tyD, isInt, isBool, isTup, isLst, isStr]; decide +kernel))
theorem ed_isLst (ha : EvD K ta σ H d) : EvD K (tCB (rIsi K) (tCons ta (tCons (tC (.ty "list")) tNil))) σ H (.bool (isLst d)) := ed_isi ha (by cases d <;> (simp only [tyD, isInt, isBool, isTup, isLst, isStr]; decide +kernel))
theorem ed_isStr (ha : EvD K ta σ H d) : EvD K (tCB (rIsi K) (tCons ta (tCons (tC (.ty "str")) tNil))) σ H (.bool (isStr d)) := ed_isi ha (by cases d <;> (simp only [tyD, isInt, isBool, isTup, isLst, isStr]; decide +kernel))
end
end Pb

namespace Pb
open PySem PySem.Spec PyProof.Rows L2 Evn
variable [Evn.Tbs]

/-! ### what is walked, by data -/
/-- n turns, the i-th gives item i; what is walked may be new (J: it stood at H) -/
def EvI (K : PySem.W.Frag) (wi : TI) (σ : L2.St) (H : Hp) (n : Nat) (item : Nat → PD) : Prop := ∀ H1, Ex H H1 → ∀ R : It → Hp → Prop,
  (∀ (J : It) (H2 : Hp) (G : Hp → Prop) (Y : Nat → Hp → V → Hp → Prop), Ex H1 H2 → L2.Walk J n G Y → (∀ H3, Ex H2 H3 → G H3) → (∀ i Hx x Hy, i < n → Ex H2 Hx → Y i Hx x Hy → Ex Hx Hy ∧ Dp K Hy x (item i)) → R J H2) → wi σ H1 R
def EvJ (K : PySem.W.Frag) (wi : TI) (σ : L2.St) (H : Hp) (n : Nat) (item : Nat → PD) : Prop := ∀ H1, Ex H H1 → ∀ R : It → Hp → Prop,
  (∀ (J : It) (H2 : Hp) (G : Hp → Prop) (Y : Nat → Hp → V → Hp → Prop), Ex H1 H2 → L2.Walk J n G Y → (∀ H3, Ex H H3 → G H3) → (∀ i Hx x Hy, i < n → Ex H Hx → Y i Hx x Hy → Ex Hx Hy ∧ Dp K Hy x (item i)) → R J H2) → wi σ H1 R
section
variable {K : PySem.W.Frag} {σ : L2.St} {H H' : Hp} {ta tb tc te tl : TE} {t u : TT} {v : V} {d e f : PD} {ds es : List PD} {r : R2} {ar : TA} {n : Nat} {item : Nat → PD} {wi wj : TI}
theorem EvJ.i (h : EvJ K wi σ H n item) : EvI K wi σ H n item := fun H1 x R q => h H1 x R fun J H2 G Y x2 w g y => q J H2 G Y x2 w (fun H3 x3 => g H3 ((x.trans x2).trans x3)) fun i Hx z Hy hi x3 yy => y i Hx z Hy hi ((x.trans x2).trans x3) yy
theorem EvI.ex (x : Ex H H') (h : EvI K wi σ H n item) : EvI K wi σ H' n item := fun H1 a R q => h H1 (x.trans a) R q
theorem EvI.to {item' : Nat → PD} {m : Nat} (h : EvI K wi σ H n item) (e1 : n = m) (e2 : ∀ i, i < n → item i = item' i) : EvI K wi σ H m item' := by
  subst e1
  exact fun H1 x R q => h H1 x R fun J H2 G Y x2 w g y => q J H2 G Y x2 w g fun i Hx z Hy hi x3 yy => by
    rw [← e2 i hi]
    exact y i Hx z Hy hi x3 yy
theorem EvJ.to {item' : Nat → PD} {m : Nat} (h : EvJ K wi σ H n item) (e1 : n = m) (e2 : ∀ i, i < n → item i = item' i) : EvJ K wi σ H m item' := by
  subst e1
  exact fun H1 x R q => h H1 x R fun J H2 G Y x2 w g y => q J H2 G Y x2 w g fun i Hx z Hy hi x3 yy => by
    rw [← e2 i hi]
    exact y i Hx z Hy hi x3 yy
theorem yat_dp {a : Addr} {xs : List V} (ha : DpAll K H xs ds) {i : Nat} {Hx Hy : Hp} {x : V} (hi : i < xs.length) (x2 : Ex H Hx) (y : YAt xs i Hx x Hy) : Ex Hx Hy ∧ Dp K Hy x (ds.getD i .none) := by
  obtain ⟨e, hx⟩ := y
  subst e
  obtain ⟨d, hd, h⟩ := dpa_get ha hx
  refine ⟨Ex.refl _, ?_⟩
  rw [List.getD_eq_getElem?_getD, hd]
  exact dp_ex x2 h
theorem ei_list (h : EvD K tl σ H (.list ds)) : EvI K (iList K tl) σ H ds.length (fun i => ds.getD i .none) := fun H1 x R q => h H1 x _ fun v H2 x2 hv => by
  obtain ⟨a, xs, rfl, hs, ha⟩ := dp_lst hv
  refine ⟨a, rfl, ⟨xs, hs⟩, q (Itl K a) H2 _ _ x2 (dpa_len ha ▸ walk_list (xs := xs)) (fun H3 x3 => ex_l x3 hs) fun i Hx z Hy hi x3 y => yat_dp (a := a) ha (by rw [dpa_len ha]; exact hi) x3 y⟩
theorem ei_tup (h : EvD K tl σ H (.tuple ds)) : EvI K (iTup K tl) σ H ds.length (fun i => ds.getD i .none) := fun H1 x R q => h H1 x _ fun v H2 x2 hv => by
  obtain ⟨a, xs, rfl, hs, ha⟩ := dp_tup hv
  refine ⟨a, rfl, ⟨xs, hs⟩, q (Itt K a) H2 _ _ x2 (dpa_len ha ▸ walk_tup (xs := xs)) (fun H3 x3 => ex_t x3 hs) fun i Hx z Hy hi x3 y => yat_dp (a := a) ha (by rw [dpa_len ha]; exact hi) x3 y⟩
theorem ej_list {i : Nat} (hv : σ[i]? = some (some v)) (h : Dp K H v (.list ds)) : EvJ K (iList K (tVar i)) σ H ds.length (fun i => ds.getD i .none) := fun H1 x R q => by
  obtain ⟨a, xs, rfl, hs, ha⟩ := dp_lst h
  refine ⟨_, hv, a, rfl, ⟨xs, ex_l x hs⟩, q (Itl K a) H1 _ _ (Ex.refl H1) (dpa_len ha ▸ walk_list (xs := xs)) (fun H3 x3 => ex_l x3 hs) fun i Hx z Hy hi x3 y => yat_dp (a := a) ha (by rw [dpa_len ha]; exact hi) x3 y⟩
theorem ej_tup {i : Nat} (hv : σ[i]? = some (some v)) (h : Dp K H v (.tuple ds)) : EvJ K (iTup K (tVar i)) σ H ds.length (fun i => ds.getD i .none) := fun H1 x R q => by
  obtain ⟨a, xs, rfl, hs, ha⟩ := dp_tup h
  refine ⟨_, hv, a, rfl, ⟨xs, ex_t x hs⟩, q (Itt K a) H1 _ _ (Ex.refl H1) (dpa_len ha ▸ walk_tup (xs := xs)) (fun H3 x3 => ex_t x3 hs) fun i Hx z Hy hi x3 y => yat_dp (a := a) ha (by rw [dpa_len ha]; exact hi) x3 y⟩
theorem ej_rng1 {j : Int} (h : EvDs K ar σ H [.int j]) (hj : -1000000 ≤ j ∧ j ≤ 1000000) : EvJ K (iRng1 ar) σ H j.toNat (fun i => .int i) := fun H1 x R q => h H1 x _ fun vs H2 x2 hv => by
  obtain ⟨y, r, rfl, hy, hr⟩ := dpa_cons hv
  cases dpa_nil hr
  rw [dp_int hy]
  refine ⟨j, rfl, by omega, by omega, q _ H2 _ _ x2 walk_range (fun _ _ => trivial) fun i Hx z Hy hi _ yy => ?_⟩
  obtain ⟨e1, e2⟩ := yy
  subst e1 e2
  refine ⟨Ex.refl _, ?_⟩
  show Dp K _ (V.int (0 + (i : Int))) (.int (i : Int))
  rw [Int.zero_add]
  exact .int _
theorem ej_rng2 {i j : Int} (h : EvDs K ar σ H [.int i, .int j]) (hj : (-1000000 ≤ i ∧ i ≤ 1000000) ∧ -1000000 ≤ j ∧ j ≤ 1000000) : EvJ K (iRng2 ar) σ H (j - i).toNat (fun k => .int (i + k)) := fun H1 x R q => h H1 x _ fun vs H2 x2 hv => by
  obtain ⟨y, r, rfl, hy, hr⟩ := dpa_cons hv
  obtain ⟨z, r, rfl, hz, hr⟩ := dpa_cons hr
  cases dpa_nil hr
  rw [dp_int hy, dp_int hz]
  refine ⟨i, j, rfl, ⟨by omega, by omega, by omega, by omega⟩, q _ H2 _ _ x2 walk_range (fun _ _ => trivial) fun i Hx z Hy hi _ yy => ?_⟩
  obtain ⟨e1, e2⟩ := yy
  subst e1 e2
  exact ⟨Ex.refl _, .int _⟩
/-- one of two -/
def iOr (wi wj : TI) : TI := fun σ H R => wi σ H R ∨ wj σ H R
theorem pi_or {X : Cx} {tg it : Expr} (h : PI X tg it wi) (h' : PI X tg it wj) : PI X tg it (iOr wi wj) := ⟨fun pins s σ H R I q => q.elim (fun q => h.run pins s σ H R I q) fun q => h'.run pins s σ H R I q⟩
theorem EvI.ol (h : EvI K wi σ H n item) : EvI K (iOr wi wj) σ H n item := fun H1 x R q => .inl (h H1 x R q)
theorem EvI.or (h : EvI K wi σ H n item) : EvI K (iOr wj wi) σ H n item := fun H1 x R q => .inr (h H1 x R q)
theorem EvJ.ol (h : EvJ K wi σ H n item) : EvJ K (iOr wi wj) σ H n item := fun H1 x R q => .inl (h H1 x R q)
theorem EvJ.or (h : EvJ K wi σ H n item) : EvJ K (iOr wj wi) σ H n item := fun H1 x R q => .inr (h H1 x R q)
/-- a list, a tuple, a text -/
abbrev iSeq (K : PySem.W.Frag) (tl : TE) : TI := iOr (iList K tl) (iOr (iTup K tl) (iStr tl))
theorem pi_seq {X : Cx} {tg it : Expr} (h : PE X it tl) : PI X tg it (iSeq X.K tl) := pi_or (pi_list h) (pi_or (pi_tup h) (pi_str h))
theorem ei_str {z : Str} (h : EvD K tl σ H (.str z)) : EvI K (iStr tl) σ H z.cps.size (fun i => .str ⟨#[z.cps.toList.getD i 0]⟩) := fun H1 x R q => h H1 x _ fun v H2 x2 hv => by
  rw [dp_str hv]
  refine ⟨z, rfl, q _ H2 _ _ x2 walk_str (fun _ _ => trivial) fun i Hx y Hy hi _ yy => ?_⟩
  obtain ⟨e1, c, hc, e2⟩ := yy
  subst e1 e2
  refine ⟨Ex.refl _, ?_⟩
  have e3 : z.cps.toList.getD i 0 = c := by
    rw [List.getD_eq_getElem?_getD, Array.getElem?_toList, hc]; rfl
  show Dp K _ (V.str ⟨#[c]⟩) (.str ⟨#[z.cps.toList.getD i 0]⟩)
  rw [e3]
  exact .str _
/-! targets -/
/-- storing x by g takes the slots from σ to σ2, whatever the heap; the heap stays -/
def Tg (g : TG) (K : PySem.W.Frag) (x : V) (σ : L2.St) (H : Hp) (σ2 : L2.St) : Prop := ∀ Q : L2.St → Hp → Prop, Q σ2 H → g x σ H Q
theorem tg_name {i : Nat} {x : V} : Tg (gName i) K x σ H (σ.set i (some x)) := fun _ q => q
theorem tg_two {i j : Nat} {x : V} {d e : PD} (h : Dp K H x (.tuple [d, e])) : ∃ a b, Dp K H a d ∧ Dp K H b e ∧ Tg (gTup K 2 (gCons (gName i) (gCons (gName j) gNil))) K x σ H ((σ.set i (some a)).set j (some b)) := by
  obtain ⟨p, xs, rfl, hs, ha⟩ := dp_tup h
  obtain ⟨a, r, rfl, h1, hr⟩ := dpa_cons ha
  obtain ⟨b, r, rfl, h2, hr⟩ := dpa_cons hr
  cases dpa_nil hr
  exact ⟨a, b, h1, h2, fun Q q => ⟨p, [a, b], rfl, hs, rfl, a, [b], rfl, b, [], rfl, rfl, q⟩⟩
theorem tg_three {i j k : Nat} {x : V} {d e f : PD} (h : Dp K H x (.tuple [d, e, f])) : ∃ a b c, Dp K H a d ∧ Dp K H b e ∧ Dp K H c f ∧ Tg (gTup K 3 (gCons (gName i) (gCons (gName j) (gCons (gName k) gNil)))) K x σ H (((σ.set i (some a)).set j (some b)).set k (some c)) := by
  obtain ⟨p, xs, rfl, hs, ha⟩ := dp_tup h
  obtain ⟨a, r, rfl, h1, hr⟩ := dpa_cons ha
  obtain ⟨b, r, rfl, h2, hr⟩ := dpa_cons hr
  obtain ⟨c, r, rfl, h3, hr⟩ := dpa_cons hr
  cases dpa_nil hr
  exact ⟨a, b, c, h1, h2, h3, fun Q q => ⟨p, [a, b, c], rfl, hs, rfl, a, [b, c], rfl, b, [c], rfl, c, [], rfl, rfl, q⟩⟩
/-! comprehensions -/
/-- what a comprehension gives -/
def gv {α : Type} (n : Nat) (f : Nat → Bool) (d : Nat → α) : List α := ((List.range n).filter f).map d
theorem gv_yes {α : Type} {n : Nat} {f : Nat → Bool} {d : Nat → α} (h : f n = true) : gv (n + 1) f d = gv n f d ++ [d n] := by
  unfold gv
  rw [List.range_succ, List.filter_append, List.map_append, List.filter_cons, if_pos h] <;> rfl
theorem gv_no {α : Type} {n : Nat} {f : Nat → Bool} {d : Nat → α} (h : f n = false) : gv (n + 1) f d = gv n f d := by
  unfold gv
  rw [List.range_succ, List.filter_append, List.map_append, List.filter_cons, if_neg (by rw [h]; decide)]
  show _ ++ [] = _
  rw [List.append_nil]
theorem gv_len {α : Type} (n : Nat) (f : Nat → Bool) (d : Nat → α) : (gv n f d).length ≤ n := by
  unfold gv
  rw [List.length_map]
  have h := List.length_filter_le f (List.range n)
  rw [List.length_range] at h
  exact h
theorem noLs_gv {f : Nat → Bool} {d : Nat → PD} : ∀ {n : Nat}, (∀ i, i < n → f i = true → noL (d i) = true) → noLs (gv n f d) = true
  | 0, _ => rfl
  | n + 1, h => by
    have ih := noLs_gv (f := f) (d := d) (n := n) fun i hi => h i (Nat.lt_succ_of_lt hi)
    cases hf : f n with
    | false => rw [gv_no hf]; exact ih
    | true =>
      rw [gv_yes hf]
      have h1 := h n (Nat.lt_succ_self n) hf
      have app : ∀ (l : List PD) (x : PD), noLs l = true → noL x = true → noLs (l ++ [x]) = true := by
        intro l x
        induction l with
        | nil => intro _ hx; simp [noLs, hx]
        | cons y l ihl =>
          intro hl hx
          have hl' : noL y = true ∧ noLs l = true := by simpa [noLs] using hl
          rw [List.cons_append, noLs, hl'.1, ihl hl'.2 hx]; rfl
      exact app _ _ ih h1
/-- a new list -/
def EvN (K : PySem.W.Frag) (te : TE) (σ : L2.St) (H : Hp) (ds : List PD) : Prop := ∀ H1, Ex H H1 → ∀ Q : VK, (∀ p H2 xs, H1 p = none → Ex H1 H2 → H2 p = some (.lst xs) → DpAll K H2 xs ds → Q (.ref p) H2) → te σ H1 Q
theorem EvN.toD (h : EvN K te σ H ds) : EvD K te σ H (.list ds) := fun H1 x Q q => h H1 x Q fun p H2 xs _ x2 e ha => q _ H2 x2 (.lst (sq_of e) ha)
theorem EvN.to (h : EvN K te σ H ds) (e : ds = es) : EvN K te σ H es := e ▸ h
theorem EvN.ex (x : Ex H H') (h : EvN K te σ H ds) : EvN K te σ H' ds := fun H1 a Q q => h H1 (x.trans a) Q q
theorem en_lc {g : TG} {tt : TT} {vs : List Nat} (f : Nat → Bool) (d : Nat → PD) (hi : EvI K wi σ H n item) (hz : n ≤ 90000) (hL : ∀ i, i < n → f i = true → noL (d i) = true)
    (hg : ∀ i x H1, i < n → Ex H H1 → Dp K H1 x (item i) → ∃ σ2, Tg g K x (wipe σ vs) H1 σ2 ∧ wipe σ2 vs = wipe σ vs ∧ EvT tt σ2 H1 (f i) ∧ (f i = true → EvD K te σ2 H1 (d i))) : EvN K (tLc wi g tt te vs) σ H (gv n f d) := fun H1 x Q q =>
  hi H1 x _ fun J H2 G Y x2 w hG hY Dl hD => lc_it w (fun i H' => Ex H2 H' ∧ ∃ xs, H' Dl = some (.lst xs) ∧ DpAll K H' xs (gv i f d)) ⟨Ex.new hD, [], upd_same, .nil⟩ (fun i H' _ p => hG H' p.1) (fun i z Ha Hb hi ⟨p1, xs, p2, p3⟩ yy => by
      obtain ⟨y1, y2⟩ := hY i Ha z Hb hi p1 yy
      obtain ⟨σ2, t1, t2, t3, t4⟩ := hg i z Hb hi ((x.trans x2).trans (p1.trans y1)) y2
      refine t1 _ ⟨t2, t3 Hb (Ex.refl Hb) _ fun H3 x3 => ?_⟩
      cases hf : f i with
      | false =>
        show Ex H2 H3 ∧ _
        refine ⟨(p1.trans y1).trans x3, xs, (y1.trans x3) _ _ p2, ?_⟩
        rw [gv_no hf]
        exact dpa_ex (y1.trans x3) p3
      | true =>
        show te σ2 H3 _
        refine t4 hf H3 x3 _ fun v H4 x4 hv => ?_
        have e4 := ((y1.trans x3).trans x4) _ _ p2
        have hl := dpa_len p3
        have hgl := gv_len i f d
        refine ⟨xs, e4, sz_lt (by omega), Ex.mut (((p1.trans y1).trans x3).trans x4) hD e4, xs ++ [v], upd_same, ?_⟩
        rw [gv_yes hf]
        exact dpa_append (dpa_upd e4 (dpa_ex ((y1.trans x3).trans x4) p3) (noLs_gv fun k hk => hL k (by omega))) (.cons (dp_upd e4 hv (hL i hi hf)) .nil))
    (fun H' ⟨p1, xs, p2, p3⟩ => q Dl H' xs (fresh_back x2 hD) (x2.trans p1) p2 p3)
/-- the target a name, no test -/
theorem en_lc1 {j : Nat} {vs : List Nat} (d : Nat → PD) (hi : EvI K wi σ H n item) (hz : n ≤ 90000) (hL : ∀ i, i < n → noL (d i) = true) (hw : ∀ x, wipe ((wipe σ vs).set j (some x)) vs = wipe σ vs)
    (he : ∀ i x H1, i < n → Ex H H1 → Dp K H1 x (item i) → EvD K te ((wipe σ vs).set j (some x)) H1 (d i)) : EvN K (tLc wi (gName j) tYes te vs) σ H ((List.range n).map d) := by
  have h := en_lc (K := K) (σ := σ) (g := gName j) (tt := tYes) (vs := vs) (te := te) (fun _ => true) d hi hz (fun i hi _ => hL i hi) fun i x H1 hi x1 hx => ⟨_, tg_name, hw x, fun H2 _ Q q => q H2 (Ex.refl H2), fun _ => he i x H1 hi x1 hx⟩
  have e : gv n (fun _ => true) d = (List.range n).map d := by unfold gv; rw [show (List.range n).filter (fun _ => true) = List.range n from List.filter_eq_self.mpr fun _ _ => rfl]
  rw [e] at h
  exact h
/-- .. with a test -/
theorem en_lc2 {j : Nat} {vs : List Nat} {tt : TT} (f : Nat → Bool) (d : Nat → PD) (hi : EvI K wi σ H n item) (hz : n ≤ 90000) (hL : ∀ i, i < n → f i = true → noL (d i) = true) (hw : ∀ x, wipe ((wipe σ vs).set j (some x)) vs = wipe σ vs)
    (ht : ∀ i x H1, i < n → Ex H H1 → Dp K H1 x (item i) → EvT tt ((wipe σ vs).set j (some x)) H1 (f i))
    (he : ∀ i x H1, i < n → Ex H H1 → Dp K H1 x (item i) → f i = true → EvD K te ((wipe σ vs).set j (some x)) H1 (d i)) : EvN K (tLc wi (gName j) tt te vs) σ H (gv n f d) :=
  en_lc f d hi hz hL fun i x H1 hi x1 hx => ⟨_, tg_name, hw x, ht i x H1 hi x1 hx, he i x H1 hi x1 hx⟩
theorem en_lst (h : EvDs K ar σ H ds) (hl : ds.length ≤ 100000) : EvN K (tLst ar) σ H ds := fun H1 x _ q =>
  h H1 x _ fun vs H2 x2 hv => ⟨sz_of (by rw [dpa_len hv]; exact hl), fun p hp => q _ _ _ (fresh_back x2 hp) (x2.trans (Ex.new hp)) upd_same (dpa_ex (Ex.new hp) hv)⟩
theorem en_op {r : R2} (ha : EvD K ta σ H d) (hb : EvD K tb σ H e) (hr : ∀ H1, Ex H H1 → ∀ v w, Dp K H1 v d → Dp K H1 w e → ∀ Q : VK, (∀ p H2 xs, H1 p = none → Ex H1 H2 → H2 p = some (.lst xs) → DpAll K H2 xs ds → Q (.ref p) H2) → r v w H1 Q) : EvN K (tOp r ta tb) σ H ds := fun H1 x Q q =>
  ha H1 x _ fun v H2 x2 hv => hb H2 (x.trans x2) _ fun w H3 x3 hw => hr H3 ((x.trans x2).trans x3) v w (dp_ex x3 hv) hw Q fun p H4 xs hp x4 e4 h4 => q p H4 xs (fresh_back (x2.trans x3) hp) ((x2.trans x3).trans x4) e4 h4
theorem en_catL (ha : EvD K ta σ H (.list ds)) (hb : EvD K tb σ H (.list es)) (hz : ds.length + es.length ≤ 100000) : EvN K (tOp (rAddX K) ta tb) σ H (ds ++ es) := en_op ha hb fun H1 _ v w hv hw Q q => by
  obtain ⟨a, xs, rfl, hs, ha⟩ := dp_lst hv
  obtain ⟨b, ys, rfl, hs2, hb⟩ := dp_lst hw
  exact .inr (.inl ⟨a, b, xs, ys, rfl, rfl, hs, hs2, sz_of (by rw [dpa_len ha, dpa_len hb]; exact hz), fun p hp => q _ _ _ hp (Ex.new hp) upd_same (dpa_ex (Ex.new hp) (dpa_append ha hb))⟩)
theorem en_repL {k : Int} (ha : EvD K ta σ H (.list ds)) (hb : EvD K tb σ H (.int k)) (h1 : -1000000 ≤ k ∧ k ≤ 1000000) (hz : ds.length * k.toNat ≤ 100000) : EvN K (tOp (rMulX K) ta tb) σ H (List.replicate k.toNat ds).flatten := en_op ha hb fun H1 _ v w hv hw Q q => by
  obtain ⟨a, xs, rfl, hs, ha⟩ := dp_lst hv
  exact .inr (.inl ⟨a, k, xs, rfl, dp_int hw, hs, by omega, by omega, sz_of (by rw [dpa_len ha]; exact hz), fun p hp => q _ _ _ hp (Ex.new hp) upd_same (dpa_ex (Ex.new hp) (dpa_rep ha _))⟩)
theorem en_slL {tl th : TO} {lo hi : Option Int} (h : EvD K te σ H (.list ds)) (h1 : EvO tl σ H lo) (h2 : EvO th σ H hi) : EvN K (tSl (rSlX K) te tl th) σ H (cutD ds lo hi) := fun H1 x Q q =>
  h H1 x _ fun v H2 x2 hv => h1 H2 (x.trans x2) _ fun H3 x3 => h2 H3 ((x.trans x2).trans x3) _ fun H4 x4 => by
    obtain ⟨a, xs, rfl, hs, ha⟩ := dp_lst hv
    exact .inl ⟨a, xs, rfl, ex_l (x3.trans x4) hs, fun p hp => q _ _ _ (fresh_back ((x2.trans x3).trans x4) hp) (((x2.trans x3).trans x4).trans (Ex.new hp)) upd_same (cutV_dpa (dpa_ex ((x3.trans x4).trans (Ex.new hp)) ha) lo hi)⟩
theorem en_listOf (h : EvD K ta σ H (.list es) ∨ EvD K ta σ H (.tuple es)) : EvN K (tCB (rListOf K) (tCons ta tNil)) σ H es := fun H1 x Q q => by
  rcases h with h | h
  · refine h H1 x _ fun v H2 x2 hv => ?_
    obtain ⟨a, xs, rfl, hs, ha⟩ := dp_lst hv
    exact ⟨_, _, rfl, .inl hs, fun p hp => q _ _ _ (fresh_back x2 hp) (x2.trans (Ex.new hp)) upd_same (dpa_ex (Ex.new hp) ha)⟩
  · refine h H1 x _ fun v H2 x2 hv => ?_
    obtain ⟨a, xs, rfl, hs, ha⟩ := dp_tup hv
    exact ⟨_, _, rfl, .inr hs, fun p hp => q _ _ _ (fresh_back x2 hp) (x2.trans (Ex.new hp)) upd_same (dpa_ex (Ex.new hp) ha)⟩
/-! ### statements -/
variable {D : Ends} {tu tw tz : TS} {g : TG}
theorem sd_asg {i : Nat} (h : EvD K te σ H d) (k : ∀ v H1, Ex H H1 → Dp K H1 v d → D.nx (σ.set i (some v)) H1) : tAsg te (gName i) D σ H := h H (Ex.refl H) _ fun v H1 x hv => k v H1 x hv
theorem qd_asg {i : Nat} (h : EvD K te σ H d) (k : ∀ v H1, Ex H H1 → Dp K H1 v d → tz D (σ.set i (some v)) H1) : tSeq (tAsg te (gName i)) tz D σ H := sd_asg (D := { D with nx := tz D }) h k
theorem qd_asgI {i : Nat} {j : Int} (h : EvD K te σ H (.int j)) (k : ∀ H1, Ex H H1 → tz D (σ.set i (some (.int j))) H1) : tSeq (tAsg te (gName i)) tz D σ H := qd_asg h fun v H1 x hv => by rw [dp_int hv]; exact k H1 x
theorem qd_asgB {i : Nat} {j : Bool} (h : EvD K te σ H (.bool j)) (k : ∀ H1, Ex H H1 → tz D (σ.set i (some (.bl j))) H1) : tSeq (tAsg te (gName i)) tz D σ H := qd_asg h fun v H1 x hv => by rw [dp_bl hv]; exact k H1 x
theorem sd_asgI {i : Nat} {j : Int} (h : EvD K te σ H (.int j)) (k : ∀ H1, Ex H H1 → D.nx (σ.set i (some (.int j))) H1) : tAsg te (gName i) D σ H := sd_asg h fun v H1 x hv => by rw [dp_int hv]; exact k H1 x
theorem sd_asgN {i : Nat} (h : EvN K te σ H ds) (k : ∀ p H1 xs, H p = none → Ex H H1 → H1 p = some (.lst xs) → DpAll K H1 xs ds → D.nx (σ.set i (some (.ref p))) H1) : tAsg te (gName i) D σ H := h H (Ex.refl H) _ fun p H1 xs hp x e ha => k p H1 xs hp x e ha
theorem qd_asgN {i : Nat} (h : EvN K te σ H ds) (k : ∀ p H1 xs, H p = none → Ex H H1 → H1 p = some (.lst xs) → DpAll K H1 xs ds → tz D (σ.set i (some (.ref p))) H1) : tSeq (tAsg te (gName i)) tz D σ H := sd_asgN (D := { D with nx := tz D }) h k
theorem qd_two {i j : Nat} {d1 d2 : PD} (h : EvD K te σ H (.tuple [d1, d2])) (k : ∀ a b H1, Ex H H1 → Dp K H1 a d1 → Dp K H1 b d2 → tz D ((σ.set i (some a)).set j (some b)) H1) : tSeq (tAsg te (gTup K 2 (gCons (gName i) (gCons (gName j) gNil)))) tz D σ H := h H (Ex.refl H) _ fun v H1 x hv => by
  obtain ⟨a, b, h1, h2, t⟩ := tg_two (K := K) (σ := σ) (i := i) (j := j) hv
  exact t _ (k a b H1 x h1 h2)
theorem qd_three {i j l : Nat} {d1 d2 d3 : PD} (h : EvD K te σ H (.tuple [d1, d2, d3])) (k : ∀ a b c H1, Ex H H1 → Dp K H1 a d1 → Dp K H1 b d2 → Dp K H1 c d3 → tz D (((σ.set i (some a)).set j (some b)).set l (some c)) H1) : tSeq (tAsg te (gTup K 3 (gCons (gName i) (gCons (gName j) (gCons (gName l) gNil))))) tz D σ H := h H (Ex.refl H) _ fun v H1 x hv => by
  obtain ⟨a, b, c, h1, h2, h3, t⟩ := tg_three (K := K) (σ := σ) (i := i) (j := j) (k := l) hv
  exact t _ (k a b c H1 x h1 h2 h3)
theorem sd_ret (h : EvD K te σ H d) (k : ∀ v H1, Ex H H1 → Dp K H1 v d → D.rt v H1) : tRet te D σ H := h H (Ex.refl H) _ k
theorem qd_ret (h : EvD K te σ H d) (k : ∀ v H1, Ex H H1 → Dp K H1 v d → D.rt v H1) : tSeq (tRet te) tz D σ H := h H (Ex.refl H) _ k
/-- xs.append(e): e no list -/
theorem sd_app {l : Addr} {xs : List V} (hl : H l = some (.lst xs)) (ha : Ev ta σ H (.ref l)) (h : EvD K te σ H d) (hz : xs.length < 100000) (k : ∀ v H1, Ex H H1 → Dp K H1 v d → D.nx σ (upd H1 l (.lst (xs ++ [v])))) :
    tDrop (tBM K "list" rAppend ta (tCons te tNil)) D σ H := ha H (Ex.refl H) _ fun H1 e1 =>
  ⟨Or.inl ⟨rfl, xs, sq_of (e1 l _ hl)⟩, h H1 e1 _ fun v H2 e2 hv => ⟨l, xs, v, rfl, rfl, e2 l _ (e1 l _ hl), sz_lt hz, k v H2 (e1.trans e2) hv⟩⟩
theorem qd_app {l : Addr} {xs : List V} (hl : H l = some (.lst xs)) (ha : Ev ta σ H (.ref l)) (h : EvD K te σ H d) (hz : xs.length < 100000) (k : ∀ v H1, Ex H H1 → Dp K H1 v d → tz D σ (upd H1 l (.lst (xs ++ [v])))) :
    tSeq (tDrop (tBM K "list" rAppend ta (tCons te tNil))) tz D σ H := sd_app (D := { D with nx := tz D }) hl ha h hz k
theorem ev_ref {i : Nat} {v : V} (h : σ[i]? = some (some v)) : Ev (tVar i) σ H v := ev_var h
/-! for -/
theorem s_forJ {Hb : Hp} (hb : Ex Hb H) (hj : EvJ K wi σ Hb n item) (Pv : Nat → L2.St → Hp → Prop) (h0 : ∀ H1, Ex H H1 → Pv 0 σ H1) (hG : ∀ i σ' H', Pv i σ' H' → Ex Hb H')
    (hs : ∀ i x σ' H' Hy, i < n → Pv i σ' H' → Ex H' Hy → Dp K Hy x (item i) → g x σ' Hy fun σ2 H2 => tu { D with nx := Pv (i + 1), ct := Pv (i + 1), bk := D.nx } σ2 H2) (hd : ∀ σ' H', Pv n σ' H' → D.nx σ' H') : tFor wi g tu D σ H :=
  hj H hb _ fun J H2 G Y x2 w hg hy => for_it w Pv (h0 H2 x2) (fun i σ' H' _ p => hg H' (hG i σ' H' p)) (fun i x σ' Ha Hb' hi p yy => by
    obtain ⟨y1, y2⟩ := hy i Ha x Hb' hi (hG i σ' Ha p) yy
    exact hs i x σ' Ha Hb' hi p y1 y2) hd
theorem q_forJ {Hb : Hp} (hb : Ex Hb H) (hj : EvJ K wi σ Hb n item) (Pv : Nat → L2.St → Hp → Prop) (h0 : ∀ H1, Ex H H1 → Pv 0 σ H1) (hG : ∀ i σ' H', Pv i σ' H' → Ex Hb H')
    (hs : ∀ i x σ' H' Hy, i < n → Pv i σ' H' → Ex H' Hy → Dp K Hy x (item i) → g x σ' Hy fun σ2 H2 => tu { D with nx := Pv (i + 1), ct := Pv (i + 1), bk := tz D } σ2 H2) (hd : ∀ σ' H', Pv n σ' H' → tz D σ' H') : tSeq (tFor wi g tu) tz D σ H :=
  s_forJ (D := { D with nx := tz D }) hb hj Pv h0 hG hs hd
theorem s_forI (hj : EvI K wi σ H n item) (Pv : Hp → Nat → L2.St → Hp → Prop) (h0 : ∀ H1, Ex H H1 → Pv H1 0 σ H1) (hG : ∀ H1 i σ' H', Pv H1 i σ' H' → Ex H1 H')
    (hs : ∀ H1 i x σ' H' Hy, i < n → Ex H H1 → Pv H1 i σ' H' → Ex H' Hy → Dp K Hy x (item i) → g x σ' Hy fun σ2 H2 => tu { D with nx := Pv H1 (i + 1), ct := Pv H1 (i + 1), bk := D.nx } σ2 H2) (hd : ∀ H1 σ' H', Ex H H1 → Pv H1 n σ' H' → D.nx σ' H') : tFor wi g tu D σ H :=
  hj H (Ex.refl H) _ fun J H2 G Y x2 w hg hy => for_it w (Pv H2) (h0 H2 x2) (fun i σ' H' _ p => hg H' (hG H2 i σ' H' p)) (fun i x σ' Ha Hb' hi p yy => by
    obtain ⟨y1, y2⟩ := hy i Ha x Hb' hi (hG H2 i σ' Ha p) yy
    exact hs H2 i x σ' Ha Hb' hi x2 p y1 y2) fun σ' H' p => hd H2 σ' H' x2 p
theorem q_forI (hj : EvI K wi σ H n item) (Pv : Hp → Nat → L2.St → Hp → Prop) (h0 : ∀ H1, Ex H H1 → Pv H1 0 σ H1) (hG : ∀ H1 i σ' H', Pv H1 i σ' H' → Ex H1 H')
    (hs : ∀ H1 i x σ' H' Hy, i < n → Ex H H1 → Pv H1 i σ' H' → Ex H' Hy → Dp K Hy x (item i) → g x σ' Hy fun σ2 H2 => tu { D with nx := Pv H1 (i + 1), ct := Pv H1 (i + 1), bk := tz D } σ2 H2) (hd : ∀ H1 σ' H', Ex H H1 → Pv H1 n σ' H' → tz D σ' H') : tSeq (tFor wi g tu) tz D σ H :=
  s_forI (D := { D with nx := tz D }) hj Pv h0 hG hs hd
end

/-! ### promises by data -/
/-- from data of this form this data is handed back; what was tracked stays -/
def SpD {γ : Type} (K : PySem.W.Frag) (args : γ → List PD) (side : γ → Prop) (res : γ → PD) : Sp := fun vs H Q _ => ∃ g, DpAll K H vs (args g) ∧ side g ∧ ∀ v H', Ex H H' → Dp K H' v (res g) → Q v H'
section
variable {K : PySem.W.Frag} {σ : L2.St} {H H' : Hp} {ar : TA} {d : PD} {ds : List PD}
theorem ed_call {sp : Sp} {E : XK} (ha : EvDs K ar σ H ds) (hs : ∀ H1 vs, Ex H H1 → DpAll K H1 vs ds → ∀ Q : VK, (∀ v H2, Ex H1 H2 → Dp K H2 v d → Q v H2) → sp vs H1 Q E) : EvD K (tCall sp [] E ar) σ H d := fun H1 x Q q =>
  ha H1 x _ fun vs H2 x2 hv => by
    show sp (vs ++ []) H2 Q E
    rw [List.append_nil]
    exact hs H2 vs (x.trans x2) hv Q fun v H3 x3 h3 => q v H3 (x2.trans x3) h3
theorem ed_callD {γ : Type} {args : γ → List PD} {side : γ → Prop} {res : γ → PD} {E : XK} (g : γ) (ha : EvDs K ar σ H (args g)) (hs : side g) : EvD K (tCall (SpD K args side res) [] E ar) σ H (res g) :=
  ed_call ha fun H1 vs x hv Q q => ⟨g, hv, hs, q⟩
end
/-- a def that may be called by its name -/
structure Can (P : Program) (w : World) (K : PySem.W.Frag) (mg : Str → Option Value) (base : Heap) (CX : CXT) (k : Nat) (x : Str) (sp : Sp) : Prop where
  ex : ∃ (f : Addr) (fd : FuncData) (ps : List Str), FnOk P w K mg base CX k f fd ps sp ∧ mg x = some (.ref f) ∧ PySem.W.keepIn K (.ref f) = true ∧ Binds K fd ps []
/-- a def of the text -/
structure Dfn (K : PySem.W.Frag) (mg : Str → Option Value) (x : Str) (st : Stmt) (ps : List Str) : Prop where
  ex : ∃ (f : Addr) (fd : FuncData), L2.Fun K x x st f fd ∧ mg x = some (.ref f) ∧ Binds K fd ps []
section
variable {P : Program} {w : World} {K : PySem.W.Frag} {mg : Str → Option Value} {base : Heap}
theorem Can.mono {CX : CXT} {j k : Nat} {x : Str} {sp : Sp} (h : Can P w K mg base CX j x sp) (hj : j ≤ k) : Can P w K mg base CX k x sp := by
  obtain ⟨f, fd, ps, F, r⟩ := h.ex
  exact ⟨f, fd, ps, F.mono hj, r⟩
theorem fn_D {x : Str} {st : Stmt} {f : Addr} {fd : FuncData} {N ps : List Str} {k : Nat} {γ : Type} {args : γ → List PD} {side : γ → Prop} {res : γ → PD} (F : L2.Fun K x x st f fd) (S : FnScope N ps (defScope st)) (len : ∀ g, (args g).length = ps.length)
    (hbody : ∀ (cdv : Value) (A : Around) (outer : List Env) (s : Shared) (H : Hp) (vs : List V) (Q : VK) (E : XK) (f : Addr) (g : γ), Room k (A.deeper (envOfC x (defScope st) s.heap.objs.size f cdv)) → DpAll K H vs (args g) → side g → (∀ v H', Ex H H' → Dp K H' v (res g) → Q v H') →
      ∃ t, PSs (cxOf CX0 P w K mg base N x (defScope st) f cdv A outer s H E).nox (defBody st) t ∧ t { nx := fun _ H' => Q .non H', rt := Q } (start N vs) H) : FnOk P w K mg base CX0 (k + 1) f fd ps (SpD K args side res) :=
  F.ok S (fun vs H Q E ⟨g, hv, _⟩ => (dpa_len hv).trans (len g)) (fun cdv A outer s H vs Q E hr ⟨g, hv, hs, q⟩ => hbody cdv A outer s H vs Q E f g hr hv hs q)
theorem can_D {x : Str} {st : Stmt} {N ps : List Str} {k : Nat} {γ : Type} {args : γ → List PD} {side : γ → Prop} {res : γ → PD} (F : Dfn K mg x st ps) (S : FnScope N ps (defScope st)) (len : ∀ g, (args g).length = ps.length)
    (hbody : ∀ (cdv : Value) (A : Around) (outer : List Env) (s : Shared) (H : Hp) (vs : List V) (Q : VK) (E : XK) (f : Addr) (g : γ), Room k (A.deeper (envOfC x (defScope st) s.heap.objs.size f cdv)) → DpAll K H vs (args g) → side g → (∀ v H', Ex H H' → Dp K H' v (res g) → Q v H') →
      ∃ t, PSs (cxOf CX0 P w K mg base N x (defScope st) f cdv A outer s H E).nox (defBody st) t ∧ t { nx := fun _ H' => Q .non H', rt := Q } (start N vs) H) : Can P w K mg base CX0 (k + 1) x (SpD K args side res) := by
  obtain ⟨f, fd, F, hm, b⟩ := F.ex
  exact ⟨f, fd, ps, fn_D F S len hbody, hm, F.kp, b⟩
end
section
variable {X : Cx} {k j : Nat} {x : Str} {p pos : Pos} {e : Expr} {es : List Expr} {t : TA} {sp : Sp}
theorem pc (c : Can X.prog X.w X.K X.mg X.base CX0 k x sp) (hr : Room j X.A) (hk : k ≤ j) (hg : Gl X x) (ha : PA X (e :: es) t)
    (hdb : (x == ("__debug__" : Str)) = false := by decide) (he : starEach (e :: es) X.env = (false, eval e X.env) :: starEach es X.env := by rfl) (hpl : (backTo pos (starEach es X.env)).any (·.1) = false := by rfl) :
    PE X (.Call (.Name x p) (e :: es) [] pos) (tCall sp [] E0 t) := by
  obtain ⟨f, fd, ps, F, hm, kp, b⟩ := c.ex
  exact pe_call F (hr.mono hk) hg hm kp b .nil pass0 ha hdb he hpl
theorem pc0 (c : Can X.prog X.w X.K X.mg X.base CX0 k x sp) (hr : Room j X.A) (hk : k ≤ j) (hg : Gl X x)
    (hdb : (x == ("__debug__" : Str)) = false := by decide) : PE X (.Call (.Name x p) [] [] pos) (tCall sp [] E0 tNil) := by
  obtain ⟨f, fd, ps, F, hm, kp, b⟩ := c.ex
  exact pe_call0 F (hr.mono hk) hg hm kp b .nil pass0 hdb
end
/-- the built-in names that the module leaves as they are -/
structure Bt (mg : Str → Option Value) : Prop where
  len : mg "len" = none
  range : mg "range" = none
  int : mg "int" = none
  list : mg "list" = none
  tuple : mg "tuple" = none
  max : mg "max" = none
  min : mg "min" = none
  isinstance : mg "isinstance" = none
  bool : mg "bool" = none
  str : mg "str" = none
  sum : mg "sum" = none
  sorted : mg "sorted" = none
  any : mg "any" = none
  enumerate : mg "enumerate" = none
  ValueError : mg "ValueError" = none
end Pb

namespace Pb
open PySem PySem.Spec PyProof.Rows L2 Evn
variable [Evn.Tbs]
section
variable {K : PySem.W.Frag} {σ : L2.St} {H H' : Hp} {ta tb tc te tl : TE} {t u : TT} {v : V} {d e f : PD} {ds es : List PD} {r : R2} {ar : TA}
theorem dpa1 {vs : List V} {d1 : PD} (h : DpAll K H vs [d1]) : ∃ a, vs = [a] ∧ Dp K H a d1 := by
  obtain ⟨a, r, rfl, h1, h⟩ := dpa_cons h
  cases dpa_nil h
  exact ⟨a, rfl, h1⟩
theorem dpa2 {vs : List V} {d1 d2 : PD} (h : DpAll K H vs [d1, d2]) : ∃ a b, vs = [a, b] ∧ Dp K H a d1 ∧ Dp K H b d2 := by
  obtain ⟨a, r, rfl, h1, h⟩ := dpa_cons h
  obtain ⟨b, rfl, h2⟩ := dpa1 h
  exact ⟨a, b, rfl, h1, h2⟩
theorem dpa3 {vs : List V} {d1 d2 d3 : PD} (h : DpAll K H vs [d1, d2, d3]) : ∃ a b c, vs = [a, b, c] ∧ Dp K H a d1 ∧ Dp K H b d2 ∧ Dp K H c d3 := by
  obtain ⟨a, r, rfl, h1, h⟩ := dpa_cons h
  obtain ⟨b, c, rfl, h2, h3⟩ := dpa2 h
  exact ⟨a, b, c, rfl, h1, h2, h3⟩
theorem dpa4 {vs : List V} {d1 d2 d3 d4 : PD} (h : DpAll K H vs [d1, d2, d3, d4]) : ∃ a b c d, vs = [a, b, c, d] ∧ Dp K H a d1 ∧ Dp K H b d2 ∧ Dp K H c d3 ∧ Dp K H d d4 := by
  obtain ⟨a, r, rfl, h1, h⟩ := dpa_cons h
  obtain ⟨b, c, d, rfl, h2, h3, h4⟩ := dpa3 h
  exact ⟨a, b, c, d, rfl, h1, h2, h3, h4⟩
/-- an item of ints -/
theorem at_ints {ns : List Int} {i : Nat} (h : i < ns.length) : atI (ns.map PyData.int) (i : Int) = some (.int (ns.getD i 0)) := by
  refine atI_nat ?_
  rw [List.getElem?_map, List.getElem?_eq_getElem h, List.getD_eq_getElem?_getD, List.getElem?_eq_getElem h]
  rfl
theorem at_intsI {ns : List Int} {i : Int} (h0 : 0 ≤ i) (h : i < ns.length) : atI (ns.map PyData.int) i = some (.int (ns.getD i.toNat 0)) := by
  have e : i = (i.toNat : Int) := by omega
  rw [e, at_ints (by omega)]
  rfl
theorem at_last {ds : List PD} (h : ds ≠ []) : atI ds (-1) = some (ds.getLast h) := by
  conv => lhs; rw [← List.dropLast_concat_getLast h]
  exact atI_last _ _
end
/-! ### the law's own promise -/
def sp_law (K : PySem.W.Frag) : Sp := SpD K (fun ns : List Int => [.list (ns.map .int)]) (fun ns => ns.length ≤ 63) (fun _ => .bool true)
theorem law_start (K : PySem.W.Frag) (H : Hp) (a : Addr) (ns : List Int) (hl : ns.length ≤ 63) (_ : L2.Only H) (hs : SqL K H a (ns.map V.int)) : sp_law K [.ref a] H (fun v _ => v = .bl true) fun _ _ _ => False :=
  ⟨ns, .cons (.lst hs dpa_of_ints) .nil, hl, fun v H' _ hv => dp_bl hv⟩
theorem toNat_emod (a b : Nat) : ((a : Int) % (b : Int)).toNat = a % b := by rw [← Int.natCast_emod]; rfl
theorem cmul_l {i j : Int} (h1 : -18446744073709551616 < i) (h2 : i < 18446744073709551616) : CMul i j := .inl ⟨by omega, by omega⟩
theorem cmul_r {i j : Int} (h1 : -18446744073709551616 < j) (h2 : j < 18446744073709551616) : CMul i j := .inr ⟨by omega, by omega⟩
theorem cdiv_of {i j : Int} (h1 : 0 < j) (h2 : j < 1073741824) : CDiv i j := ⟨h1, h2⟩
end Pb

namespace Pb
open PySem PySem.Spec PyProof.Rows L2 Evn
variable [Evn.Tbs]
/-! ### data: equal, of a shape, cut -/
theorem layAll_int : ∀ ns : List Int, PyData.canLayAll0 (ns.map .int) = true
  | [] => rfl
  | x :: r => by rw [List.map_cons, PyData.canLayAll0, layAll_int r]; rfl
theorem depAll_int : ∀ ns : List Int, PyData.depthAll (ns.map .int) = 0
  | [] => rfl
  | x :: r => by rw [List.map_cons, PyData.depthAll, depAll_int r]; rfl
theorem layAll_bool : ∀ ns : List Bool, PyData.canLayAll0 (ns.map .bool) = true
  | [] => rfl
  | x :: r => by rw [List.map_cons, PyData.canLayAll0, layAll_bool r]; rfl
theorem depAll_bool : ∀ ns : List Bool, PyData.depthAll (ns.map .bool) = 0
  | [] => rfl
  | x :: r => by rw [List.map_cons, PyData.depthAll, depAll_bool r]; rfl
theorem eqvAll_int : ∀ a b : List Int, PyData.eqvAll (a.map .int) (b.map .int) = (a == b)
  | [], [] => rfl
  | [], _ :: _ => rfl
  | _ :: _, [] => rfl
  | x :: r, y :: s => by
    rw [List.map_cons, List.map_cons, PyData.eqvAll, eqvAll_int r s]
    rfl
theorem eqvAll_bool : ∀ a b : List Bool, PyData.eqvAll (a.map .bool) (b.map .bool) = (a == b)
  | [], [] => rfl
  | [], _ :: _ => rfl
  | _ :: _, [] => rfl
  | x :: r, y :: s => by
    rw [List.map_cons, List.map_cons, PyData.eqvAll, eqvAll_bool r s]
    rfl
theorem eqv_int (a b : Int) : PyData.eqv (.int a) (.int b) = (a == b) := rfl
theorem eqv_bool (a b : Bool) : PyData.eqv (.bool a) (.bool b) = (a == b) := rfl
theorem eqv_L (a b : List Int) : PyData.eqv (.list (a.map .int)) (.list (b.map .int)) = (a == b) := by rw [PyData.eqv, eqvAll_int]
theorem eqv_T (a b : List Int) : PyData.eqv (.tuple (a.map .int)) (.tuple (b.map .int)) = (a == b) := by rw [PyData.eqv, eqvAll_int]
/-- a pulse, a form: head and bar -/
def pul (h b : List Int) : PyData := .tuple [.tuple (h.map .int), .tuple (b.map .int)]
theorem eqv_pul (h b h' b' : List Int) : PyData.eqv (pul h b) (pul h' b') = (h == h' && b == b') := by
  unfold pul
  rw [PyData.eqv, PyData.eqvAll, PyData.eqvAll, PyData.eqvAll, eqv_T, eqv_T, Bool.and_true]
theorem shp_L (a : List Int) : SeqAt.shaped (.list (a.map .int)) = true := by simp [SeqAt.shaped, PyData.canLay0, PyData.depth, layAll_int, depAll_int]
theorem shp_T (a : List Int) : SeqAt.shaped (.tuple (a.map .int)) = true := by simp [SeqAt.shaped, PyData.canLay0, PyData.depth, layAll_int, depAll_int]
theorem shp_pul (h b : List Int) : SeqAt.shaped (pul h b) = true := by simp [pul, SeqAt.shaped, PyData.canLay0, PyData.canLayAll0, PyData.depth, PyData.depthAll, layAll_int, depAll_int]
/-- a list or a tuple of ints -/
def sq (t : Bool) (l : List Int) : PyData := if t then .list (l.map .int) else .tuple (l.map .int)
theorem cutD_to {α : Type} (ds : List α) (s : Nat) : cutD ds none (some (s : Int)) = ds.take s := by
  unfold cutD
  rw [HT.sIx_none, HT.sIx_nat]
  simp [List.take_eq_take_iff]
theorem cutD_from {α : Type} (ds : List α) (s : Nat) : cutD ds (some (s : Int)) none = ds.drop s := by
  unfold cutD
  rw [HT.sIx_none, HT.sIx_nat]
  by_cases h : s ≤ ds.length
  · rw [Nat.min_eq_left h]
    apply List.take_of_length_le
    simp
  · rw [Nat.min_eq_right (by omega), List.drop_eq_nil_of_le (Nat.le_refl _), List.drop_eq_nil_of_le (by omega)]
    simp
theorem cutD_m1 {α : Type} (ds : List α) : cutD ds none (some (-1)) = ds.dropLast := by
  unfold cutD
  rw [HT.sIx_none, List.dropLast_eq_take]
  have e : HT.sIx ds.length ds.length (some (-1)) = ds.length - 1 := by
    have h := HT.clip_eq (-1) ds.length ds.length
    have h2 : (if (-1 : Int) < 0 then max (-1 + (ds.length : Int)) 0 else min (-1) (ds.length : Int)) = ((ds.length - 1 : Nat) : Int) := by
      rw [if_pos (by decide)]
      omega
    omega
  rw [e]
  simp
theorem cutD_ft {α : Type} (ds : List α) (s e : Nat) (h : s ≤ e) : cutD ds (some (s : Int)) (some (e : Int)) = (ds.drop s).take (e - s) := by
  unfold cutD
  rw [HT.sIx_nat, HT.sIx_nat]
  by_cases h1 : s ≤ ds.length
  · rw [Nat.min_eq_left h1]
    by_cases h2 : e ≤ ds.length
    · rw [Nat.min_eq_left h2]
    · rw [Nat.min_eq_right (by omega)]
      rw [List.take_of_length_le (by simp), List.take_of_length_le (by simp; omega)]
  · rw [Nat.min_eq_right (by omega), Nat.min_eq_right (by omega), List.drop_eq_nil_of_le (Nat.le_refl _), List.drop_eq_nil_of_le (by omega)]
    simp
theorem qd_ifAsg {K : PySem.W.Frag} {σ : L2.St} {H : Hp} {te : TE} {t : TT} {D : Ends} {tz : TS} {i : Nat} {b : Bool} {d : PD} (h : EvT t σ H b) (h1 : b = true → EvD K te σ H d) (h2 : b = false → ∃ v, σ[i]? = some (some v) ∧ Dp K H v d)
    (k : ∀ v H1, Ex H H1 → Dp K H1 v d → tz D (σ.set i (some v)) H1) : tSeq (tIfS t (tAsg te (gName i)) tNext) tz D σ H :=
  q_when h (fun hb H1 x1 => sd_asg (D := { D with nx := tz D }) ((h1 hb).ex x1) fun v H2 x2 hv => k v H2 (x1.trans x2) hv) fun hb H1 x1 => by
    obtain ⟨v, e, hv⟩ := h2 hb
    have g := k v H1 x1 (dp_ex x1 hv)
    obtain ⟨hi, e2⟩ := List.getElem?_eq_some_iff.mp e
    rw [show σ.set i (some v) = σ by rw [← e2]; exact List.set_getElem_self hi] at g
    exact g
section
variable {X : Cx} {K : PySem.W.Frag}
theorem op_eqDK (e : X.K = K) (hu : X.A.units + 64 < cLine) : OpR X (compareOp .Eq) (rEqD K) := by
  subst e
  exact op_eqD hu
theorem op_neDK (e : X.K = K) (hu : X.A.units + 64 < cLine) : OpR X (compareOp .NotEq) (rNeD K) := by
  subst e
  exact op_neD hu
end
end Pb

namespace Pb
open PySem PySem.Spec PyProof.Rows L2 Evn
variable [Evn.Tbs]
/-! ### the rules with the written part named (within a comprehension's block it must not hang on the block) -/
section
variable {X : Cx} {K : PySem.W.Frag}
theorem op_addK (e : X.K = K) : OpR X (binaryOp .Add) (rAddX K) := by subst e; exact op_addX
theorem op_mulK (e : X.K = K) : OpR X (binaryOp .Mult) (rMulX K) := by subst e; exact op_mulX'
theorem ix_K (e : X.K = K) : IxR X (rIx K) := by subst e; exact ix_seq
theorem sl_K (e : X.K = K) : SlR X (rSlX K) := by subst e; exact sl_X
theorem op_inK (e : X.K = K) : OpR X (compareOp .In) (rInX K) := by subst e; exact op_inX
theorem op_notInK (e : X.K = K) : OpR X (compareOp .NotIn) (rNotInX K) := by subst e; exact op_notInX
abbrev rLenK (K : PySem.W.Frag) : List V → Hp → VK → Prop := fun xs H Q => ∃ x n, xs = [x] ∧ LenV K x H n ∧ Q (.int n) H
theorem call_lenK (e : X.K = K) : CallR X (.builtin "len") (fun xs H Q => ∃ x n, xs = [x] ∧ LenV K x H n ∧ Q (.int n) H) := by subst e; exact call_len
theorem call_listK (e : X.K = K) : CallR X (.type "list") (rListOf K) := by subst e; exact call_list_of
theorem call_tupleK (e : X.K = K) : CallR X (.type "tuple") (rTupleOf K) := by subst e; exact call_tuple_of
theorem call_isiK' (e : X.K = K) : CallR X (.builtin "isinstance") (rIsi K) := by subst e; exact call_isi
theorem cr_sumK (e : X.K = K) (hc : X.calm = true) : CallR X (.builtin "sum") (rSum K) := by subst e; exact cr_sum hc
theorem cr_maxK (e : X.K = K) (hc : X.calm = true) : CallR X (.builtin "max") (rMax K) := by subst e; exact cr_max hc
theorem cr_anyK (e : X.K = K) (hc : X.calm = true) : CallR X (.builtin "any") (rAny K) := by subst e; exact cr_any hc
theorem cr_sortedK (e : X.K = K) : CallR X (.builtin "sorted") (rSorted K) := by subst e; exact cr_sorted
theorem pi_seqK {tg it : Expr} {tl : TE} (e : X.K = K) (h : PE X it tl) : PI X tg it (iSeq K tl) := by subst e; exact pi_seq h
theorem pt_truthK {a : Expr} {ta : TE} (e : X.K = K) (ha : PE X a ta) (he : ∀ whole, isTrue a X.env whole = (do let v ← whole; standAt a.pos; holding [v] (truthy v))) :
    PT X a (fun σ H Q => ta σ H fun x H' => ∃ k, TruV K x H' k ∧ Q k H') := by subst e; exact pt_truth ha he
theorem pg_tupK {es : List Expr} {k : Nat} {pos : Pos} {t : TGs} {n : Nat} (e : X.K = K) (hc : X.calm = true) (h : PGs X es t) (hn : (assignEach es X.env).length = n := by rfl) (hst : (assignEach es X.env).findIdx? (·.1) = none := by rfl) : PG X (.Tuple es k pos) (gTup K n t) := by
  subst e
  exact pg_tup hc h hn hst
theorem pe_bm0K {o : Expr} {to : TE} {name : Str} {apos cpos : Pos} {T id : String} {r : V → List V → Hp → VK → Prop} (e : X.K = K) (pa : PlainAttrs T) (slot : Slot T name id) (hty : typeOf (.builtin id) = pure (.type "method_descriptor")) (hm : MtR X id r) (ho : PE X o to)
    (hbase : attributeBase o name X.env (eval o X.env) = eval o X.env := by rfl) (hline : (apos.endLine == cpos.line) = true := by rfl) : PE X (.Call (.Attribute o name apos) [] [] cpos) (tBM0 K T r to) := by
  subst e
  exact pe_bm0 pa slot hty hm ho hbase hline
theorem pe_bmK {o e : Expr} {es : List Expr} {to : TE} {t : TA} {name : Str} {apos cpos : Pos} {T id : String} {r : V → List V → Hp → VK → Prop} (e0 : X.K = K) (pa : PlainAttrs T) (slot : Slot T name id) (hty : typeOf (.builtin id) = pure (.type "method_descriptor")) (hm : MtR X id r) (ho : PE X o to) (ha : PA X (e :: es) t)
    (hbase : attributeBase o name X.env (eval o X.env) = eval o X.env := by rfl)
    (hfew : ((backTo cpos (starEach (e :: es) X.env)).all (fun x => !x.1) && (backToKw cpos (keywordEach [] X.env)).all (fun x => x.1.isSome)
      && decide ((e :: es).length + ([] : List Keyword).length + (if ([] : List Keyword).isEmpty then 0 else 1) < 30)) = true := by rfl)
    (hline : (apos.endLine == cpos.line) = true := by rfl) (hs : starEach (e :: es) X.env = (false, eval e X.env) :: starEach es X.env := by rfl) (hplain : (backTo cpos (starEach es X.env)).any (·.1) = false := by rfl) :
    PE X (.Call (.Attribute o name apos) (e :: es) [] cpos) (tBM K T r to t) := by
  subst e0
  exact pe_bm pa slot hty hm ho ha hbase hfew hline hs hplain
/-- int of an int, a truth, a text -/
def rIntX : List V → Hp → VK → Prop := fun xs H Q => rInt1 xs H Q ∨ ∃ a n, xs = [.str a] ∧ PySem.intText? a = some n ∧ a.length ≤ 640 ∧ Q (.int n) H
theorem call_intX : CallR X (.type "int") rIntX := call_int1.or call_int_str
end
section
variable {K : PySem.W.Frag} {σ : L2.St} {H H' : Hp} {ta tb tc te tl : TE} {d e f : PD} {ds es : List PD} {ar : TA}
theorem ed_intI' {i : Int} (ha : EvD K ta σ H (.int i)) : EvD K (tCB rIntX (tCons ta tNil)) σ H (.int i) := ed_cb (eds_cons ha eds_nil) fun H1 _ vs hv Q q => by
  obtain ⟨x, r, rfl, hx, hr⟩ := dpa_cons hv
  cases dpa_nil hr
  rw [dp_int hx]
  exact .inl (.inl ⟨i, rfl, q _ _ (Ex.refl H1) (.int _)⟩)
theorem ed_intB' {b : Bool} (ha : EvD K ta σ H (.bool b)) : EvD K (tCB rIntX (tCons ta tNil)) σ H (.int (bI b)) := ed_cb (eds_cons ha eds_nil) fun H1 _ vs hv Q q => by
  obtain ⟨x, r, rfl, hx, hr⟩ := dpa_cons hv
  cases dpa_nil hr
  rw [dp_bl hx]
  exact .inl (.inr ⟨b, rfl, q _ _ (Ex.refl H1) (.int _)⟩)
theorem ed_intS {a : Str} {n : Int} (ha : EvD K ta σ H (.str a)) (h : PySem.intText? a = some n) (hl : a.length ≤ 640) : EvD K (tCB rIntX (tCons ta tNil)) σ H (.int n) := ed_cb (eds_cons ha eds_nil) fun H1 _ vs hv Q q => by
  obtain ⟨x, r, rfl, hx, hr⟩ := dpa_cons hv
  cases dpa_nil hr
  rw [dp_str hx]
  exact .inr ⟨a, n, rfl, h, hl, q _ _ (Ex.refl H1) (.int _)⟩
/-- parts of slices, the written part named -/
def EvOK (_ : PySem.W.Frag) (to : TO) (σ : L2.St) (H : Hp) (o : Option Int) : Prop := EvO to σ H o
theorem eok_none : EvOK K tNoPart σ H none := eo_none
theorem eok_int {i : Int} {te : TE} (h : EvD K te σ H (.int i)) : EvOK K (tPart te) σ H (some i) := eo_some h.int
theorem ed_slLK {te : TE} {tl th : TO} {lo hi : Option Int} (h : EvD K te σ H (.list ds)) (h1 : EvOK K tl σ H lo) (h2 : EvOK K th σ H hi) : EvD K (tSl (rSlX K) te tl th) σ H (.list (cutD ds lo hi)) := ed_slL h h1 h2
theorem ed_slTK {te : TE} {tl th : TO} {lo hi : Option Int} (h : EvD K te σ H (.tuple ds)) (h1 : EvOK K tl σ H lo) (h2 : EvOK K th σ H hi) : EvD K (tSl (rSlX K) te tl th) σ H (.tuple (cutD ds lo hi)) := ed_slT h h1 h2
end
end Pb

namespace Pb
/-! # The mathematics of forms -/
/-- the value of day d by head and bar -/
def vl (h b : List Int) (d : Nat) : Int := if d < h.length then h.getD d 0 else b.getD ((d - h.length) % b.length) 0
/-! ### the shortest bar -/
def perOk (b : List Int) (s : Nat) : Bool := b.length % s == 0 && (List.replicate (b.length / s) (b.take s)).flatten == b
def perFrom (b : List Int) : Nat → Nat → Nat
  | 0, s => s
  | n + 1, s => if perOk b s then s else perFrom b n (s + 1)
def per (b : List Int) : Nat := perFrom b b.length 1
theorem perOk_self {b : List Int} (h : b ≠ []) : perOk b b.length = true := by
  have hp : 0 < b.length := List.length_pos_iff.mpr h
  unfold perOk
  rw [Nat.mod_self, Nat.div_self hp, List.take_length]
  simp
theorem perFrom_spec {b : List Int} (h : b ≠ []) : ∀ (n s : Nat), 1 ≤ s → s ≤ b.length → b.length ≤ s + n → (∀ t, 1 ≤ t → t < s → perOk b t = false) →
    perOk b (perFrom b n s) = true ∧ s ≤ perFrom b n s ∧ perFrom b n s ≤ b.length ∧ ∀ t, 1 ≤ t → t < perFrom b n s → perOk b t = false
  | 0, s, h1, h2, h3, h4 => by
    have e : s = b.length := by omega
    unfold perFrom
    rw [e] at h4 ⊢
    exact ⟨perOk_self h, Nat.le_refl _, Nat.le_refl _, h4⟩
  | n + 1, s, h1, h2, h3, h4 => by
    unfold perFrom
    cases hp : perOk b s with
    | true =>
      rw [if_pos rfl]
      exact ⟨hp, Nat.le_refl _, h2, h4⟩
    | false =>
      rw [if_neg (by decide)]
      have hs : s < b.length := by
        rcases Nat.lt_or_ge s b.length with hh | hh
        · exact hh
        · have e : s = b.length := by omega
          rw [e, perOk_self h] at hp
          cases hp
      obtain ⟨a1, a2, a3, a4⟩ := perFrom_spec h n (s + 1) (by omega) (by omega) (by omega) fun t t1 t2 => by
        by_cases e : t = s
        · rw [e]; exact hp
        · exact h4 t t1 (by omega)
      exact ⟨a1, by omega, a3, a4⟩
theorem per_spec {b : List Int} (h : b ≠ []) : perOk b (per b) = true ∧ 1 ≤ per b ∧ per b ≤ b.length ∧ ∀ t, 1 ≤ t → t < per b → perOk b t = false :=
  perFrom_spec h b.length 1 (Nat.le_refl _) (List.length_pos_iff.mpr h) (by omega) fun t h1 h2 => by omega
/-! ### the tight form -/
/-- the head from behind, the bar -/
def strip : List Int → List Int → List Int × List Int
  | [], b => ([], b)
  | x :: r, b => if b.getLast? = some x then strip r (x :: b.dropLast) else (x :: r, b)
def tightM (h b : List Int) : List Int × List Int := ((strip h.reverse (b.take (per b))).1.reverse, (strip h.reverse (b.take (per b))).2)
theorem strip_len : ∀ (r b : List Int), (strip r b).1.length ≤ r.length ∧ (b ≠ [] → (strip r b).2.length = b.length)
  | [], b => ⟨Nat.le_refl _, fun _ => rfl⟩
  | x :: r, b => by
    unfold strip
    split
    · rename_i hb
      obtain ⟨h1, h2⟩ := strip_len r (x :: b.dropLast)
      refine ⟨Nat.le_succ_of_le h1, fun hn => ?_⟩
      rw [h2 (List.cons_ne_nil _ _), List.length_cons, List.length_dropLast]
      have := List.length_pos_iff.mpr hn
      omega
    · exact ⟨Nat.le_refl _, fun _ => rfl⟩
theorem tight_len {h b : List Int} (hb : b ≠ []) : (tightM h b).1.length ≤ h.length ∧ (tightM h b).2.length = per b := by
  obtain ⟨_, p1, p2, _⟩ := per_spec hb
  have hn : b.take (per b) ≠ [] := by
    intro e
    have := congrArg List.length e
    rw [List.length_take, List.length_nil] at this
    omega
  obtain ⟨h1, h2⟩ := strip_len h.reverse (b.take (per b))
  unfold tightM
  refine ⟨by simpa using h1, ?_⟩
  rw [h2 hn, List.length_take]
  omega
theorem tight_ne {h b : List Int} (hb : b ≠ []) : (tightM h b).2 ≠ [] := by
  obtain ⟨_, p1, p2, _⟩ := per_spec hb
  intro e
  have h2 := (tight_len (h := h) hb).2
  rw [e, List.length_nil] at h2
  omega
/-! ### what the laws draw -/
def mixM (c p m : Int) : Int := c * 48271 % p % m
def cellM (ns : List Int) (k : Nat) : Int := ns.getD k 0
def largeM (ns : List Int) : Bool := mixM (cellM ns 0 + 7 * (ns.length : Int)) 9871 8 == 3
def bitsM (ns : List Int) (at_ size : Nat) : List Int := (List.range size).map fun k => mixM (cellM ns (at_ + k % 9) + 23 * (k : Int) * (k : Int)) 9941 2
def mostM (ns : List Int) : Int := if largeM ns then 14 else 12
def formM (ns : List Int) (at_ : Nat) : List Int × List Int :=
  let c := cellM ns at_
  let b := bitsM ns (at_ + 2) (1 + mixM c 9967 (mostM ns)).toNat
  let b := if mixM c 9949 5 == 0 then [0] else b
  (bitsM ns (at_ + 1) (mixM c 9973 (mostM ns + 1)).toNat, if mixM c 9949 5 == 1 then List.replicate b.length (b.getD 0 0) else b)
theorem mixM_nn (c p : Int) {m : Int} (hm : 0 < m) : 0 ≤ mixM c p m ∧ mixM c p m < m := ⟨Int.emod_nonneg _ (by omega), Int.emod_lt_of_pos _ hm⟩
theorem mostM_le (ns : List Int) : 12 ≤ mostM ns ∧ mostM ns ≤ 14 := by unfold mostM; split <;> omega
theorem bitsM_len (ns : List Int) (a n : Nat) : (bitsM ns a n).length = n := by simp [bitsM]
/-- noughts and ones -/
def Bits (l : List Int) : Prop := ∀ x ∈ l, x = 0 ∨ x = 1
theorem bitsM_bits (ns : List Int) (a n : Nat) : Bits (bitsM ns a n) := fun x hx => by
  obtain ⟨k, _, e⟩ := List.mem_map.mp hx
  have := mixM_nn (cellM ns (a + k % 9) + 23 * (k : Int) * (k : Int)) 9941 (m := 2) (by decide)
  omega
theorem form_ok (ns : List Int) (a : Nat) : (formM ns a).1.length ≤ 14 ∧ (formM ns a).2 ≠ [] ∧ (formM ns a).2.length ≤ 14 ∧ Bits (formM ns a).1 ∧ Bits (formM ns a).2 := by
  have m := mostM_le ns
  have h1 := mixM_nn (cellM ns a) 9973 (m := mostM ns + 1) (by omega)
  have h2 := mixM_nn (cellM ns a) 9967 (m := mostM ns) (by omega)
  refine ⟨?_, ?_, ?_, bitsM_bits _ _ _, ?_⟩
  · show (bitsM _ _ _).length ≤ 14
    rw [bitsM_len]
    omega
  all_goals
    have hb : ∀ b : List Int, b ≠ [] → b.length ≤ 14 → Bits b → (if (mixM (cellM ns a) 9949 5 == 1) = true then List.replicate b.length (b.getD 0 0) else b) ≠ [] ∧ (if (mixM (cellM ns a) 9949 5 == 1) = true then List.replicate b.length (b.getD 0 0) else b).length ≤ 14 ∧ Bits (if (mixM (cellM ns a) 9949 5 == 1) = true then List.replicate b.length (b.getD 0 0) else b) := by
      intro b b1 b2 b3
      split
      · refine ⟨fun e => b1 ?_, by simpa using b2, fun x hx => ?_⟩
        · have := congrArg List.length e
          simp at this
          exact this
        · have e := (List.mem_replicate.mp hx).2
          cases b with
          | nil => exact absurd rfl b1
          | cons y r => rw [e]; exact b3 y (by simp)
      · exact ⟨b1, b2, b3⟩
    have hc : ∀ c : Bool, (if c = true then [(0 : Int)] else bitsM ns (a + 2) (1 + mixM (cellM ns a) 9967 (mostM ns)).toNat) ≠ [] ∧ (if c = true then [(0 : Int)] else bitsM ns (a + 2) (1 + mixM (cellM ns a) 9967 (mostM ns)).toNat).length ≤ 14 ∧ Bits (if c = true then [(0 : Int)] else bitsM ns (a + 2) (1 + mixM (cellM ns a) 9967 (mostM ns)).toNat) := by
      intro c
      split
      · exact ⟨by simp, by simp, fun x hx => by simp at hx; omega⟩
      · refine ⟨fun e => ?_, ?_, bitsM_bits _ _ _⟩
        · have := congrArg List.length e
          rw [bitsM_len, List.length_nil] at this
          omega
        · rw [bitsM_len]
          omega
    obtain ⟨c1, c2, c3⟩ := hc (mixM (cellM ns a) 9949 5 == 0)
    have z := hb _ c1 c2 c3
    first | exact z.1 | exact z.2.1 | exact z.2.2
/-- a day of the law's -/
def dayM (ns : List Int) (a : Nat) : Nat := if cellM ns a % 3 == 0 then (cellM ns a % 10 ^ 40).toNat else (cellM ns a / 3 % 300).toNat
def pulseM (ns : List Int) (a : Nat) : List Int × List Int := tightM (formM ns a).1 (formM ns a).2
end Pb

namespace Pb
/-! # One tight form for the same days -/
/-- the bar, round and round -/
def cyc (b : List Int) (i : Nat) : Int := b.getD (i % b.length) 0
theorem vl_lt {h b : List Int} {d : Nat} (hd : d < h.length) : vl h b d = h.getD d 0 := by unfold vl; rw [if_pos hd]
theorem vl_ge {h b : List Int} {d : Nat} (hd : h.length ≤ d) : vl h b d = cyc b (d - h.length) := by unfold vl cyc; rw [if_neg (by omega)]
theorem vl_cyc {h b : List Int} (i : Nat) : vl h b (h.length + i) = cyc b i := by rw [vl_ge (Nat.le_add_right _ _)]; congr 1; omega
theorem cyc_lt {b : List Int} {i : Nat} (h : i < b.length) : cyc b i = b.getD i 0 := by unfold cyc; rw [Nat.mod_eq_of_lt h]
theorem cyc_add (b : List Int) (i : Nat) : cyc b (i + b.length) = cyc b i := by unfold cyc; rw [Nat.add_mod_right]
theorem cyc_mul (b : List Int) (i k : Nat) : cyc b (i + b.length * k) = cyc b i := by unfold cyc; rw [Nat.add_mul_mod_self_left]
theorem cyc_mod (b : List Int) (i : Nat) : cyc b (i % b.length) = cyc b i := by unfold cyc; rw [Nat.mod_mod]
theorem ext_getD {a b : List Int} (hl : a.length = b.length) (h : ∀ i, i < a.length → a.getD i 0 = b.getD i 0) : a = b := by
  apply List.ext_getElem hl
  intro i h1 h2
  have := h i h1
  rw [List.getD_eq_getElem?_getD, List.getD_eq_getElem?_getD, List.getElem?_eq_getElem h1, List.getElem?_eq_getElem h2] at this
  exact this
theorem ext_cyc {a b : List Int} (hl : a.length = b.length) (h : ∀ i, cyc a i = cyc b i) : a = b := ext_getD hl fun i hi => by
  rw [← cyc_lt hi, ← cyc_lt (b := b) (by omega)]
  exact h i
theorem getD_append_l {a b : List Int} {i : Nat} (h : i < a.length) : (a ++ b).getD i 0 = a.getD i 0 := by
  rw [List.getD_eq_getElem?_getD, List.getD_eq_getElem?_getD, List.getElem?_append_left h]
theorem getD_append_r {a b : List Int} {i : Nat} (h : a.length ≤ i) : (a ++ b).getD i 0 = b.getD (i - a.length) 0 := by
  rw [List.getD_eq_getElem?_getD, List.getD_eq_getElem?_getD, List.getElem?_append_right h]
theorem getD_take {a : List Int} {i s : Nat} (h : i < s) : (a.take s).getD i 0 = a.getD i 0 := by
  rw [List.getD_eq_getElem?_getD, List.getD_eq_getElem?_getD, List.getElem?_take, if_pos h]
/-! ### a turn of the bar -/
theorem cyc_rot {b : List Int} {x : Int} (i : Nat) : cyc (x :: b) (i + 1) = cyc (b ++ [x]) i := by
  unfold cyc
  rw [List.length_cons, List.length_append, List.length_cons, List.length_nil, Nat.zero_add]
  by_cases h : i % (b.length + 1) = b.length
  · have e : (i + 1) % (b.length + 1) = 0 := by
      rw [Nat.add_mod, h]
      by_cases h0 : b.length = 0
      · rw [h0]
      · rw [Nat.mod_eq_of_lt (a := 1) (by omega), Nat.mod_self]
    rw [e, h, getD_append_r (Nat.le_refl _), Nat.sub_self]
    rfl
  · have hlt : i % (b.length + 1) < b.length := by
      have := Nat.mod_lt i (show 0 < b.length + 1 by omega)
      omega
    have e : (i + 1) % (b.length + 1) = i % (b.length + 1) + 1 := by
      rw [Nat.add_mod, Nat.mod_eq_of_lt (a := 1) (by omega), Nat.mod_eq_of_lt (by omega)]
    rw [e, getD_append_l hlt]
    rfl
theorem vl_rot {h b : List Int} {x : Int} (d : Nat) : vl h (x :: b) d = vl (h ++ [x]) (b ++ [x]) d := by
  by_cases h1 : d < h.length
  · rw [vl_lt h1, vl_lt (by simp; omega), getD_append_l h1]
  · by_cases h2 : d = h.length
    · subst h2
      rw [vl_ge (Nat.le_refl _), Nat.sub_self, vl_lt (by simp), getD_append_r (Nat.le_refl _), Nat.sub_self]
      unfold cyc
      rw [Nat.zero_mod]
      rfl
    · rw [vl_ge (by omega), vl_ge (by simp; omega)]
      have e : d - h.length = (d - (h ++ [x]).length) + 1 := by simp; omega
      rw [e, cyc_rot]
theorem strip_vl : ∀ (r b : List Int) (d : Nat), vl (strip r b).1.reverse (strip r b).2 d = vl r.reverse b d
  | [], b, d => rfl
  | x :: r, b, d => by
    unfold strip
    split
    · rename_i hb
      rw [strip_vl r (x :: b.dropLast) d, vl_rot, List.reverse_cons]
      obtain ⟨ys, e⟩ := List.getLast?_eq_some_iff.mp hb
      subst e
      rw [List.dropLast_concat]
    · rfl
theorem strip_last : ∀ (r b : List Int), (strip r b).1 = [] ∨ (strip r b).1.head? ≠ (strip r b).2.getLast?
  | [], b => .inl rfl
  | x :: r, b => by
    unfold strip
    split
    · exact strip_last r _
    · rename_i hb
      exact .inr fun e => hb (by rw [← e]; rfl)
/-! ### what a period is -/
theorem rep_getD (t : List Int) (ht : 0 < t.length) : ∀ (k i : Nat), i < t.length * k → ((List.replicate k t).flatten).getD i 0 = cyc t i
  | 0, i, h => by omega
  | k + 1, i, h => by
    rw [List.replicate_succ, List.flatten_cons]
    by_cases hi : i < t.length
    · rw [getD_append_l hi, cyc_lt hi]
    · rw [getD_append_r (by omega), rep_getD t ht k (i - t.length) (by rw [Nat.mul_succ] at h; omega)]
      have e : i = (i - t.length) + t.length := by omega
      conv => rhs; rw [e, cyc_add]
theorem perOk_iff {b : List Int} {s : Nat} (hs : 1 ≤ s) (hs2 : s ≤ b.length) : perOk b s = true ↔ s ∣ b.length ∧ ∀ i, cyc b (i + s) = cyc b i := by
  have ht : (b.take s).length = s := by rw [List.length_take]; omega
  unfold perOk
  rw [Bool.and_eq_true, beq_iff_eq, beq_iff_eq]
  constructor
  · rintro ⟨h1, h2⟩
    have hd : s ∣ b.length := Nat.dvd_of_mod_eq_zero h1
    refine ⟨hd, fun i => ?_⟩
    obtain ⟨k, hk⟩ := hd
    have hk' : b.length / s = k := by rw [hk, Nat.mul_div_cancel_left _ (by omega)]
    have hc : ∀ j, cyc b j = cyc (b.take s) j := fun j => by
      have hb0 : 0 < b.length := by omega
      have hj := Nat.mod_lt j hb0
      have e1 : cyc b j = ((List.replicate (b.length / s) (b.take s)).flatten).getD (j % b.length) 0 := by rw [h2]; rfl
      rw [e1, rep_getD _ (by omega) _ _ (by rw [ht, hk', ← hk]; exact hj)]
      unfold cyc
      rw [ht, hk, Nat.mod_mul_right_mod]
    rw [hc, hc]
    have := cyc_add (b.take s) i
    rw [ht] at this
    exact this
  · rintro ⟨hd, h⟩
    refine ⟨Nat.mod_eq_zero_of_dvd hd, ?_⟩
    obtain ⟨k, hk⟩ := hd
    have hk' : b.length / s = k := by rw [hk, Nat.mul_div_cancel_left _ (by omega)]
    have hl : ((List.replicate (b.length / s) (b.take s)).flatten).length = b.length := by
      rw [hk']
      simp [ht]
      rw [Nat.mul_comm, ← hk]
    have hm : ∀ k i, cyc b (i + s * k) = cyc b i := fun k => by
      induction k with
      | zero => intro i; rfl
      | succ k ih => intro i; rw [Nat.mul_succ, ← Nat.add_assoc, h, ih]
    refine ext_getD hl fun i hi => ?_
    rw [hl] at hi
    rw [rep_getD _ (by omega) _ _ (by rw [ht, hk', ← hk]; exact hi)]
    unfold cyc
    rw [ht, getD_take (Nat.mod_lt _ (by omega)), ← cyc_lt (b := b) (Nat.lt_of_lt_of_le (Nat.mod_lt _ (by omega)) hs2), ← cyc_lt hi]
    have := hm (i / s) (i % s)
    rw [Nat.mod_add_div] at this
    exact this.symm
/-- the bar has no shorter one -/
def Prim (b : List Int) : Prop := b ≠ [] ∧ ∀ s, 1 ≤ s → s ∣ b.length → (∀ i, cyc b (i + s) = cyc b i) → s = b.length
/-- no other form of the same days is shorter -/
def Tight (h b : List Int) : Prop := Prim b ∧ (h = [] ∨ h.getLast? ≠ b.getLast?)
theorem prim_take {b : List Int} (hb : b ≠ []) : Prim (b.take (per b)) := by
  obtain ⟨p1, p2, p3, p4⟩ := per_spec hb
  have ht : (b.take (per b)).length = per b := by rw [List.length_take]; omega
  obtain ⟨q1, q2⟩ := (perOk_iff p2 p3).mp p1
  have hm : ∀ k i, cyc b (i + per b * k) = cyc b i := fun k => by
    induction k with
    | zero => intro i; rfl
    | succ k ih => intro i; rw [Nat.mul_succ, ← Nat.add_assoc, q2, ih]
  have hc : ∀ j, cyc (b.take (per b)) j = cyc b j := fun j => by
    unfold cyc
    rw [ht, getD_take (Nat.mod_lt _ (by omega)), ← cyc_lt (b := b) (Nat.lt_of_lt_of_le (Nat.mod_lt _ (by omega)) p3)]
    have := hm (j / per b) (j % per b)
    rw [Nat.mod_add_div] at this
    exact this.symm
  refine ⟨fun e => by rw [e] at ht; simp at ht; omega, fun s s1 s2 s3 => ?_⟩
  rw [ht] at s2 ⊢
  have sle := Nat.le_of_dvd (by omega) s2
  rcases Nat.lt_or_ge s (per b) with hh | hh
  · have := (perOk_iff s1 (by omega)).mpr ⟨Nat.dvd_trans s2 q1, fun i => by rw [← hc, ← hc]; exact s3 i⟩
    rw [p4 s s1 hh] at this
    cases this
  · omega
theorem take_vl {h b : List Int} (hb : b ≠ []) (d : Nat) : vl h (b.take (per b)) d = vl h b d := by
  obtain ⟨p1, p2, p3, p4⟩ := per_spec hb
  have ht : (b.take (per b)).length = per b := by rw [List.length_take]; omega
  obtain ⟨q1, q2⟩ := (perOk_iff p2 p3).mp p1
  have hm : ∀ k i, cyc b (i + per b * k) = cyc b i := fun k => by
    induction k with
    | zero => intro i; rfl
    | succ k ih => intro i; rw [Nat.mul_succ, ← Nat.add_assoc, q2, ih]
  by_cases hd : d < h.length
  · rw [vl_lt hd, vl_lt hd]
  · rw [vl_ge (by omega), vl_ge (by omega)]
    generalize d - h.length = j
    unfold cyc
    rw [ht, getD_take (Nat.mod_lt _ (by omega)), ← cyc_lt (b := b) (Nat.lt_of_lt_of_le (Nat.mod_lt _ (by omega)) p3)]
    have := hm (j / per b) (j % per b)
    rw [Nat.mod_add_div] at this
    exact this.symm
theorem prim_rot {b : List Int} {x : Int} (h : Prim (b ++ [x])) : Prim (x :: b) := by
  refine ⟨List.cons_ne_nil _ _, fun s s1 s2 s3 => ?_⟩
  have hl : (x :: b).length = (b ++ [x]).length := by simp
  rw [hl] at s2 ⊢
  exact h.2 s s1 s2 fun i => by rw [← cyc_rot, ← cyc_rot, show i + s + 1 = (i + 1) + s by omega]; exact s3 (i + 1)
theorem strip_prim : ∀ (r b : List Int), Prim b → Prim (strip r b).2
  | [], b, h => h
  | x :: r, b, h => by
    unfold strip
    split
    · rename_i hb
      obtain ⟨ys, e⟩ := List.getLast?_eq_some_iff.mp hb
      subst e
      rw [List.dropLast_concat]
      exact strip_prim r _ (prim_rot h)
    · exact h
theorem tight_vl {h b : List Int} (hb : b ≠ []) (d : Nat) : vl (tightM h b).1 (tightM h b).2 d = vl h b d := by
  unfold tightM
  rw [strip_vl, List.reverse_reverse, take_vl hb]
theorem tight_tight {h b : List Int} (hb : b ≠ []) : Tight (tightM h b).1 (tightM h b).2 := by
  unfold tightM
  refine ⟨strip_prim _ _ (prim_take hb), ?_⟩
  rcases strip_last h.reverse (b.take (per b)) with e | e
  · exact .inl (by rw [e]; rfl)
  · exact .inr (by rw [List.getLast?_reverse]; exact e)
/-! ### two periods -/
def PerF (f : Nat → Int) (N p : Nat) : Prop := ∀ d, N ≤ d → f (d + p) = f d
theorem PerF.mul {f : Nat → Int} {N p : Nat} (h : PerF f N p) : ∀ k, PerF f N (p * k)
  | 0 => fun d _ => rfl
  | k + 1 => fun d hd => by rw [Nat.mul_succ, ← Nat.add_assoc, h _ (by omega), PerF.mul h k d hd]
theorem PerF.sub {f : Nat → Int} {N p q : Nat} (h : PerF f N (p + q)) (g : PerF f N q) : PerF f N p := fun d hd => by
  rw [← g (d + p) (by omega), Nat.add_assoc, h d hd]
theorem PerF.mod {f : Nat → Int} {N p q : Nat} (h : PerF f N p) (g : PerF f N q) : PerF f N (q % p) := by
  refine PerF.sub (q := p * (q / p)) ?_ (h.mul _)
  rw [Nat.mod_add_div]
  exact g
theorem PerF.gcd {f : Nat → Int} {N : Nat} (p q : Nat) : PerF f N p → PerF f N q → PerF f N (Nat.gcd p q) := by
  induction p, q using Nat.gcd.induction with
  | H0 n =>
    intro _ g
    rw [Nat.gcd_zero_left]
    exact g
  | H1 m n hm ih =>
    intro h g
    rw [Nat.gcd_rec]
    exact ih (h.mod g) h
theorem vl_per (h b : List Int) : PerF (vl h b) h.length b.length := fun d hd => by
  rw [vl_ge (by omega), vl_ge hd, show d + b.length - h.length = (d - h.length) + b.length by omega, cyc_add]
theorem prim_per {h b : List Int} (hp : Prim b) {N g : Nat} (hg : 1 ≤ g) (hd : g ∣ b.length) (h1 : PerF (vl h b) N g) : g = b.length := by
  refine hp.2 g hg hd fun i => ?_
  have hb : 0 < b.length := List.length_pos_iff.mpr hp.1
  have e1 : cyc b (i + g) = vl h b (h.length + (i + b.length * N) + g) := by
    rw [Nat.add_assoc, vl_cyc, show i + b.length * N + g = (i + g) + b.length * N by omega, cyc_mul]
  have e2 : cyc b i = vl h b (h.length + (i + b.length * N)) := by rw [vl_cyc, cyc_mul]
  rw [e1, e2]
  refine h1 _ ?_
  have : N ≤ b.length * N := Nat.le_mul_of_pos_left N hb
  omega
theorem head_le {h b h' b' : List Int} (T : Tight h b) (T' : Tight h' b') (e : ∀ d, vl h b d = vl h' b' d) (hl : b.length = b'.length) : h'.length ≤ h.length := by
  rcases Nat.lt_or_ge h.length h'.length with hh | hh
  · exfalso
    have hb' : 0 < b'.length := List.length_pos_iff.mpr T'.1.1
    rcases T'.2 with z | z
    · rw [z] at hh
      simp at hh
    · refine z ?_
      have n' : h' ≠ [] := fun q => by rw [q] at hh; simp at hh
      have e1 : vl h b (h'.length - 1 + b.length) = vl h b (h'.length - 1) := vl_per h b _ (by omega)
      rw [e, e, vl_lt (d := h'.length - 1) (by omega), show h'.length - 1 + b.length = h'.length + (b'.length - 1) by omega, vl_cyc, cyc_lt (by omega)] at e1
      rw [List.getLast?_eq_getElem?, List.getLast?_eq_getElem?]
      rw [List.getD_eq_getElem?_getD, List.getD_eq_getElem?_getD, List.getElem?_eq_getElem (show b'.length - 1 < b'.length by omega), List.getElem?_eq_getElem (show h'.length - 1 < h'.length by omega)] at e1
      rw [List.getElem?_eq_getElem (show h'.length - 1 < h'.length by omega), List.getElem?_eq_getElem (show b'.length - 1 < b'.length by omega)]
      exact congrArg some e1.symm
  · exact hh
/-- THE one tight form -/
theorem tight_one {h b h' b' : List Int} (T : Tight h b) (T' : Tight h' b') (e : ∀ d, vl h b d = vl h' b' d) : h = h' ∧ b = b' := by
  have hb : 0 < b.length := List.length_pos_iff.mpr T.1.1
  have hb' : 0 < b'.length := List.length_pos_iff.mpr T'.1.1
  have ef : vl h b = vl h' b' := funext e
  have P1 : PerF (vl h b) (max h.length h'.length) b.length := fun d hd => vl_per h b d (by omega)
  have P2 : PerF (vl h b) (max h.length h'.length) b'.length := by
    rw [ef]
    exact fun d hd => vl_per h' b' d (by omega)
  have G := PerF.gcd _ _ P1 P2
  have g0 : 1 ≤ Nat.gcd b.length b'.length := Nat.gcd_pos_of_pos_left _ hb
  have l1 := prim_per T.1 g0 (Nat.gcd_dvd_left _ _) G
  rw [ef] at G
  have l2 := prim_per T'.1 g0 (Nat.gcd_dvd_right _ _) G
  have hl : b.length = b'.length := by omega
  have hh : h.length = h'.length := Nat.le_antisymm (head_le T' T (fun d => (e d).symm) hl.symm) (head_le T T' e hl)
  refine ⟨ext_getD hh fun i hi => ?_, ext_cyc hl fun i => ?_⟩
  · rw [← vl_lt (b := b) hi, ← vl_lt (h := h') (b := b') (by omega)]
    exact e i
  · rw [← vl_cyc (h := h), ← vl_cyc (h := h') (b := b'), hh]
    exact e _
theorem tight_eq {h b h' b' : List Int} (hb : b ≠ []) (hb' : b' ≠ []) (e : ∀ d, vl h b d = vl h' b' d) : tightM h b = tightM h' b' := by
  obtain ⟨e1, e2⟩ := tight_one (tight_tight (h := h) hb) (tight_tight (h := h') hb') fun d => by rw [tight_vl hb, tight_vl hb', e]
  exact Prod.ext e1 e2
theorem tight_self {h b : List Int} (T : Tight h b) : tightM h b = (h, b) := by
  obtain ⟨e1, e2⟩ := tight_one (tight_tight (h := h) T.1.1) T fun d => tight_vl T.1.1 d
  exact Prod.ext e1 e2
theorem tight_iff {h b : List Int} (hb : b ≠ []) : tightM h b = (h, b) ↔ Tight h b := by
  refine ⟨fun e => ?_, tight_self⟩
  have := tight_tight (h := h) hb
  rw [e] at this
  exact this
/-- days beyond where both go in step -/
theorem vl_step {h b : List Int} {H L : Nat} (hH : h.length ≤ H) (hL : b.length ∣ L) (hL0 : 0 < L) (d : Nat) (hd : H + L ≤ d) : vl h b d = vl h b (H + (d - H) % L) := by
  obtain ⟨k, hk⟩ := hL
  have P : PerF (vl h b) H L := by
    rw [hk]
    exact PerF.mul (fun d hd => vl_per h b d (by omega)) k
  have e : d = (H + (d - H) % L) + L * ((d - H) / L) := by
    have := Nat.mod_add_div (d - H) L
    omega
  conv => lhs; rw [e]
  exact P.mul _ _ (by omega)
theorem vl_all {h b h' b' : List Int} {H L : Nat} (h1 : h.length ≤ H) (h2 : h'.length ≤ H) (d1 : b.length ∣ L) (d2 : b'.length ∣ L) (hL0 : 0 < L) (e : ∀ d, d < H + L → vl h b d = vl h' b' d) (d : Nat) : vl h b d = vl h' b' d := by
  by_cases hd : d < H + L
  · exact e d hd
  · rw [vl_step h1 d1 hL0 d (by omega), vl_step h2 d2 hL0 d (by omega)]
    exact e _ (by have := Nat.mod_lt (d - H) hL0; omega)
/-- of all forms of the same days the tight one has the shortest bar, and the shortest head -/
theorem tight_least {h b h' b' : List Int} (T : Tight h b) (hb' : b' ≠ []) (e : ∀ d, vl h b d = vl h' b' d) : b.length ∣ b'.length ∧ h.length ≤ h'.length := by
  have e2 := tight_eq T.1.1 hb' e
  rw [tight_self T] at e2
  have l := tight_len (h := h') hb'
  rw [← e2] at l
  obtain ⟨p1, p2, p3, p4⟩ := per_spec hb'
  refine ⟨?_, l.1⟩
  show b.length ∣ b'.length
  rw [l.2]
  exact ((perOk_iff p2 p3).mp p1).1
/-! ### noughts and ones stay so -/
theorem Bits.append {a b : List Int} (h : Bits a) (g : Bits b) : Bits (a ++ b) := fun x hx => (List.mem_append.mp hx).elim (h x) (g x)
theorem Bits.sub {a b : List Int} (h : Bits b) (s : ∀ x ∈ a, x ∈ b) : Bits a := fun x hx => h x (s x hx)
theorem Bits.take {a : List Int} (h : Bits a) (n : Nat) : Bits (a.take n) := h.sub fun _ hx => List.mem_of_mem_take hx
theorem Bits.drop {a : List Int} (h : Bits a) (n : Nat) : Bits (a.drop n) := h.sub fun _ hx => List.mem_of_mem_drop hx
theorem Bits.getD {a : List Int} (h : Bits a) (i : Nat) : a.getD i 0 = 0 ∨ a.getD i 0 = 1 := by
  rw [List.getD_eq_getElem?_getD]
  cases e : a[i]? with
  | none => exact .inl rfl
  | some x => exact h x (List.mem_of_getElem? e)
theorem vl_bits {h b : List Int} (hh : Bits h) (hb : Bits b) (d : Nat) : vl h b d = 0 ∨ vl h b d = 1 := by
  unfold vl
  split
  · exact hh.getD _
  · exact hb.getD _
theorem strip_bits : ∀ (r b : List Int), Bits r → Bits b → Bits (strip r b).1 ∧ Bits (strip r b).2
  | [], b, h, g => ⟨h, g⟩
  | x :: r, b, h, g => by
    unfold strip
    split
    · exact strip_bits r _ (h.sub fun _ hy => List.mem_cons_of_mem _ hy) fun y hy => by
        rcases List.mem_cons.mp hy with e | e
        · exact h y (by rw [e]; exact List.mem_cons_self)
        · exact g y (List.dropLast_subset b e)
    · exact ⟨h, g⟩
theorem tight_bits {h b : List Int} (hh : Bits h) (hb : Bits b) : Bits (tightM h b).1 ∧ Bits (tightM h b).2 := by
  have s := strip_bits h.reverse (b.take (per b)) (hh.sub fun _ hx => List.mem_reverse.mp hx) (hb.take _)
  exact ⟨s.1.sub fun _ hx => List.mem_reverse.mp hx, s.2⟩
theorem bit_eq {x y : Int} (hx : x = 0 ∨ x = 1) (hy : y = 0 ∨ y = 1) : (x == 1) = (y == 1) ↔ x = y := by
  rcases hx with e | e <;> rcases hy with f | f <;> subst e f <;> simp
/-- a pulse as the laws draw it: tight, of bits, small -/
structure Pu (n : Nat) (P : List Int × List Int) : Prop where
  t : Tight P.1 P.2
  b1 : Bits P.1
  b2 : Bits P.2
  l1 : P.1.length ≤ n
  l2 : P.2.length ≤ n
theorem Pu.ne {n : Nat} {P : List Int × List Int} (p : Pu n P) : P.2 ≠ [] := p.t.1.1
theorem pu_tight {n : Nat} {h b : List Int} (hb : b ≠ []) (h1 : Bits h) (h2 : Bits b) (l1 : h.length ≤ n) (l2 : b.length ≤ n) : Pu n (tightM h b) := by
  have l := tight_len (h := h) hb
  have p := per_spec hb
  have s := tight_bits h1 h2
  exact ⟨tight_tight hb, s.1, s.2, by omega, by omega⟩
theorem pulse_ok (ns : List Int) (a : Nat) : Pu 14 (pulseM ns a) := by
  obtain ⟨f1, f2, f3, f4, f5⟩ := form_ok ns a
  exact pu_tight f2 f4 f5 f1 f3
theorem bI_bits {α : Type} (l : List α) (f : α → Bool) : Bits (l.map fun x => bI (f x)) := fun x hx => by
  obtain ⟨y, _, e⟩ := List.mem_map.mp hx
  subst e
  unfold bI
  split <;> simp
theorem Pu.eq_of {n : Nat} {P Q : List Int × List Int} (p : Pu n P) (q : Pu n Q) {H L : Nat} (h1 : P.1.length ≤ H) (h2 : Q.1.length ≤ H) (d1 : P.2.length ∣ L) (d2 : Q.2.length ∣ L) (hL0 : 0 < L)
    (e : ∀ d, d < H + L → (vl P.1 P.2 d == 1) = (vl Q.1 Q.2 d == 1)) : P = Q := by
  have r := tight_one p.t q.t (vl_all h1 h2 d1 d2 hL0 fun d hd => (bit_eq (vl_bits p.b1 p.b2 d) (vl_bits q.b1 q.b2 d)).mp (e d hd))
  exact Prod.ext r.1 r.2
end Pb

namespace Pb
open PySem PySem.Spec PyProof.Rows L2 Evn
variable [Evn.Tbs]
/-- a whole number from lo to hi -/
def inW (d : PD) (lo hi : Int) : Bool := match d with
  | .int i => decide (lo ≤ i) && decide (i ≤ hi)
  | _ => false
theorem inW_bit {d : PD} : inW d 0 1 = true → ∃ i : Int, d = .int i ∧ (i = 0 ∨ i = 1) := by
  cases d with
  | int i =>
    intro h
    simp only [inW, Bool.and_eq_true, decide_eq_true_eq] at h
    exact ⟨i, rfl, by omega⟩
  | _ => intro h; cases h
theorem all_bits : ∀ {xs : List PD}, (xs.all fun x => inW x 0 1) = true → ∃ l : List Int, xs = l.map .int ∧ Bits l
  | [], _ => ⟨[], rfl, fun x hx => by cases hx⟩
  | d :: xs, h => by
    rw [List.all_cons, Bool.and_eq_true] at h
    obtain ⟨i, rfl, hi⟩ := inW_bit h.1
    obtain ⟨l, rfl, hl⟩ := all_bits h.2
    exact ⟨i :: l, rfl, fun x hx => by
      rcases List.mem_cons.mp hx with e | e
      · rw [e]; exact hi
      · exact hl x e⟩
theorem bits_all : ∀ {l : List Int}, Bits l → ((l.map PyData.int).all fun x => inW x 0 1) = true
  | [], _ => rfl
  | i :: l, h => by
    rw [List.map_cons, List.all_cons, bits_all (l := l) fun x hx => h x (List.mem_cons_of_mem _ hx), Bool.and_true]
    rcases h i List.mem_cons_self with e | e <;> subst e <;> rfl
theorem all_getD {p : PD → Bool} {xs : List PD} : xs.all p = true ↔ ∀ i, i < xs.length → p (xs.getD i .none) = true := by
  rw [List.all_eq_true]
  constructor
  · intro h i hi
    rw [List.getD_eq_getElem?_getD, List.getElem?_eq_getElem hi]
    exact h _ (List.getElem_mem hi)
  · intro h x hx
    obtain ⟨i, hi, e⟩ := List.getElem_of_mem hx
    have := h i hi
    rw [List.getD_eq_getElem?_getD, List.getElem?_eq_getElem hi, e] at this
    exact this
theorem inW_int {d : PD} {lo hi : Int} (h : inW d lo hi = true) : ∃ i : Int, d = .int i ∧ lo ≤ i ∧ i ≤ hi := by
  cases d with
  | int i =>
    simp only [inW, Bool.and_eq_true, decide_eq_true_eq] at h
    exact ⟨i, rfl, h.1, h.2⟩
  | _ => cases h
theorem all_ints {lo hi : Int} : ∀ {xs : List PD}, (xs.all fun x => inW x lo hi) = true → ∃ l : List Int, xs = l.map .int ∧ ∀ x ∈ l, lo ≤ x ∧ x ≤ hi
  | [], _ => ⟨[], rfl, fun x hx => by cases hx⟩
  | d :: xs, h => by
    rw [List.all_cons, Bool.and_eq_true] at h
    obtain ⟨i, rfl, h1, h2⟩ := inW_int h.1
    obtain ⟨l, rfl, hl⟩ := all_ints h.2
    exact ⟨i :: l, rfl, fun x hx => by
      rcases List.mem_cons.mp hx with e | e
      · rw [e]; exact ⟨h1, h2⟩
      · exact hl x e⟩
theorem ints_all {lo hi : Int} : ∀ {l : List Int}, (∀ x ∈ l, lo ≤ x ∧ x ≤ hi) → ((l.map PyData.int).all fun x => inW x lo hi) = true
  | [], _ => rfl
  | i :: l, h => by
    rw [List.map_cons, List.all_cons, ints_all fun x hx => h x (List.mem_cons_of_mem _ hx), Bool.and_true]
    have := h i List.mem_cons_self
    show (decide (lo ≤ i) && decide (i ≤ hi)) = true
    rw [decide_eq_true this.1, decide_eq_true this.2]
    rfl
/-- a list of numbers: 1 to n of them, each from 1 to v -/
def numsOk (n v : Int) (d : PD) : Bool := match d with
  | .list xs => decide (1 ≤ (xs.length : Int)) && decide ((xs.length : Int) ≤ n) && xs.all fun x => inW x 1 v
  | _ => false
theorem nums_good {n v : Int} {ns : List Int} (h1 : ns ≠ []) (h2 : (ns.length : Int) ≤ n) (h3 : ∀ x ∈ ns, 1 ≤ x ∧ x ≤ v) : numsOk n v (.list (ns.map .int)) = true := by
  have := List.length_pos_iff.mpr h1
  unfold numsOk
  dsimp only
  rw [ints_all h3, List.length_map, decide_eq_true (by omega), decide_eq_true h2]
  rfl
theorem nums_ok {n v : Int} {d : PD} (h : numsOk n v d = true) : ∃ ns : List Int, d = .list (ns.map .int) ∧ ns ≠ [] ∧ (ns.length : Int) ≤ n ∧ ∀ x ∈ ns, 1 ≤ x ∧ x ≤ v := by
  unfold numsOk at h
  split at h
  · rename_i xs
    simp only [Bool.and_eq_true, decide_eq_true_eq] at h
    obtain ⟨ns, rfl, h3⟩ := all_ints h.2
    rw [List.length_map] at h
    exact ⟨ns, rfl, fun e => by subst e; simp at h, h.1.2, h3⟩
  · cases h
theorem eqv_LB (a b : List Bool) : PyData.eqv (.list (a.map .bool)) (.list (b.map .bool)) = (a == b) := by rw [PyData.eqv, eqvAll_bool]
theorem shp_LB (a : List Bool) : SeqAt.shaped (.list (a.map .bool)) = true := by simp [SeqAt.shaped, PyData.canLay0, PyData.depth, layAll_bool, depAll_bool]
theorem getD_ints {l : List Int} {i : Nat} (h : i < l.length) : (l.map PyData.int).getD i .none = .int (l.getD i 0) := by
  rw [List.getD_eq_getElem?_getD, List.getD_eq_getElem?_getD, List.getElem?_map, List.getElem?_eq_getElem h]
  rfl
theorem atI_of {ds : List PD} {i : Nat} (h : i < ds.length) : atI ds (i : Int) = some (ds.getD i .none) := atI_nat (by rw [List.getD_eq_getElem?_getD, List.getElem?_eq_getElem h]; rfl)
theorem ixN_nat {n k : Nat} (h : k < n) : ixN n ((k : Nat) : Int) = some k := by
  simp [ixN]
  omega
theorem at_bools {bs : List Bool} {i : Nat} (h : i < bs.length) : atI (bs.map PyData.bool) (i : Int) = some (.bool (bs.getD i false)) := by
  refine atI_nat ?_
  rw [List.getElem?_map, List.getElem?_eq_getElem h, List.getD_eq_getElem?_getD, List.getElem?_eq_getElem h]
  rfl
section
variable {K : PySem.W.Frag} {σ : L2.St} {H H' : Hp} {ta tb tc te tl : TE} {t u : TT} {v : V} {d e f : PD} {ds es : List PD} {r : R2} {ar : TA} {n : Nat} {item : Nat → PD} {wi wj : TI}
theorem inV_ints (i : Int) : ∀ ns : List Int, inV (.int i) (ns.map V.int) = ns.contains i
  | [] => rfl
  | n :: r => by
    have ih := inV_ints i r
    unfold inV at ih ⊢
    rw [List.map_cons, List.any_cons, ih, List.contains_cons]
    show ((n == i) || _) = _
    rw [Bool.beq_comm]
theorem flat_ints : ∀ ns : List Int, (ns.map V.int).all flatV = true
  | [] => rfl
  | _ :: r => by rw [List.map_cons, List.all_cons, flat_ints r]; rfl
/-- xs.index(i), of ints -/
theorem ed_index {ns : List Int} {i : Int} {j : Nat} (ha : EvD K ta σ H (.list (ns.map .int))) (hb : EvD K tb σ H (.int i)) (hj : j < ns.length) (hv : ns.getD j 0 = i) (hno : ∀ m, m < j → ns.getD m 0 ≠ i) : EvD K (tBM K "list" (rIndex K) ta (tCons tb tNil)) σ H (.int (j : Nat)) := fun H1 x Q q => ha H1 x _ fun v H2 x2 hv2 => by
  obtain ⟨a, xs, rfl, hs, ha2⟩ := dp_lst hv2
  have e := dpa_ints ha2
  subst e
  refine ⟨Or.inl ⟨rfl, _, hs⟩, hb H2 (x.trans x2) _ fun w H3 x3 hw => ?_⟩
  have e2 := dp_int hw
  subst e2
  have gt : ∀ m, m < ns.length → (ns.map V.int)[m]? = some (.int (ns.getD m 0)) := fun m hm => by
    rw [List.getElem?_map, List.getElem?_eq_getElem hm, List.getD_eq_getElem?_getD, List.getElem?_eq_getElem hm]
    rfl
  refine ⟨a, ns.map V.int, .int i, j, .int i, rfl, rfl, ex_l x3 hs, rfl, flat_ints ns, by rw [gt j hj, hv], by show (i == i) = true; simp, fun m z hm hz => ?_, q _ H3 (x2.trans x3) (.int _)⟩
  rw [gt m (by omega)] at hz
  cases hz
  show (ns.getD m 0 == i) = false
  rw [beq_eq_false_iff_ne]
  exact hno m hm
theorem max_ex : ∀ {ns : List Int}, ns ≠ [] → ∃ m, m ∈ ns ∧ ∀ y ∈ ns, y ≤ m
  | [x], _ => ⟨x, List.mem_cons_self, fun y hy => by rw [List.mem_singleton.mp hy]; exact Int.le_refl _⟩
  | x :: z :: r, _ => by
    obtain ⟨m, h1, h2⟩ := max_ex (ns := z :: r) (by simp)
    by_cases h : m ≤ x
    · exact ⟨x, List.mem_cons_self, fun y hy => by
        rcases List.mem_cons.mp hy with e | e
        · omega
        · have := h2 y e; omega⟩
    · exact ⟨m, List.mem_cons_of_mem _ h1, fun y hy => by
        rcases List.mem_cons.mp hy with e | e
        · omega
        · exact h2 y e⟩
theorem ed_maxL {ns : List Int} {m : Int} (ha : EvD K ta σ H (.list (ns.map .int))) (h1 : m ∈ ns) (h2 : ∀ y ∈ ns, y ≤ m) : EvD K (tCB (rMax K) (tCons ta tNil)) σ H (.int m) := ed_cb (eds_cons ha eds_nil) fun H1 _ vs hv Q q => by
  obtain ⟨x, rfl, hx⟩ := dpa1 hv
  obtain ⟨a, xs, rfl, hs, ha2⟩ := dp_lst hx
  have e := dpa_ints ha2
  subst e
  refine ⟨a, ns, rfl, hs, List.length_pos_iff.mpr fun e => by (subst e; cases h1), fun m' m1 m2 => ?_⟩
  have e2 : m' = m := by
    have := h2 m' m1
    have := m2 m h1
    omega
  subst e2
  exact q _ H1 (Ex.refl H1) (.int _)
/-- any, of truths -/
theorem ed_any {bs : List Bool} (ha : EvD K ta σ H (.list (bs.map .bool))) : EvD K (tCB (rAny K) (tCons ta tNil)) σ H (.bool (bs.any id)) := ed_cb (eds_cons ha eds_nil) fun H1 _ vs hv Q q => by
  obtain ⟨x, rfl, hx⟩ := dpa1 hv
  obtain ⟨a, xs, rfl, hs, ha2⟩ := dp_lst hx
  have e := dpa_bls ha2
  subst e
  exact ⟨a, bs, rfl, hs, q _ H1 (Ex.refl H1) (.bl _)⟩
/-- [e for x in xs], xs of ints -/
theorem en_lcM {j : Nat} {vs : List Nat} {ns : List Int} (d : Int → PD) (hi : EvI K wi σ H (ns.map PyData.int).length (fun i => (ns.map PyData.int).getD i .none)) (hz : ns.length ≤ 90000) (hL : ∀ k, noL (d k) = true) (hw : ∀ x, wipe ((wipe σ vs).set j (some x)) vs = wipe σ vs)
    (he : ∀ k H1, k ∈ ns → Ex H H1 → EvD K te ((wipe σ vs).set j (some (.int k))) H1 (d k)) : EvN K (tLc wi (gName j) tYes te vs) σ H (ns.map d) := by
  have h := en_lc1 (K := K) (te := te) (fun i => d (ns.getD i 0)) hi (by rw [List.length_map]; exact hz) (fun _ _ => hL _) hw (fun i x H1 hi x1 hx => by
    rw [List.length_map] at hi
    rw [getD_ints hi] at hx
    rw [dp_int hx]
    exact he _ H1 (by rw [List.getD_eq_getElem?_getD, List.getElem?_eq_getElem hi]; exact List.getElem_mem hi) x1)
  rw [List.length_map] at h
  have e : (List.range ns.length).map (fun i => d (ns.getD i 0)) = ns.map d := by
    apply List.ext_getElem
    · simp
    · intro i h1 h2
      rw [List.length_map] at h2
      rw [List.getElem_map, List.getElem_map, List.getElem_range, List.getD_eq_getElem?_getD, List.getElem?_eq_getElem h2]
      rfl
  rw [e] at h
  exact h
/-- sorted, of ints -/
def sortM (ns : List Int) : List Int := ns.mergeSort (fun a b => decide (a ≤ b))
theorem sort_perm (ns : List Int) : (sortM ns).Perm ns := List.mergeSort_perm _ _
theorem sort_pw (ns : List Int) : (sortM ns).Pairwise (· ≤ ·) := by
  have := List.pairwise_mergeSort (le := fun a b : Int => decide (a ≤ b)) (fun a b c h1 h2 => by simp at *; omega) (fun a b => by simp; omega) ns
  exact this.imp fun h => of_decide_eq_true h
theorem ed_sorted {ns : List Int} (ha : EvD K ta σ H (.list (ns.map .int))) (hl : ns.length < 64) : EvD K (tCB (rSorted K) (tCons ta tNil)) σ H (.list ((sortM ns).map .int)) := ed_cb (eds_cons ha eds_nil) fun H1 _ vs hv Q q => by
  obtain ⟨x, rfl, hx⟩ := dpa1 hv
  obtain ⟨a, xs, rfl, hs, ha2⟩ := dp_lst hx
  have e := dpa_ints ha2
  subst e
  refine ⟨a, ns, rfl, hs, hl, fun ns' p hp hw hn => ?_⟩
  have e : ns' = sortM ns := List.Perm.eq_of_pairwise (le := fun a b : Int => a ≤ b) (fun a b _ _ h1 h2 => Int.le_antisymm h1 h2) hw (sort_pw ns) (hp.trans (sort_perm ns).symm)
  subst e
  exact q _ _ (Ex.new hn) (.lst (sq_of upd_same) dpa_of_ints)
/-- a comprehension that picks nothing -/
theorem en_lc0 {j : Nat} {vs : List Nat} {tt : TT} (hi : EvI K wi σ H n item) (hz : n ≤ 90000) (hw : ∀ x, wipe ((wipe σ vs).set j (some x)) vs = wipe σ vs)
    (ht : ∀ i x H1, i < n → Ex H H1 → Dp K H1 x (item i) → EvT tt ((wipe σ vs).set j (some x)) H1 false) : EvN K (tLc wi (gName j) tt te vs) σ H [] := by
  have h := en_lc2 (K := K) (te := te) (fun _ => false) (fun _ => PyData.none) hi hz (fun _ _ h => by cases h) hw ht (fun _ _ _ _ _ _ h => by cases h)
  have e : gv n (fun _ => false) (fun _ => PyData.none) = [] := by simp [gv]
  rw [e] at h
  exact h
theorem gv_nil {α : Type} {n : Nat} {f : Nat → Bool} {d : Nat → α} : gv n f d = [] ↔ ∀ i, i < n → f i = false := by
  unfold gv
  rw [List.map_eq_nil_iff, List.filter_eq_nil_iff]
  constructor
  · intro h i hi
    have := h i (List.mem_range.mpr hi)
    simpa using this
  · intro h i hi
    rw [h i (List.mem_range.mp hi)]
    decide
theorem gv_filter {α : Type} {ns : List Int} {f : Int → Bool} {g : Int → α} : gv ns.length (fun i => f (ns.getD i 0)) (fun i => g (ns.getD i 0)) = (ns.filter f).map g := by
  have e : (List.range ns.length).map (fun i => ns.getD i 0) = ns := by
    apply List.ext_getElem
    · simp
    · intro i h1 h2
      rw [List.getElem_map, List.getElem_range, List.getD_eq_getElem?_getD, List.getElem?_eq_getElem h2]
      rfl
  unfold gv
  conv => rhs; rw [← e]
  rw [List.filter_map, List.map_map]
  rfl
theorem filt_nil {p : Int → Bool} : ∀ {l : List Int}, (l.filter p == []) = !l.any p
  | [] => rfl
  | x :: r => by
    rw [List.filter_cons, List.any_cons]
    cases h : p x with
    | true => rfl
    | false =>
      rw [if_neg (by decide), filt_nil]
      rfl
/-- [e for x in xs if t], xs of ints -/
theorem en_lcF {j : Nat} {vs : List Nat} {tt : TT} {ns : List Int} (f : Int → Bool) (d : Int → Int) (hi : EvI K wi σ H (ns.map PyData.int).length (fun i => (ns.map PyData.int).getD i .none)) (hz : ns.length ≤ 90000) (hw : ∀ x, wipe ((wipe σ vs).set j (some x)) vs = wipe σ vs)
    (ht : ∀ k H1, k ∈ ns → Ex H H1 → EvT tt ((wipe σ vs).set j (some (.int k))) H1 (f k)) (he : ∀ k H1, k ∈ ns → Ex H H1 → f k = true → EvD K te ((wipe σ vs).set j (some (.int k))) H1 (.int (d k))) : EvN K (tLc wi (gName j) tt te vs) σ H (((ns.filter f).map d).map .int) := by
  have h := en_lc2 (K := K) (te := te) (fun i => f (ns.getD i 0)) (fun i => PyData.int (d (ns.getD i 0))) hi (by rw [List.length_map]; exact hz) (fun _ _ _ => rfl) hw (fun i x H1 hi x1 hx => by
    rw [List.length_map] at hi
    rw [getD_ints hi] at hx
    rw [dp_int hx]
    exact ht _ H1 (by rw [List.getD_eq_getElem?_getD, List.getElem?_eq_getElem hi]; exact List.getElem_mem hi) x1) (fun i x H1 hi x1 hx hf => by
    rw [List.length_map] at hi
    rw [getD_ints hi] at hx
    rw [dp_int hx]
    exact he _ H1 (by rw [List.getD_eq_getElem?_getD, List.getElem?_eq_getElem hi]; exact List.getElem_mem hi) x1 hf)
  rw [List.length_map, gv_filter (f := f) (g := fun k => PyData.int (d k))] at h
  rw [List.map_map]
  exact h
/-! in: ints in a list of ints -/
theorem rd_in {neg : Bool} {i : Int} {ns : List Int} : RD2 K (rIn K neg) H (.int i) (.list (ns.map .int)) (.bool (if neg then !ns.contains i else ns.contains i)) := fun H1 _ v w hv hw Q q => by
  rw [dp_int hv]
  obtain ⟨a, xs, rfl, hs, ha⟩ := dp_lst hw
  have e := dpa_ints ha
  subst e
  refine ⟨a, _, rfl, .inl hs, rfl, flat_ints ns, q _ H1 (Ex.refl H1) ?_⟩
  rw [inV_ints]
  exact .bl _
theorem ed_inI {i : Int} {ns : List Int} (ha : EvD K ta σ H (.int i)) (hb : EvD K tb σ H (.list (ns.map .int))) : EvD K (tOp (rInX K) ta tb) σ H (.bool (ns.contains i)) := ed_op ha hb (RD2.or (rd_in (neg := false)))
theorem ed_notInI {i : Int} {ns : List Int} (ha : EvD K ta σ H (.int i)) (hb : EvD K tb σ H (.list (ns.map .int))) : EvD K (tOp (rNotInX K) ta tb) σ H (.bool (!ns.contains i)) := ed_op ha hb (RD2.or (rd_in (neg := true)))
theorem ej_ixT {i : Nat} {k : Int} (hv : σ[i]? = some (some v)) (h : Dp K H v (.tuple ds)) (hk : atI ds k = some (.tuple es)) : EvJ K (iTup K (tOp (rIx K) (tVar i) (tC (.int k)))) σ H es.length (fun i => es.getD i .none) := fun H1 x R q => by
  obtain ⟨a, xs, rfl, hs, ha⟩ := dp_tup h
  obtain ⟨y, hy, hd⟩ := atI_dpa ha hk
  obtain ⟨b, ys, rfl, hs2, ha2⟩ := dp_tup hd
  exact ⟨_, hv, .inr (.inl ⟨a, xs, k, .ref b, rfl, rfl, ex_t x hs, hy, b, rfl, ⟨ys, ex_t x hs2⟩, q (Itt K b) H1 _ _ (Ex.refl H1) (dpa_len ha2 ▸ walk_tup (xs := ys)) (fun H3 x3 => ex_t x3 hs2) fun i Hx z Hy hi x3 y => yat_dp (a := b) ha2 (by rw [dpa_len ha2]; exact hi) x3 y⟩)⟩
variable {D : Ends} {tu tw tz : TS} {g : TG}
theorem gn {i : Nat} {x : V} {Q : L2.St → Hp → Prop} (h : Q (σ.set i (some x)) H) : gName i x σ H Q := h
/-- xs[k] = e -/
theorem sd_setI {i : Nat} {p : Addr} {xs : List V} {k : Int} {j : Nat} (hi : σ[i]? = some (some (.ref p))) (hp : H p = some (.lst xs)) (hk : EvD K tb σ H (.int k)) (h : EvD K te σ H d) (hj : ixN xs.length k = some j) (q : ∀ v H1, Ex H H1 → Dp K H1 v d → D.nx σ (upd H1 p (.lst (xs.set j v)))) :
    tAsg te (gSub (tVar i) tb rSetL) D σ H := h H (Ex.refl H) _ fun v H1 x hv => ⟨_, hi, hk H1 x _ fun w H2 x2 hw => by
  have e := dp_int hw
  subst e
  exact ⟨p, xs, k, j, rfl, rfl, x2 _ _ (x _ _ hp), hj, q v H2 (x.trans x2) (dp_ex x2 hv)⟩⟩
theorem qd_setI {i : Nat} {p : Addr} {xs : List V} {k : Int} {j : Nat} (hi : σ[i]? = some (some (.ref p))) (hp : H p = some (.lst xs)) (hk : EvD K tb σ H (.int k)) (h : EvD K te σ H d) (hj : ixN xs.length k = some j) (q : ∀ v H1, Ex H H1 → Dp K H1 v d → tz D σ (upd H1 p (.lst (xs.set j v)))) :
    tSeq (tAsg te (gSub (tVar i) tb rSetL)) tz D σ H := sd_setI (D := { D with nx := tz D }) hi hp hk h hj q
theorem dpa_set : ∀ {xs : List V} {ds : List PD} {j : Nat} {v : V} {d : PD}, DpAll K H xs ds → Dp K H v d → DpAll K H (xs.set j v) (ds.set j d)
  | _, _, _, _, _, .nil, _ => .nil
  | _, _, 0, _, _, .cons _ t, hv => .cons hv t
  | _, _, j + 1, _, _, .cons h t, hv => .cons h (dpa_set t hv)
/-- d[k] = e -/
theorem qd_dputK {i j : Nat} {a : Addr} {kvs : List (Key × V)} {k : Key} (hi : σ[i]? = some (some (.ref a))) (hj : σ[j]? = some (some (kV k))) (ha : H a = some (.dK kvs)) (h : EvD K te σ H d) (hl : kvs.length ≤ 100000) (q : ∀ v H1, Ex H H1 → Dp K H1 v d → tz D σ (upd H1 a (.dK (putK kvs k v)))) :
    tSeq (sDPut (tVar i) (tVar j) te) tz D σ H := h H (Ex.refl H) _ fun v H1 x hv => ⟨_, hi, _, hj, a, _, rfl, DPut.k (x _ _ ha) (Nat.lt_of_le_of_lt hl (by rw [sizeLine_eq]; decide)), q v H1 x hv⟩
theorem sd_dputT {i j : Nat} {a b : Addr} {kvs : List (List Key × V)} {k : List Key} (hi : σ[i]? = some (some (.ref a))) (hj : σ[j]? = some (some (.ref b))) (ha : H a = some (.dT kvs)) (hb : H b = some (.tup (k.map kV))) (h : EvD K te σ H d) (hl : kvs.length ≤ 100000) (q : ∀ v H1, Ex H H1 → Dp K H1 v d → D.nx σ (upd H1 a (.dT (putK kvs k v)))) :
    sDPut (tVar i) (tVar j) te D σ H := h H (Ex.refl H) _ fun v H1 x hv => ⟨_, hi, _, hj, a, _, rfl, DPut.t (x _ _ ha) (x _ _ hb) (Nat.lt_of_le_of_lt hl (by rw [sizeLine_eq]; decide)), q v H1 x hv⟩
/-- x = tuple(ys), ys a list: a new tuple -/
theorem qd_asgTup {i : Nat} (h : EvD K te σ H (.list ds)) (k : ∀ p H1 xs, H p = none → Ex H H1 → H1 p = some (.tup xs) → DpAll K H1 xs ds → tz D (σ.set i (some (.ref p))) H1) : tSeq (tAsg (tCB (rTupleOf K) (tCons te tNil)) (gName i)) tz D σ H := by
  refine (eds_cons h eds_nil) H (Ex.refl H) (fun vs H1 => rTupleOf K vs H1 fun x H2 => gName i x σ H2 (tz D)) fun vs H1 x1 hv => ?_
  obtain ⟨v, rfl, hd⟩ := dpa1 hv
  obtain ⟨a, xs, rfl, hs, ha⟩ := dp_lst hd
  exact ⟨a, xs, rfl, .inl ⟨hs, fun l hl => k l _ xs (fresh_back x1 hl) (x1.trans (Ex.new hl)) upd_same (dpa_ex (Ex.new hl) ha)⟩⟩
theorem qd_dnewT {i : Nat} (k : ∀ p, H p = none → tz D (σ.set i (some (.ref p))) (upd H p (.dT []))) : tSeq (tAsg tDNewT (gName i)) tz D σ H := fun p hp => k p hp
theorem qd_dnewK {i : Nat} (k : ∀ p, H p = none → tz D (σ.set i (some (.ref p))) (upd H p (.dK []))) : tSeq (tAsg tDNewK (gName i)) tz D σ H := fun p hp => k p hp
theorem s_brk (h : D.bk σ H) : tBreak D σ H := h
/-- xs.extend(ys) -/
theorem sd_ext {l : Addr} {xs : List V} (hl : H l = some (.lst xs)) (ha : Ev ta σ H (.ref l)) (h : EvN K te σ H ds) (hz : xs.length + ds.length ≤ 100000) (k : ∀ H1 zs, Ex H H1 → DpAll K H1 zs ds → D.nx σ (upd H1 l (.lst (xs ++ zs)))) :
    tDrop (tBM K "list" rExtend ta (tCons te tNil)) D σ H := ha H (Ex.refl H) _ fun H1 e1 =>
  ⟨Or.inl ⟨rfl, xs, sq_of (e1 l _ hl)⟩, h H1 e1 _ fun p H2 zs hp e2 hp2 hd => ⟨l, p, xs, zs, rfl, rfl, e2 l _ (e1 l _ hl), hp2, sz_of (by rw [dpa_len hd]; exact hz), k H2 zs (e1.trans e2) hd⟩⟩
/-- a promise that tells of the objects themselves -/
def SpG {γ : Type} (K : PySem.W.Frag) (args : γ → List PD) (side : γ → Prop) (Res : γ → Hp → V → Hp → Prop) : Sp := fun vs H Q _ => ∃ g, DpAll K H vs (args g) ∧ side g ∧ ∀ v H', Ex H H' → Res g H v H' → Q v H'
theorem qd_callG {γ : Type} {args : γ → List PD} {side : γ → Prop} {Res : γ → Hp → V → Hp → Prop} {E : XK} (x : γ) (ha : EvDs K ar σ H (args x)) (hs : side x) (k : ∀ v H0 H1, Ex H H0 → Ex H0 H1 → Res x H0 v H1 → g v σ H1 (tz D)) : tSeq (tAsg (tCall (SpG K args side Res) [] E ar) g) tz D σ H :=
  ha H (Ex.refl H) _ fun vs H1 x1 hv => by
    show SpG K args side Res (vs ++ []) H1 _ E
    rw [List.append_nil]
    exact ⟨x, hv, hs, fun v H2 x2 r => k v H1 H2 x1 x2 r⟩
/-- an if whose ends meet at M -/
theorem q_ifM {b : Bool} (M : L2.St → Hp → Prop) (h : EvT t σ H b) (h1 : (∀ σ' H', M σ' H' → tz D σ' H') → b = true → ∀ H1, Ex H H1 → tu { D with nx := tz D } σ H1) (h2 : b = false → ∀ H1, Ex H H1 → M σ H1) (k : ∀ σ' H', M σ' H' → tz D σ' H') : tSeq (tIfS t tu tNext) tz D σ H :=
  q_when h (h1 k) fun hb H1 x => k _ _ (h2 hb H1 x)
theorem q_ifE {b : Bool} (M : L2.St → Hp → Prop) (h : EvT t σ H b) (h1 : (∀ σ' H', M σ' H' → tz D σ' H') → b = true → ∀ H1, Ex H H1 → tu { D with nx := tz D } σ H1) (h2 : (∀ σ' H', M σ' H' → tz D σ' H') → b = false → ∀ H1, Ex H H1 → tw { D with nx := tz D } σ H1) (k : ∀ σ' H', M σ' H' → tz D σ' H') : tSeq (tIfS t tu tw) tz D σ H :=
  s_if (D := { D with nx := tz D }) h (h1 k) (h2 k)
end
section
variable {P : Program} {w : World} {K : PySem.W.Frag} {mg : Str → Option Value} {base : Heap}
theorem can_G {x : Str} {st : Stmt} {N ps : List Str} {k : Nat} {γ : Type} {args : γ → List PD} {side : γ → Prop} {Res : γ → Hp → V → Hp → Prop} (F : Dfn K mg x st ps) (S : FnScope N ps (defScope st)) (len : ∀ g, (args g).length = ps.length)
    (hbody : ∀ (cdv : Value) (A : Around) (outer : List Env) (s : Shared) (H : Hp) (vs : List V) (Q : VK) (E : XK) (f : Addr) (g : γ), Room k (A.deeper (envOfC x (defScope st) s.heap.objs.size f cdv)) → DpAll K H vs (args g) → side g → (∀ v H', Ex H H' → Res g H v H' → Q v H') →
      ∃ t, PSs (cxOf CX0 P w K mg base N x (defScope st) f cdv A outer s H E).nox (defBody st) t ∧ t { nx := fun _ H' => Q .non H', rt := Q } (start N vs) H) : Can P w K mg base CX0 (k + 1) x (SpG K args side Res) := by
  obtain ⟨f, fd, F, hm, b⟩ := F.ex
  exact ⟨f, fd, ps, F.ok S (fun vs H Q E ⟨g, hv, _⟩ => (dpa_len hv).trans (len g)) (fun cdv A outer s H vs Q E hr ⟨g, hv, hs, q⟩ => hbody cdv A outer s H vs Q E f g hr hv hs q), hm, F.kp, b⟩
end
end Pb

namespace Pb
open PySem PySem.Spec PyProof.Rows L2 Evn
variable [Evn.Tbs]
/-! ### what may be raised -/
/-- what a def that may raise hands on: data, or an error of the class at C -/
def Out (K : PySem.W.Frag) (H : Hp) (Q : VK) (E : XK) : Except Addr PD → Prop
  | .ok d => ∀ v H', Ex H H' → Dp K H' v d → Q v H'
  | .error C => ∀ H', Ex H H' → E (.ref C) none H'
def SpX {γ : Type} (K : PySem.W.Frag) (args : γ → List PD) (side : γ → Prop) (res : γ → Except Addr PD) : Sp := fun vs H Q E => ∃ g, DpAll K H vs (args g) ∧ side g ∧ Out K H Q E (res g)
theorem Out.ok {K : PySem.W.Frag} {H : Hp} {Q : VK} {E : XK} {r : Except Addr PD} {d : PD} (o : Out K H Q E r) (e : r = .ok d) : ∀ v H', Ex H H' → Dp K H' v d → Q v H' := by subst e; exact o
theorem Out.er {K : PySem.W.Frag} {H : Hp} {Q : VK} {E : XK} {r : Except Addr PD} {C : Addr} (o : Out K H Q E r) (e : r = .error C) : ∀ H', Ex H H' → E (.ref C) none H' := by subst e; exact o
/-- te never comes back: what it raises is seen to -/
def EvR (te : TE) (σ : L2.St) (H : Hp) : Prop := ∀ H1, Ex H H1 → ∀ Q : VK, te σ H1 Q
def EvRs (ta : TA) (σ : L2.St) (H : Hp) : Prop := ∀ H1, Ex H H1 → ∀ Q : List V → Hp → Prop, ta σ H1 Q
section
variable {K : PySem.W.Frag} {σ : L2.St} {H H' : Hp} {ar : TA} {te : TE} {d : PD} {ds : List PD} {D : Ends} {g : TG} {tz : TS}
theorem ed_callX {γ : Type} {args : γ → List PD} {side : γ → Prop} {res : γ → Except Addr PD} {E : XK} {d : PD} (g : γ) (ha : EvDs K ar σ H (args g)) (hs : side g) (hr : res g = .ok d) : EvD K (tCall (SpX K args side res) [] E ar) σ H d :=
  ed_call ha fun H1 vs x hv Q q => ⟨g, hv, hs, by rw [hr]; exact q⟩
theorem er_callX {γ : Type} {args : γ → List PD} {side : γ → Prop} {res : γ → Except Addr PD} {E : XK} {C : Addr} (g : γ) (ha : EvDs K ar σ H (args g)) (hs : side g) (hr : res g = .error C) (k : ∀ H2, Ex H H2 → E (.ref C) none H2) : EvR (tCall (SpX K args side res) [] E ar) σ H := fun H1 x Q =>
  ha H1 x _ fun vs H2 x2 hv => by
    show SpX K args side res (vs ++ []) H2 Q E
    rw [List.append_nil]
    exact ⟨g, hv, hs, by rw [hr]; exact fun H3 x3 => k H3 ((x.trans x2).trans x3)⟩
/-- in a try's body -/
theorem ed_S {sp : Sp} {E : L2.St → XK} (h : EvD K (tCall sp [] (E σ) ar) σ H d) : EvD K (tCallS sp E ar) σ H d := by
  have e : (tCall sp [] (E σ) ar) σ = (tCallS sp E ar) σ := by
    funext H1 Q
    show (ar σ H1 fun vs H2 => sp (vs ++ []) H2 Q (E σ)) = ar σ H1 fun vs H2 => sp vs H2 Q (E σ)
    simp only [List.append_nil]
  intro H1 x Q q
  have := h H1 x Q q
  rw [e] at this
  exact this
theorem er_S {sp : Sp} {E : L2.St → XK} (h : EvR (tCall sp [] (E σ) ar) σ H) : EvR (tCallS sp E ar) σ H := by
  have e : (tCall sp [] (E σ) ar) σ = (tCallS sp E ar) σ := by
    funext H1 Q
    show (ar σ H1 fun vs H2 => sp (vs ++ []) H2 Q (E σ)) = ar σ H1 fun vs H2 => sp vs H2 Q (E σ)
    simp only [List.append_nil]
  intro H1 x Q
  have := h H1 x Q
  rw [e] at this
  exact this
theorem EvR.ex (x : Ex H H') (h : EvR te σ H) : EvR te σ H' := fun H1 a Q => h H1 (x.trans a) Q
theorem er_cons1 {ta : TA} (h : EvR te σ H) : EvRs (tCons te ta) σ H := fun H1 x Q => h H1 x _
theorem er_cons2 {ta : TA} (h : EvD K te σ H d) (h2 : EvRs ta σ H) : EvRs (tCons te ta) σ H := fun H1 x Q => h H1 x _ fun v H2 x2 _ => h2 H2 (x.trans x2) _
theorem er_call {sp : Sp} {E : XK} (h : EvRs ar σ H) : EvR (tCall sp [] E ar) σ H := fun H1 x Q => h H1 x _
theorem sx_asg (h : EvR te σ H) : tAsg te g D σ H := h H (Ex.refl H) _
theorem qx_asg (h : EvR te σ H) : tSeq (tAsg te g) tz D σ H := h H (Ex.refl H) _
theorem sx_ret (h : EvR te σ H) : tRet te D σ H := h H (Ex.refl H) _
theorem qx_ret (h : EvR te σ H) : tSeq (tRet te) tz D σ H := h H (Ex.refl H) _
theorem sx_drop (h : EvR te σ H) : tDrop te D σ H := h H (Ex.refl H) _
theorem qx_drop (h : EvR te σ H) : tSeq (tDrop te) tz D σ H := h H (Ex.refl H) _
theorem sd_drop (h : EvD K te σ H d) (k : ∀ H1, Ex H H1 → D.nx σ H1) : tDrop te D σ H := h H (Ex.refl H) _ fun _ H1 x _ => k H1 x
theorem qd_drop (h : EvD K te σ H d) (k : ∀ H1, Ex H H1 → tz D σ H1) : tSeq (tDrop te) tz D σ H := h H (Ex.refl H) _ fun _ H1 x _ => k H1 x
end
section
variable {K : PySem.W.Frag} {σ : L2.St} {H H' H0 : Hp} {ar : TA} {te : TE} {d : PD} {ds : List PD} {D : Ends} {g : TG} {tz : TS}
variable {γ : Type} {args : γ → List PD} {side : γ → Prop} {res : γ → Except Addr PD} {r : Except Addr PD}
/-- return f(..), f and the def that may raise, what f hands on being handed on -/
theorem sd_retO {E : XK} (g : γ) (ha : EvDs K ar σ H (args g)) (hs : side g) (x : Ex H0 H) (q : Out K H0 D.rt E r) (e : res g = r) : tRet (tCall (SpX K args side res) [] E ar) D σ H := by
  subst e
  cases hr : res g with
  | ok d => exact sd_ret (ed_callX g ha hs hr) fun v H1 x1 hv => q.ok hr v H1 (x.trans x1) hv
  | error C => exact sx_ret (er_callX g ha hs hr fun H2 x2 => q.er hr H2 (x.trans x2))
/-- .. in a try -/
theorem sd_retS {E : L2.St → XK} (g : γ) (ha : EvDs K ar σ H (args g)) (hs : side g) (k1 : ∀ d, res g = .ok d → ∀ v H1, Ex H H1 → Dp K H1 v d → D.rt v H1) (k2 : ∀ C, res g = .error C → ∀ H1, Ex H H1 → E σ (.ref C) none H1) : tRet (tCallS (SpX K args side res) E ar) D σ H := by
  cases hr : res g with
  | ok d => exact sd_ret (ed_S (ed_callX g ha hs hr)) (k1 d hr)
  | error C => exact sx_ret (er_S (er_callX g ha hs hr (k2 C hr)))
theorem sd_dropS {E : L2.St → XK} (g : γ) (ha : EvDs K ar σ H (args g)) (hs : side g) (k1 : ∀ d, res g = .ok d → ∀ H1, Ex H H1 → D.nx σ H1) (k2 : ∀ C, res g = .error C → ∀ H1, Ex H H1 → E σ (.ref C) none H1) : tDrop (tCallS (SpX K args side res) E ar) D σ H := by
  cases hr : res g with
  | ok d => exact sd_drop (ed_S (ed_callX g ha hs hr)) (k1 d hr)
  | error C => exact sx_drop (er_S (er_callX g ha hs hr (k2 C hr)))
end
/-! ### defs that may raise -/
section
variable {P : Program} {w : World} {K : PySem.W.Frag} {mg : Str → Option Value} {base : Heap}
theorem can_X {x : Str} {st : Stmt} {N ps : List Str} {k : Nat} {γ : Type} {args : γ → List PD} {side : γ → Prop} {res : γ → Except Addr PD} (F : Dfn K mg x st ps) (S : FnScope N ps (defScope st)) (len : ∀ g, (args g).length = ps.length)
    (hbody : ∀ (cdv : Value) (A : Around) (outer : List Env) (s : Shared) (H : Hp) (vs : List V) (Q : VK) (E : XK) (f : Addr) (g : γ), Room k (A.deeper (envOfC x (defScope st) s.heap.objs.size f cdv)) → DpAll K H vs (args g) → side g → Out K H Q E (res g) →
      ∃ t, PSs (cxOf (L2.CX P w) P w K mg base N x (defScope st) f cdv A outer s H E) (defBody st) t ∧ t { nx := fun _ H' => Q .non H', rt := Q } (start N vs) H) : Can P w K mg base (L2.CX P w) (k + 1) x (SpX K args side res) := by
  obtain ⟨f, fd, F, hm, b⟩ := F.ex
  exact ⟨f, fd, ps, F.okX S (fun vs H Q E ⟨g, hv, _⟩ => (dpa_len hv).trans (len g)) (fun cdv A outer s H vs Q E hr ⟨g, hv, hs, q⟩ => hbody cdv A outer s H vs Q E f g hr hv hs q), hm, F.kp, b⟩
end
section
variable {X : Cx} {k j : Nat} {x : Str} {p pos : Pos} {e : Expr} {es : List Expr} {t : TA} {sp : Sp}
theorem pcX {E : XK} (c : Can X.prog X.w X.K X.mg X.base (L2.CX X.prog X.w) k x sp) (hr : Room j X.A) (hk : k ≤ j) (hg : Gl X x) (hx : Passes (L2.CX X.prog X.w) X E) (ha : PA X (e :: es) t)
    (hdb : (x == ("__debug__" : Str)) = false := by decide) (he : starEach (e :: es) X.env = (false, eval e X.env) :: starEach es X.env := by rfl) (hpl : (backTo pos (starEach es X.env)).any (·.1) = false := by rfl) :
    PE X (.Call (.Name x p) (e :: es) [] pos) (tCall sp [] E t) := by
  obtain ⟨f, fd, ps, F, hm, kp, b⟩ := c.ex
  exact pe_call F (hr.mono hk) hg hm kp b .nil hx ha hdb he hpl
theorem pcS {W : WX} (c : Can X.prog X.w X.K X.mg X.base (L2.CX X.prog X.w) k x sp) (hr : Room j X.A) (hk : k ≤ j) (hg : Gl X x) (tk : L2.Takes X W) (ha : PA X (e :: es) t)
    (hdb : (x == ("__debug__" : Str)) = false := by decide) (he : starEach (e :: es) X.env = (false, eval e X.env) :: starEach es X.env := by rfl) (hpl : (backTo pos (starEach es X.env)).any (·.1) = false := by rfl) :
    PE X (.Call (.Name x p) (e :: es) [] pos) (tCallS sp (WE W) t) := by
  obtain ⟨f, fd, ps, F, hm, kp, b⟩ := c.ex
  exact pe_callS F (hr.mono hk) hg hm kp b (fun σ => passAt tk σ) ha hdb he hpl
end
/-! ### classes -/
/-- an own class of errors, without own __init__ -/
structure ExcAt (K : PySem.W.Frag) (mg : Str → Option Value) (x : Str) (C : Addr) : Prop where
  g : mg x = some (.ref C)
  x : PySem.W.excIn K C [.type "ValueError", .type "Exception", .type "BaseException", .type "object"] "ValueError.__new__" = true
  k : PySem.W.keepIn K (.ref C) = true
  b : PySem.W.subIn K (.ref C) (.type "BaseException") = some true
  t : PySem.W.typeIn K (.ref C) = some (.type "type")
  i : PySem.W.isClsIn K C = true
  v : PySem.W.subIn K (.ref C) (.type "ValueError") = some true
  e : ExcC K C
theorem exm_of {K : PySem.W.Frag} {S C : Addr} {b : Bool} (h1 : PySem.W.subIn K (.ref C) (.type "BaseException") = some true) (h2 : PySem.W.isClsIn K C = true) (h3 : PySem.W.typeIn K (.ref C) = some (.type "type")) (h4 : PySem.W.subIn K (.ref S) (.ref C) = some b) :
    PySem.W.exmOne K (.ref S) (.ref C) = some b := by
  have e1 : (PySem.W.subIn K (.ref C) (.type "BaseException") == some true) = true := by rw [h1] <;> rfl
  have e2 : ((PySem.W.clsIn K C).isSome && PySem.W.typeIn K (.ref C) == some (.type "type")) = true := by
    have h2' : (PySem.W.clsIn K C).isSome = true := h2
    rw [h2', h3] <;> rfl
  show (if (PySem.W.subIn K (.ref C) (.type "BaseException") == some true) = true then (if ((PySem.W.clsIn K C).isSome && PySem.W.typeIn K (.ref C) == some (.type "type")) = true then PySem.W.subIn K (.ref S) (.ref C) else none) else none) = some b
  rw [if_pos e1, if_pos e2]
  exact h4
theorem kit_of {K : PySem.W.Frag} {S C : Addr} {b : Bool} (h2 : PySem.W.isClsIn K C = true) (h3 : PySem.W.typeIn K (.ref C) = some (.type "type")) (h4 : PySem.W.subIn K (.ref S) (.ref C) = some b) (h5 : PySem.W.subIn K (.ref C) (.ref C) = some true) :
    PySem.W.kitOne K (.ref S) (.ref C) = some b := by
  unfold PySem.W.kitOne
  by_cases q : ((Value.ref S == Value.ref C) = true)
  · rw [if_pos q]
    have e : S = C := Value.ref.inj (beq_iff_eq.mp q)
    subst e
    rw [h5] at h4
    exact h4
  · rw [if_neg q]
    have e2 : ((PySem.W.clsIn K C).isSome && PySem.W.typeIn K (.ref C) == some (.type "type")) = true := by
      have h2' : (PySem.W.clsIn K C).isSome = true := h2
      rw [h2', h3] <;> rfl
    show (if ((PySem.W.clsIn K C).isSome && PySem.W.typeIn K (.ref C) == some (.type "type")) = true then PySem.W.subIn K (.ref S) (.ref C) else none) = some b
    rw [if_pos e2]
    exact h4
theorem kit_val {K : PySem.W.Frag} {S : Addr} {b : Bool} (h4 : PySem.W.subIn K (.ref S) (.type "ValueError") = some b) : PySem.W.kitOne K (.ref S) (.type "ValueError") = some b := by
  unfold PySem.W.kitOne
  rw [if_neg (by intro q; exact nomatch (beq_iff_eq.mp q))]
  show (if PySem.W.kitMeta "ValueError" = true then PySem.W.subIn K (.ref S) (.type "ValueError") else none) = some b
  rw [if_pos (by decide +kernel)]
  exact h4
/-- an error of the class at S, the class at C: does a clause catch it, is it an instance -/
structure Rel (K : PySem.W.Frag) (S C : Addr) (b : Bool) : Prop where
  m : PySem.W.exmOne K (.ref S) (.ref C) = some b
  i : PySem.W.kitOne K (.ref S) (.ref C) = some b
/-- raise X('m') -/
theorem px_raise {X : Cx} {W : WX} {x m : Str} {C : Addr} {j : Nat} {p p2 pos pos' : Pos} (h : ExcAt X.K X.mg x C) (hc : X.calm = true) (tk : L2.Takes X W) (hg : Gl X x) (hdb : (x == ("__debug__" : Str)) = false := by decide) :
    PS X (.Raise (some (.Call (.Name x p) [.Constant (.str m) j p2] [] pos)) none pos') (fun _ σ H => W (.ref C) none σ H) :=
  ps_raise hc tk (L2.pmk_own PySem.F.excBase_ValueError h.x h.g h.k (raises_own h.b h.t) hg hdb)
/-- isinstance(e, c) of what is caught -/
theorem pss_exD {X : Cx} {ss : List Stmt} {t : Addr → TS} {p : Addr → Prop} (h : ∀ D0, p D0 → PSs X ss (t D0)) : PSs X ss (fun D σ H => ∃ D0, p D0 ∧ t D0 D σ H) := ⟨fun pins s σ H D I ⟨D0, hp, q⟩ => (h D0 hp).run pins s σ H D I q⟩
theorem call_isEK {X : Cx} {K : PySem.W.Frag} {a S : Addr} {oe : Obj} {pn : List (Addr × Obj)} {cls : Value} {d : Option Addr} (e : X.K = K) (hp : cls = .ref S ∧ d = none ∧ ExcC K S) (hz : Zc cls d oe) (hf : ∃ vs, oe.data = .fields vs) : CallR (X.suite a ((a, oe) :: pn)) (.builtin "isinstance") (rIsE K S a) := by
  subst e
  obtain ⟨rfl, rfl, h⟩ := hp
  exact call_isE h hz hf
theorem q_seq {D : Ends} {σ : L2.St} {H : Hp} {t tz : TS} (h : t { D with nx := tz D } σ H) : tSeq t tz D σ H := h
section
variable {K : PySem.W.Frag} {σ : L2.St} {H : Hp} {i : Nat} {a S C : Addr} {b : Bool}
theorem ed_isE (hv : σ[i]? = some (some (.ref a))) (h : PySem.W.kitOne K (.ref S) (.ref C) = some b) : EvD K (tCB (rIsE K S a) (tCons (tVar i) (tCons (tC (.ref C)) tNil))) σ H (.bool b) := fun H1 x Q q =>
  ⟨_, hv, .ref C, .ref C, b, rfl, fun u r => r, h, q _ H1 (Ex.refl H1) (.bl b)⟩
theorem ed_isEV (hv : σ[i]? = some (some (.ref a))) (h : PySem.W.kitOne K (.ref S) (.type "ValueError") = some b) : EvD K (tCB (rIsE K S a) (tCons (tVar i) (tCons (tC (.ty "ValueError")) tNil))) σ H (.bool b) := fun H1 x Q q =>
  ⟨_, hv, .ty "ValueError", .type "ValueError", b, rfl, fun u r => r, h, q _ H1 (Ex.refl H1) (.bl b)⟩
end
end Pb

namespace Pb
open PySem PySem.Spec PyProof.Rows L2 Evn
variable [Evn.Tbs]
/-! ### values that are no data: an empty dict -/
def EmD (H : Hp) (v : V) : Prop := ∃ a, v = .ref a ∧ H a = some (.dK [])
theorem EmD.ex {H H' : Hp} {v : V} (x : Ex H H') (h : EmD H v) : EmD H' v := by
  obtain ⟨a, e, h⟩ := h
  exact ⟨a, e, x _ _ h⟩
/-- no list of numbers -/
inductive BadV (K : PySem.W.Frag) (n m : Int) (H : Hp) (v : V) : Prop where
  | d (g : PD) (h : Dp K H v g) (w : numsOk n m g = false)
  | e (h : EmD H v)
theorem BadV.ex {K : PySem.W.Frag} {n m : Int} {H H' : Hp} {v : V} (x : Ex H H') (h : BadV K n m H v) : BadV K n m H' v := by
  cases h with
  | d g h w => exact .d g (dp_ex x h) w
  | e h => exact .e (h.ex x)
/-- te reads a value of which p tells -/
def EvV (te : TE) (σ : L2.St) (H : Hp) (p : V → Hp → Prop) : Prop := ∀ H1, Ex H H1 → ∀ Q : VK, (∀ v H2, Ex H1 H2 → p v H2 → Q v H2) → te σ H1 Q
def EvA (ta : TA) (σ : L2.St) (H : Hp) (p : List V → Hp → Prop) : Prop := ∀ H1, Ex H H1 → ∀ Q : List V → Hp → Prop, (∀ vs H2, Ex H1 H2 → p vs H2 → Q vs H2) → ta σ H1 Q
section
variable {K : PySem.W.Frag} {σ : L2.St} {H H' : Hp} {ar : TA} {te tb : TE} {d : PD} {D : Ends} {i : Nat} {v : V} {p : V → Hp → Prop} {ps : List V → Hp → Prop} {tz : TS}
theorem evv_d (h : EvD K te σ H d) : EvV te σ H (fun v H => Dp K H v d) := h
theorem ev_dnewK : EvV tDNewK σ H (fun v H => EmD H v) := fun H1 x Q q a ha => q _ _ (Ex.new ha) ⟨a, rfl, upd_same⟩
theorem ev_vr (hv : σ[i]? = some (some v)) (h : ∀ H1, Ex H H1 → p v H1) : EvV (tVar i) σ H p := fun H1 x Q q => ⟨v, hv, q v H1 (Ex.refl _) (h H1 x)⟩
theorem EvV.to {p2 : V → Hp → Prop} (h : EvV te σ H p) (k : ∀ v H1, Ex H H1 → p v H1 → p2 v H1) : EvV te σ H p2 := fun H1 x Q q => h H1 x Q fun v H2 x2 hv => q v H2 x2 (k v H2 (x.trans x2) hv)
theorem EvA.to {ps2 : List V → Hp → Prop} (h : EvA ar σ H ps) (k : ∀ vs H1, Ex H H1 → ps vs H1 → ps2 vs H1) : EvA ar σ H ps2 := fun H1 x Q q => h H1 x Q fun v H2 x2 hv => q v H2 x2 (k v H2 (x.trans x2) hv)
theorem ea_nil : EvA tNil σ H (fun vs _ => vs = []) := fun H1 x Q q => q [] H1 (Ex.refl _) rfl
theorem ea_cons (h : EvV te σ H p) (pm : ∀ {v H H'}, Ex H H' → p v H → p v H') (h2 : EvA ar σ H ps) : EvA (tCons te ar) σ H (fun vs H => ∃ v vs', vs = v :: vs' ∧ p v H ∧ ps vs' H) := fun H1 x Q q =>
  h H1 x _ fun v H2 x2 hv => h2 H2 (x.trans x2) _ fun vs H3 x3 hvs => q _ _ (x2.trans x3) ⟨v, vs, rfl, pm x3 hv, hvs⟩
/-- [..][i] -/
theorem ev_ixN {k : Int} (h : EvA ar σ H (fun vs H => vs.length ≤ 100000 ∧ ∃ x, atI vs k = some x ∧ p x H)) (pm : ∀ {v H H'}, Ex H H' → p v H → p v H') (hb : EvD K tb σ H (.int k)) : EvV (tOp (rIx K) (tLst ar) tb) σ H p := fun H1 x Q q =>
  h H1 x _ fun vs H2 x2 ⟨hl, v, hv, hp⟩ => ⟨sz_of hl, fun a ha => by
    have x3 : Ex H2 (upd H2 a (.lst vs)) := Ex.new ha
    refine hb _ ((x.trans x2).trans x3) _ fun w H4 x4 hw => ?_
    have e := dp_int hw
    subst e
    exact .inl ⟨a, vs, k, v, rfl, rfl, sq_of (x4 _ _ upd_same), hv, q v H4 ((x2.trans x3).trans x4) (pm (x3.trans x4) hp)⟩⟩
theorem sv_asg {j : Nat} (h : EvV te σ H p) (k : ∀ v H1, Ex H H1 → p v H1 → D.nx (σ.set j (some v)) H1) : tAsg te (gName j) D σ H := h H (Ex.refl H) _ fun v H1 x hv => k v H1 x hv
theorem qv_asg {j : Nat} (h : EvV te σ H p) (k : ∀ v H1, Ex H H1 → p v H1 → tz D (σ.set j (some v)) H1) : tSeq (tAsg te (gName j)) tz D σ H := h H (Ex.refl H) _ fun v H1 x hv => k v H1 x hv
theorem ed_isLstE (hv : σ[i]? = some (some v)) (h : EmD H v) : EvD K (tCB (rIsi K) (tCons (tVar i) (tCons (tC (.ty "list")) tNil))) σ H (.bool false) := fun H1 x Q z => by
  obtain ⟨a, rfl, e⟩ := h
  exact ⟨_, hv, .ref a, .ty "list", .type "dict", .type "list", false, rfl, .ty _, .base (.dK (x _ _ e)), kit_ty (by decide +kernel), z _ H1 (Ex.refl H1) (.bl _)⟩
end
/-- a def that raises, told by what it is given -/
def SpB (n : Nat) (p : List V → Hp → Prop) (C : Addr) : Sp := fun vs H Q E => ∃ _ : Unit, vs.length = n ∧ p vs H ∧ ∀ H', Ex H H' → E (.ref C) none H'
/-- a def that answers data, told by what it is given -/
def SpW {γ : Type} (K : PySem.W.Frag) (n : Nat) (p : γ → List V → Hp → Prop) (res : γ → PD) : Sp := fun vs H Q _ => ∃ g, vs.length = n ∧ p g vs H ∧ ∀ v H', Ex H H' → Dp K H' v (res g) → Q v H'
section
variable {K : PySem.W.Frag} {σ : L2.St} {H : Hp} {ar : TA} {E : XK} {C : Addr} {n : Nat} {p : List V → Hp → Prop}
theorem er_callB (h : EvA ar σ H (fun vs H => vs.length = n ∧ p vs H)) (k : ∀ H2, Ex H H2 → E (.ref C) none H2) : EvR (tCall (SpB n p C) [] E ar) σ H := fun H1 x Q =>
  h H1 x _ fun vs H2 x2 hv => by
    show SpB n p C (vs ++ []) H2 Q E
    rw [List.append_nil]
    exact ⟨(), hv.1, hv.2, fun H3 x3 => k H3 ((x.trans x2).trans x3)⟩
theorem ed_callW {γ : Type} {p : γ → List V → Hp → Prop} {res : γ → PD} (g : γ) (h : EvA ar σ H (fun vs H => vs.length = n ∧ p g vs H)) : EvD K (tCall (SpW K n p res) [] E ar) σ H (res g) := fun H1 x Q q =>
  h H1 x _ fun vs H2 x2 hv => by
    show SpW K n p res (vs ++ []) H2 Q E
    rw [List.append_nil]
    exact ⟨g, hv.1, hv.2, fun v H3 x3 hd => q v H3 (x2.trans x3) hd⟩
end
section
variable {P : Program} {w : World} {K : PySem.W.Frag} {mg : Str → Option Value} {base : Heap}
theorem can_B {x : Str} {st : Stmt} {N ps : List Str} {k n : Nat} {p : List V → Hp → Prop} {C : Addr} (F : Dfn K mg x st ps) (S : FnScope N ps (defScope st)) (len : Unit → n = ps.length)
    (hbody : ∀ (cdv : Value) (A : Around) (outer : List Env) (s : Shared) (H : Hp) (vs : List V) (Q : VK) (E : XK) (f : Addr) (g : Unit), Room k (A.deeper (envOfC x (defScope st) s.heap.objs.size f cdv)) → vs.length = n → p vs H → (∀ H', Ex H H' → E (.ref C) none H') →
      ∃ t, PSs (cxOf (L2.CX P w) P w K mg base N x (defScope st) f cdv A outer s H E) (defBody st) t ∧ t { nx := fun _ H' => Q .non H', rt := Q } (start N vs) H) : Can P w K mg base (L2.CX P w) (k + 1) x (SpB n p C) := by
  obtain ⟨f, fd, F, hm, b⟩ := F.ex
  exact ⟨f, fd, ps, F.okX S (fun vs H Q E ⟨g, hv, _⟩ => hv.trans (len g)) (fun cdv A outer s H vs Q E hr ⟨g, hv, hs, q⟩ => hbody cdv A outer s H vs Q E f g hr hv hs q), hm, F.kp, b⟩
theorem can_W {x : Str} {st : Stmt} {N ps : List Str} {k n : Nat} {γ : Type} {p : γ → List V → Hp → Prop} {res : γ → PD} (F : Dfn K mg x st ps) (S : FnScope N ps (defScope st)) (len : γ → n = ps.length)
    (hbody : ∀ (cdv : Value) (A : Around) (outer : List Env) (s : Shared) (H : Hp) (vs : List V) (Q : VK) (E : XK) (f : Addr) (g : γ), Room k (A.deeper (envOfC x (defScope st) s.heap.objs.size f cdv)) → vs.length = n → p g vs H → (∀ v H', Ex H H' → Dp K H' v (res g) → Q v H') →
      ∃ t, PSs (cxOf CX0 P w K mg base N x (defScope st) f cdv A outer s H E).nox (defBody st) t ∧ t { nx := fun _ H' => Q .non H', rt := Q } (start N vs) H) : Can P w K mg base CX0 (k + 1) x (SpW K n p res) := by
  obtain ⟨f, fd, F, hm, b⟩ := F.ex
  exact ⟨f, fd, ps, F.ok S (fun vs H Q E ⟨g, hv, _⟩ => hv.trans (len g)) (fun cdv A outer s H vs Q E hr ⟨g, hv, hs, q⟩ => hbody cdv A outer s H vs Q E f g hr hv hs q), hm, F.kp, b⟩
end
end Pb

namespace Pb
open PySem PySem.Spec PyProof.Rows L2 Evn LamX
variable [Evn.Tbs]
/-! ### lambdas: made, handed on, called -/
/-- the function object at f, its code object at c -/
def LamO (f c : Addr) (q : Str) (ps : Arguments) (e : Expr) (sc : Scope) : HO := .ext fun h => ∃ pm ctv, h.get? f = some (PySem.W.kla_obj "<lambda>" q ps e sc [] pm c ctv)
structure LamV (H : Hp) (q : Str) (ps : Arguments) (e : Expr) (sc : Scope) (f c : Addr) : Prop where
  f : H f = some (LamO f c q ps e sc)
  c : H c = some (CodeO c q)
theorem LamV.ex {H G : Hp} {q : Str} {ps : Arguments} {e : Expr} {sc : Scope} {f c : Addr} (x : Ex H G) (l : LamV H q ps e sc f c) : LamV G q ps e sc f c := ⟨x _ _ l.f, x _ _ l.c⟩
theorem LamV.at {P : Program} {w : World} {H : Hp} {h : Heap} {q : Str} {ps : Arguments} {e : Expr} {sc : Scope} {f c : Addr} (l : LamV H q ps e sc f c) (ok : HOk P w H h) : ∃ pm ctv, h.get? f = some (PySem.W.kla_obj "<lambda>" q ps e sc [] pm c ctv) := by
  obtain ⟨r, _, _⟩ := ok f _ l.f
  exact r
theorem clo_nil {cells : List (Str × Addr)} {names : List (Str × NameKind)} (nf : ∀ y ∈ names, y.2 ≠ .free) : cloFrom cells names [] = [] := by
  cases e : cloFrom cells names [] with
  | nil => rfl
  | cons p r =>
    have hm : (p.1, p.2) ∈ cloFrom cells names [] := by rw [e]; exact List.mem_cons_self
    rcases cloFrom_mem hm with z | ⟨z, _⟩
    · cases z
    · exact absurd rfl (nf _ z)
/-- a lambda is made -/
def tLam (q : Str) (ps : Arguments) (e : Expr) (sc : Scope) : TE := fun _ H Q => Tabs Tbs.T H ∧ ∀ (f c : Addr) (G : Hp), Ex H G → LamV G q ps e sc f c → Q (.ref f) G
theorem pe_lam {X : Cx} {c P : Addr} {ps : Arguments} {e : Expr} {sc : Scope} {pos : Pos} (TB : TabB X.base X.mg c P) (hcode : X.env.code = .ref c) (hm : (P, X.env.qual ++ "<lambda>") ∈ Tbs.T) (hu : ∀ p ∈ Tbs.T, p.1 = P → p.2 = X.env.qual ++ "<lambda>")
    (nf : ∀ y ∈ sc.names, y.2 ≠ .free) (hdef : defaultsOf ps X.env = ([], []) := by rfl) : PE X (.Lambda ps e sc pos) (tLam (X.env.qual ++ "<lambda>") ps e sc) := by
  refine ⟨fun pins s σ H Q I ⟨hT, hQ⟩ => PySem.W.kla_eval hdef ?_⟩
  obtain ⟨tab, zP, zt, za⟩ := hT _ hm
  have clo : closureFor sc X.env = pure [] := by
    have z := closure_ok (scope := sc) (env := X.env) fun y hy e => absurd e (nf y hy)
    rw [clo_nil nf] at z
    exact z
  have obP : s.heap.get? P = some { cls := .none, data := .fields tab } := I.hok P _ zP
  have bP := TB.bm.keeps I.bk
  have newF : ∀ {G : Hp} {h1 : Heap} {c' : Addr} {pm ctv : Value}, ObjOk X.prog X.w G (h1.push (PySem.W.kla_obj "<lambda>" (X.env.qual ++ "<lambda>") ps e sc [] pm c' ctv)) h1.objs.size (LamO h1.objs.size c' (X.env.qual ++ "<lambda>") ps e sc) := fun {G h1 c' pm ctv} =>
    ⟨⟨pm, ctv, Heap.get?_push_size _ rfl⟩, ⟨_, Heap.get?_push_size _ rfl⟩, fun ha hb ⟨pm, ctv, z⟩ st => ⟨pm, ctv, st _ z⟩⟩
  cases hc : codeAmong pos tab.toList with
  | none =>
    refine PySem.W.kla_makeFunction (mg := X.mg) clo I.ok.glob (I.mod.glob.keeps I.bk) hcode (TB.code.keeps I.bk) obP zt hc TB.gP bP fun c' ctv h1 tk hx hge hlt hrec htb => ?_
    obtain ⟨c2, oc, vs, t, e2, hoc, hd, hv⟩ := hrec
    cases e2
    have nC : H c' = none := I.hok.fresh hge
    have I1 := inv_table (t' := tk) (more := #[rawInt pos.line, rawInt pos.col, .ref c']) (h' := h1) I zP (fun b o nb z => hx b o nb z) htb hge ⟨oc, vs, t, hoc, hd, hv⟩
    have nF := I1.hok.fresh (Nat.le_refl h1.objs.size)
    have I2 := I1.laid (t' := tk) (a := h1.objs.size) (o := LamO h1.objs.size c' (X.env.qual ++ "<lambda>") ps e sc) (fun b o z => Heap.get?_push_of_some _ z) (Nat.le_refl _) (newF (c' := c') (pm := (X.mg "__name__").getD .none) (ctv := ctv))
    have kpE : ∀ (b : Addr) (o : HO), H b = some o → nt o → upd (upd H P (.tbl (tab ++ #[rawInt pos.line, rawInt pos.col, .ref c']))) c' (CodeO c' (X.env.qual ++ "<lambda>")) b = some o := fun b o z n => by
      rw [upd_ne (ne_of_none z nC), upd_ne (fun zb => by rw [zb, zP] at z; cases z; exact n)]
      exact z
    have x1 : Ex H (upd (upd H P (.tbl (tab ++ #[rawInt pos.line, rawInt pos.col, .ref c']))) c' (CodeO c' (X.env.qual ++ "<lambda>"))) := by
      refine ⟨kpE, fun b qs z => ?_, fun zt0 p hp => ?_⟩
      · rw [upd_ne (ne_of_none z nC)]
        by_cases zb : b = P
        · rw [zb, upd_same]
          exact ⟨_, rfl⟩
        · rw [upd_ne zb]
          exact ⟨qs, z⟩
      · obtain ⟨tb2, a1, a2, a3⟩ := zt0 p hp
        by_cases zb : p.1 = P
        · have eq := hu p hp zb
          rw [zb] at a1 ⊢
          rw [eq] at a3 ⊢
          rw [zP] at a1
          cases a1
          have eL : (tab ++ #[rawInt pos.line, rawInt pos.col, .ref c']).toList = tab.toList ++ [rawInt pos.line, rawInt pos.col, .ref c'] := by simp
          refine ⟨_, by rw [upd_ne (ne_of_none zP nC), upd_same], by rw [eL]; exact PySem.TriplesOk_snoc _ _ _ _ a2, fun p' cv hcv => ?_⟩
          rw [eL] at hcv
          rcases among_app _ a2 hcv with z | z
          · obtain ⟨c0, b1, b2⟩ := a3 p' cv z
            exact ⟨c0, b1, kpE _ _ b2 True.intro⟩
          · exact ⟨c', z, upd_same⟩
        · refine ⟨tb2, by rw [upd_ne (ne_of_none a1 nC), upd_ne zb]; exact a1, a2, fun p' cv hcv => ?_⟩
          obtain ⟨c0, b1, b2⟩ := a3 p' cv hcv
          exact ⟨c0, b1, kpE _ _ b2 True.intro⟩
    have x2 := Ex.new (o := LamO h1.objs.size c' (X.env.qual ++ "<lambda>") ps e sc) nF
    exact ⟨.ref h1.objs.size, _, I2, rfl, hQ _ c' _ (x1.trans x2) ⟨upd_same, x2 _ _ upd_same⟩⟩
  | some cv =>
    obtain ⟨c', e2, hco⟩ := za pos cv hc
    subst e2
    refine PySem.W.kla_makeFunctionHit (mg := X.mg) clo I.ok.glob (I.mod.glob.keeps I.bk) hcode (TB.code.keeps I.bk) obP zt hc bP fun ctv h1 tk hx hsz => ?_
    have nF : H h1.objs.size = none := I.hok.fresh hsz
    have I1 : Inv X pins σ H { s with heap := h1, toks := tk } := I.kept hx
    have I2 := I1.laid (t' := tk) (a := h1.objs.size) (o := LamO h1.objs.size c' (X.env.qual ++ "<lambda>") ps e sc) (fun b o z => Heap.get?_push_of_some _ z) (Nat.le_refl _) (newF (c' := c') (pm := (X.mg "__name__").getD .none) (ctv := ctv))
    have x2 := Ex.new (o := LamO h1.objs.size c' (X.env.qual ++ "<lambda>") ps e sc) nF
    exact ⟨.ref h1.objs.size, _, I2, rfl, hQ _ c' _ x2 ⟨upd_same, x2 _ _ hco⟩⟩
/-- a lambda of two truths that tells g of them -/
structure LamG (ps : Arguments) (e : Expr) (sc : Scope) (g : Bool → Bool → Bool) : Prop where
  fs : FnScope ["a", "b"] ["a", "b"] sc
  bind : ∀ (q : Str) (pm cv ctv u v : Value), bindArgs (PySem.W.kla_fn "<lambda>" q ps e sc [] pm cv ctv) ⟨[u, v], []⟩ = pure (([("a", u), ("b", v)] : List (Str × Value)))
  body : ∀ (P : Program) (w : World) (K : PySem.W.Frag) (mg : Str → Option Value) (base : Heap) (q : Str) (f : Addr) (cd : Value) (A : Around) (outer : List Env) (s : Shared) (H : Hp) (E : XK), ∃ t, PE (cxOf CX0 P w K mg base ["a", "b"] q sc f cd A outer s H E) e t ∧
    ∀ (x y : Bool) (G : Hp) (Q : VK), Q (.bl (g x y)) G → t [some (.bl x), some (.bl y)] G Q
theorem run_lam {P : Program} {w : World} {K : PySem.W.Frag} {mg : Str → Option Value} {base : Heap} {A : Around} {outer : List Env} {s : Shared} {H : Hp} {Q : VK} {E : XK} {q : Str} {ps : Arguments} {e : Expr} {sc : Scope} {g : Bool → Bool → Bool} {f c : Addr} {x y : Bool}
    (hr : Room 1 A) (e0 : Env0 P w K mg base A outer s H) (l : LamV H q ps e sc f c) (L : LamG ps e sc g) (hQ : Q (.bl (g x y)) H) : codeAny (model P w) A (.call (.ref f) ⟨[.bool x, .bool y], []⟩) (CR CX0 outer P w H s Q E) s := by
  obtain ⟨pm, ctv, of⟩ := l.at e0.hok
  obtain ⟨⟨oc, vs, t, hoc, hdc, hvc⟩, _, _⟩ := e0.hok c _ l.c
  have lim : s.heap.NoLimit := e0.mod.nolimit.keeps fun b o e => (e0.bs b o e).1
  have S := L.fs
  refine PySem.W.kla_callFunE hr.depth of rfl S.co S.gen rfl ⟨c, oc, vs, t, rfl, hoc, hdc, hvc⟩ ?_
  rw [L.bind]
  have hk : ∀ y_1 ∈ (["a", "b"] : List Str).zip [Value.bool x, Value.bool y], sc.names.lookup y_1.1 = some .local ∨ (sc.names.lookup y_1.1 = some .cell ∧ ((cellsFrom (s.heap.objs.size + 1) sc.names []).lookup y_1.1).isSome = true) := fun ⟨n, v⟩ hy => by
    rcases S.par n (List.of_mem_zip hy).1 with z | z
    · exact .inl z
    · exact .inr ⟨z, PySem.W.cellsFrom_some _ _ _ (.inl z)⟩
  refine wpAny_pure (wpAny_newFunctionEnv_cells (binds := (["a", "b"] : List Str).zip [Value.bool x, Value.bool y]) S.kind hk fun env he s1 x1 => ?_)
  subst he
  refine ⟨lim.keeps x1.toInCall.keep, PySem.W.kla_codeExpr ?_⟩
  obtain ⟨t, ht, hq⟩ := L.body P w K mg base q f (.ref c) A outer s H E
  have I : Inv (cxOf CX0 P w K mg base ["a", "b"] q sc f (.ref c) A outer s H E) [] (L2.start ["a", "b"] [.bl x, .bl y]) H s1 := inv_start S hr.hd e0 rfl (.cons rfl (.cons rfl .nil)) x1
  refine wpAny_mono (ht.run [] s1 _ H Q I (hq x y H Q hQ)) (fun v s' hv => ?_) fun e s' hs => hs
  obtain ⟨w', H', J, rv, z⟩ := hv
  exact ⟨w', H', J.os, J.bare, J.base, J.hok, rv, z⟩
/-- v is a function of two truths that tells g of them -/
def LamB (H : Hp) (g : Bool → Bool → Bool) (v : V) : Prop := ∃ (f c : Addr) (q : Str) (ps : Arguments) (e : Expr) (sc : Scope), v = .ref f ∧ LamV H q ps e sc f c ∧ LamG ps e sc g
theorem LamB.ex {H G : Hp} {g : Bool → Bool → Bool} {v : V} (x : Ex H G) (l : LamB H g v) : LamB G g v := by
  obtain ⟨f, c, q, ps, e, sc, h1, h2, h3⟩ := l
  exact ⟨f, c, q, ps, e, sc, h1, h2.ex x, h3⟩
/-- h(x, y), h the function in the i-th slot -/
def tLamC (i : Nat) (t : TA) : TE := fun σ H Q => ∃ v g, σ[i]? = some (some v) ∧ LamB H g v ∧ t σ H fun vs G => LamB G g v ∧ ∃ x y : Bool, vs = [.bl x, .bl y] ∧ Q (.bl (g x y)) G
theorem pe_lamC {X : Cx} {k i : Nat} {a : Str} {e : Expr} {es : List Expr} {t : TA} {p pos : Pos} (hr : Room (k + 1) X.A) (hN : X.N[i]? = some a) (hv : Vis X.env.scope a) (ha : PA X (e :: es) t)
    (hd : (a == ("__debug__" : Str)) = false := by decide) (hcd : (a == ("__classdict__" : Str)) = false := by decide) (he : starEach (e :: es) X.env = (false, eval e X.env) :: starEach es X.env := by rfl) (hpl : (backTo pos (starEach es X.env)).any (·.1) = false := by rfl) :
    PE X (.Call (.Name a p) (e :: es) [] pos) (tLamC i t) := by
  refine ⟨fun pins s σ H Q I ⟨v, g, hs, hl, hq⟩ => ?_⟩
  obtain ⟨f, c, q, ps, ee, sc, e1, l, L⟩ := id hl
  subst e1
  refine wpAny_Call_Name_kw (thn ((pe_var (pos := p) hN hv hd hcd).run pins s σ H (fun w G => w = .ref f ∧ G = H) I ⟨_, hs, rfl, rfl⟩) fun u s1 ⟨w, G, I1, r1, z1, z2⟩ => ?_)
  subst z1 z2
  obtain rfl : u = Value.ref f := r1
  have fa : ∀ {G : Hp} {s2 : Shared}, Inv X pins σ G s2 → LamV G q ps ee sc f c → PySem.W.FnAt f s2.heap := fun J l => by
    obtain ⟨pm, ctv, z⟩ := l.at J.hok
    exact ⟨_, _, _, _, z⟩
  refine PySem.W.callWith_F (fa I1 l) (thn (ha.run pos pins s1 σ _ _ I1 hq) fun us s2 ⟨vs, G2, I2, r, l2, x, y, ev, q2⟩ => ?_) he hpl
  obtain ⟨f2, c2, q', ps', ee', sc', e2, l3, L3⟩ := l2
  cases e2
  subst ev
  have eu : us = [.bool x, .bool y] := by
    cases r with
    | cons ra r =>
      cases r with
      | cons rb r =>
        cases r
        cases ra
        cases rb
        rfl
  subst eu
  obtain ⟨pm2, ctv2, z2⟩ := l3.at I2.hok
  refine ⟨⟨_, _, _, _, z2⟩, ?_⟩
  refine wpAny_call (codeAny_mono (run_lam (E := E0) (Q := Q) (hr.mono (Nat.succ_le_succ (Nat.zero_le k))) I2.env0 l3 L3 q2) fun r s' hq => ?_)
  cases r with
  | error e => exact (show False from hq).elim
  | ok fl =>
    cases fl with
    | ret u => exact I2.after hq
    | next => exact False.elim hq
    | brk => exact False.elim hq
    | cont => exact False.elim hq
/-- the lambda that a def hands on as its call's third argument -/
def lamOf (st : Stmt) : Arguments × Expr × Scope := match defBody st with
  | [.Return (some (.Call _ [_, _, .Lambda p b sc _] _ _)) _] => (p, b, sc)
  | _ => (⟨[], [], none, [], [], none, []⟩, .Constant .none 0 ⟨0, 0, 0, 0⟩, { kind := .function, names := [], isGenerator := false, isCoroutine := false })
/-! .. told by data -/
section
variable {K : PySem.W.Frag} {σ : L2.St} {H : Hp} {ta tb : TE} {v : V} {i : Nat} {g : Bool → Bool → Bool} {x y : Bool}
theorem ed_lamC (hv : σ[i]? = some (some v)) (hl : LamB H g v) (ha : EvD K ta σ H (.bool x)) (hb : EvD K tb σ H (.bool y)) : EvD K (tLamC i (tCons ta (tCons tb tNil))) σ H (.bool (g x y)) := fun H1 x1 Q q =>
  ⟨v, g, hv, hl.ex x1, eds_cons ha (eds_cons hb eds_nil) H1 x1 _ fun vs H2 x2 h2 => by
    obtain ⟨a, b, rfl, h3, h4⟩ := dpa2 h2
    refine ⟨hl.ex (x1.trans x2), x, y, by rw [dp_bl h3, dp_bl h4], q _ _ x2 (.bl _)⟩⟩
theorem ev_lam {q : Str} {ps : Arguments} {e : Expr} {sc : Scope} (ht : Tabs Tbs.T H) (L : LamG ps e sc g) : EvV (tLam q ps e sc) σ H (fun v H => LamB H g v) := fun H1 x Q k => ⟨x.tb ht, fun f c G x2 l => k _ _ x2 ⟨f, c, q, ps, e, sc, rfl, l, L⟩⟩
end
/-- what is never reached -/
theorem ps_void {X : Cx} {st : Stmt} : PS X st (fun _ _ _ => False) := ⟨fun _ _ _ _ _ _ z => z.elim⟩
/-! ### defs that hand on what is no data, defs that need the tables -/
/-- told by what it is given; it may raise -/
def SpJ {γ : Type} (K : PySem.W.Frag) (n : Nat) (p : γ → List V → Hp → Prop) (res : γ → Except Addr PD) : Sp := fun vs H Q E => ∃ g, vs.length = n ∧ p g vs H ∧ Out K H Q E (res g)
section
variable {K : PySem.W.Frag} {σ : L2.St} {H H0 : Hp} {ar : TA} {E : XK} {C : Addr} {n : Nat} {D : Ends} {γ : Type} {p : γ → List V → Hp → Prop} {res : γ → Except Addr PD} {r : Except Addr PD} {d : PD}
theorem sd_retJ (g : γ) (h : EvA ar σ H (fun vs H => vs.length = n ∧ p g vs H)) (x : Ex H0 H) (q : Out K H0 D.rt E r) (e : res g = r) : tRet (tCall (SpJ K n p res) [] E ar) D σ H := by
  subst e
  refine h H (Ex.refl H) _ fun vs H2 x2 hv => ?_
  show SpJ K n p res (vs ++ []) H2 D.rt E
  rw [List.append_nil]
  refine ⟨g, hv.1, hv.2, ?_⟩
  cases hr : res g with
  | ok d => exact fun v H3 x3 hd => q.ok hr v H3 ((x.trans x2).trans x3) hd
  | error C => exact fun H3 x3 => q.er hr H3 ((x.trans x2).trans x3)
/-- the tables stand well -/
def SpT (sp : Sp) : Sp := fun vs H Q E => Tabs Tbs.T H ∧ sp vs H Q E
variable {args : γ → List PD} {side : γ → Prop}
theorem ed_callT (g : γ) (ht : Tabs Tbs.T H) (ha : EvDs K ar σ H (args g)) (hs : side g) (hr : res g = .ok d) : EvD K (tCall (SpT (SpX K args side res)) [] E ar) σ H d :=
  ed_call ha fun H1 vs x hv Q q => ⟨x.tb ht, g, hv, hs, by rw [hr]; exact q⟩
theorem er_callT (g : γ) (ht : Tabs Tbs.T H) (ha : EvDs K ar σ H (args g)) (hs : side g) (hr : res g = .error C) (k : ∀ H2, Ex H H2 → E (.ref C) none H2) : EvR (tCall (SpT (SpX K args side res)) [] E ar) σ H := fun H1 x Q =>
  ha H1 x _ fun vs H2 x2 hv => by
    show SpT (SpX K args side res) (vs ++ []) H2 Q E
    rw [List.append_nil]
    exact ⟨(x.trans x2).tb ht, g, hv, hs, by rw [hr]; exact fun H3 x3 => k H3 ((x.trans x2).trans x3)⟩
theorem ed_callTD {res : γ → PD} (g : γ) (ht : Tabs Tbs.T H) (ha : EvDs K ar σ H (args g)) (hs : side g) : EvD K (tCall (SpT (SpD K args side res)) [] E ar) σ H (res g) :=
  ed_call ha fun H1 vs x hv Q q => ⟨x.tb ht, g, hv, hs, q⟩
theorem sd_retT (g : γ) (ht : Tabs Tbs.T H) (ha : EvDs K ar σ H (args g)) (hs : side g) (x : Ex H0 H) (q : Out K H0 D.rt E r) (e : res g = r) : tRet (tCall (SpT (SpX K args side res)) [] E ar) D σ H := by
  subst e
  cases hr : res g with
  | ok d => exact sd_ret (ed_callT g ht ha hs hr) fun v H1 x1 hv => q.ok hr v H1 (x.trans x1) hv
  | error C => exact sx_ret (er_callT g ht ha hs hr fun H2 x2 => q.er hr H2 (x.trans x2))
theorem sd_retTS {E : L2.St → XK} (g : γ) (ht : Tabs Tbs.T H) (ha : EvDs K ar σ H (args g)) (hs : side g) (k1 : ∀ d, res g = .ok d → ∀ v H1, Ex H H1 → Dp K H1 v d → D.rt v H1) (k2 : ∀ C, res g = .error C → ∀ H1, Ex H H1 → E σ (.ref C) none H1) : tRet (tCallS (SpT (SpX K args side res)) E ar) D σ H := by
  cases hr : res g with
  | ok d => exact sd_ret (ed_S (ed_callT g ht ha hs hr)) (k1 d hr)
  | error C => exact sx_ret (er_S (er_callT g ht ha hs hr (k2 C hr)))
theorem sd_dropTS {E : L2.St → XK} (g : γ) (ht : Tabs Tbs.T H) (ha : EvDs K ar σ H (args g)) (hs : side g) (k1 : ∀ d, res g = .ok d → ∀ H1, Ex H H1 → D.nx σ H1) (k2 : ∀ C, res g = .error C → ∀ H1, Ex H H1 → E σ (.ref C) none H1) : tDrop (tCallS (SpT (SpX K args side res)) E ar) D σ H := by
  cases hr : res g with
  | ok d => exact sd_drop (ed_S (ed_callT g ht ha hs hr)) (k1 d hr)
  | error C => exact sx_drop (er_S (er_callT g ht ha hs hr (k2 C hr)))
end
/-- a def of the text, its code object at c -/
structure DfnC (K : PySem.W.Frag) (mg : Str → Option Value) (x : Str) (st : Stmt) (ps : List Str) (c : Addr) : Prop where
  ex : ∃ (f : Addr) (oc : Value) (od an : Option Addr) (kV doc pm ct : Value) (osl : Array (Option Value)), K.lookup f = some ⟨oc, od, .func (PySem.W.fnOf x x (defArgs st) (defBody st) (defScope st) .none kV doc pm an (.ref c) ct), osl⟩ ∧ PySem.W.codeIn K (.ref c) x = true ∧ mg x = some (.ref f) ∧ PySem.W.keepIn K (.ref f) = true ∧
    Binds K (PySem.W.fnOf x x (defArgs st) (defBody st) (defScope st) .none kV doc pm an (.ref c) ct) ps []
section
variable {P : Program} {w : World} {K : PySem.W.Frag} {mg : Str → Option Value} {base : Heap} {x : Str} {st : Stmt} {N ps : List Str} {k n : Nat} {γ : Type} {args : γ → List PD} {side : γ → Prop}
/-- a def that makes a lambda -/
theorem can_L {c : Addr} {res : γ → Except Addr PD} (F : DfnC K mg x st ps c) (S : FnScope N ps (defScope st)) (len : ∀ g, (args g).length = ps.length)
    (hbody : ∀ (A : Around) (outer : List Env) (s : Shared) (H : Hp) (vs : List V) (Q : VK) (E : XK) (f : Addr) (g : γ), Room k (A.deeper (envOfC x (defScope st) s.heap.objs.size f (.ref c))) → Tabs Tbs.T H → DpAll K H vs (args g) → side g → Out K H Q E (res g) →
      ∃ t, PSs (cxOf (L2.CX P w) P w K mg base N x (defScope st) f (.ref c) A outer s H E) (defBody st) t ∧ t { nx := fun _ H' => Q .non H', rt := Q } (start N vs) H) : Can P w K mg base (L2.CX P w) (k + 1) x (SpT (SpX K args side res)) := by
  obtain ⟨f, oc, od, an, kV, doc, pm, ct, osl, lk, hc, hm, kp, b⟩ := F.ex
  exact ⟨f, _, ps, fn_of lk hc S (fun vs H Q E ⟨_, g, hv, _⟩ => (dpa_len hv).trans (len g)) (fun A outer s H vs Q E hr ⟨ht, g, hv, hs, q⟩ => hbody A outer s H vs Q E f g hr ht hv hs q), hm, kp, b⟩
/-- a def that is handed a lambda -/
theorem can_J {p : γ → List V → Hp → Prop} {res : γ → Except Addr PD} (F : Dfn K mg x st ps) (S : FnScope N ps (defScope st)) (len : γ → n = ps.length)
    (hbody : ∀ (cdv : Value) (A : Around) (outer : List Env) (s : Shared) (H : Hp) (vs : List V) (Q : VK) (E : XK) (f : Addr) (g : γ), Room k (A.deeper (envOfC x (defScope st) s.heap.objs.size f cdv)) → vs.length = n → p g vs H → Out K H Q E (res g) →
      ∃ t, PSs (cxOf (L2.CX P w) P w K mg base N x (defScope st) f cdv A outer s H E) (defBody st) t ∧ t { nx := fun _ H' => Q .non H', rt := Q } (start N vs) H) : Can P w K mg base (L2.CX P w) (k + 1) x (SpJ K n p res) := by
  obtain ⟨f, fd, F, hm, b⟩ := F.ex
  exact ⟨f, fd, ps, F.okX S (fun vs H Q E ⟨g, hv, _⟩ => hv.trans (len g)) (fun cdv A outer s H vs Q E hr ⟨g, hv, hs, q⟩ => hbody cdv A outer s H vs Q E f g hr hv hs q), hm, F.kp, b⟩
/-- defs above those -/
theorem can_TX {res : γ → Except Addr PD} (F : Dfn K mg x st ps) (S : FnScope N ps (defScope st)) (len : ∀ g, (args g).length = ps.length)
    (hbody : ∀ (cdv : Value) (A : Around) (outer : List Env) (s : Shared) (H : Hp) (vs : List V) (Q : VK) (E : XK) (f : Addr) (g : γ), Room k (A.deeper (envOfC x (defScope st) s.heap.objs.size f cdv)) → Tabs Tbs.T H → DpAll K H vs (args g) → side g → Out K H Q E (res g) →
      ∃ t, PSs (cxOf (L2.CX P w) P w K mg base N x (defScope st) f cdv A outer s H E) (defBody st) t ∧ t { nx := fun _ H' => Q .non H', rt := Q } (start N vs) H) : Can P w K mg base (L2.CX P w) (k + 1) x (SpT (SpX K args side res)) := by
  obtain ⟨f, fd, F, hm, b⟩ := F.ex
  exact ⟨f, fd, ps, F.okX S (fun vs H Q E ⟨_, g, hv, _⟩ => (dpa_len hv).trans (len g)) (fun cdv A outer s H vs Q E hr ⟨ht, g, hv, hs, q⟩ => hbody cdv A outer s H vs Q E f g hr ht hv hs q), hm, F.kp, b⟩
theorem fn_TD {f : Addr} {fd : FuncData} {res : γ → PD} (F : L2.Fun K x x st f fd) (S : FnScope N ps (defScope st)) (len : ∀ g, (args g).length = ps.length)
    (hbody : ∀ (cdv : Value) (A : Around) (outer : List Env) (s : Shared) (H : Hp) (vs : List V) (Q : VK) (E : XK) (f : Addr) (g : γ), Room k (A.deeper (envOfC x (defScope st) s.heap.objs.size f cdv)) → Tabs Tbs.T H → DpAll K H vs (args g) → side g → (∀ v H', Ex H H' → Dp K H' v (res g) → Q v H') →
      ∃ t, PSs (cxOf CX0 P w K mg base N x (defScope st) f cdv A outer s H E).nox (defBody st) t ∧ t { nx := fun _ H' => Q .non H', rt := Q } (start N vs) H) : FnOk P w K mg base CX0 (k + 1) f fd ps (SpT (SpD K args side res)) :=
  F.ok S (fun vs H Q E ⟨_, g, hv, _⟩ => (dpa_len hv).trans (len g)) (fun cdv A outer s H vs Q E hr ⟨ht, g, hv, hs, q⟩ => hbody cdv A outer s H vs Q E f g hr ht hv hs q)
theorem can_TD {res : γ → PD} (F : Dfn K mg x st ps) (S : FnScope N ps (defScope st)) (len : ∀ g, (args g).length = ps.length)
    (hbody : ∀ (cdv : Value) (A : Around) (outer : List Env) (s : Shared) (H : Hp) (vs : List V) (Q : VK) (E : XK) (f : Addr) (g : γ), Room k (A.deeper (envOfC x (defScope st) s.heap.objs.size f cdv)) → Tabs Tbs.T H → DpAll K H vs (args g) → side g → (∀ v H', Ex H H' → Dp K H' v (res g) → Q v H') →
      ∃ t, PSs (cxOf CX0 P w K mg base N x (defScope st) f cdv A outer s H E).nox (defBody st) t ∧ t { nx := fun _ H' => Q .non H', rt := Q } (start N vs) H) : Can P w K mg base CX0 (k + 1) x (SpT (SpD K args side res)) := by
  obtain ⟨f, fd, F, hm, b⟩ := F.ex
  exact ⟨f, fd, ps, fn_TD F S len hbody, hm, F.kp, b⟩
end
/-! ### a new list handed back -/
def SpN {γ : Type} (K : PySem.W.Frag) (args : γ → List PD) (side : γ → Prop) (res : γ → List PD) : Sp := fun vs H Q _ => ∃ g, DpAll K H vs (args g) ∧ side g ∧ ∀ p H' xs, H p = none → Ex H H' → H' p = some (.lst xs) → DpAll K H' xs (res g) → Q (.ref p) H'
theorem en_callN {K : PySem.W.Frag} {σ : L2.St} {H : Hp} {ar : TA} {E : XK} {γ : Type} {args : γ → List PD} {side : γ → Prop} {res : γ → List PD} (g : γ) (ha : EvDs K ar σ H (args g)) (hs : side g) : EvN K (tCall (SpN K args side res) [] E ar) σ H (res g) := fun H1 x Q q => ha H1 x _ fun vs H2 x2 hv => by
  show SpN K args side res (vs ++ []) H2 Q E
  rw [List.append_nil]
  exact ⟨g, hv, hs, fun p H3 xs np x3 e hd => q p H3 xs (fresh_back x2 np) (x2.trans x3) e hd⟩
theorem can_N {P : Program} {w : World} {K : PySem.W.Frag} {mg : Str → Option Value} {base : Heap} {x : Str} {st : Stmt} {N ps : List Str} {k : Nat} {γ : Type} {args : γ → List PD} {side : γ → Prop} {res : γ → List PD} (F : Dfn K mg x st ps) (S : FnScope N ps (defScope st)) (len : ∀ g, (args g).length = ps.length)
    (hbody : ∀ (cdv : Value) (A : Around) (outer : List Env) (s : Shared) (H : Hp) (vs : List V) (Q : VK) (E : XK) (f : Addr) (g : γ), Room k (A.deeper (envOfC x (defScope st) s.heap.objs.size f cdv)) → DpAll K H vs (args g) → side g → (∀ p H' xs, H p = none → Ex H H' → H' p = some (.lst xs) → DpAll K H' xs (res g) → Q (.ref p) H') →
      ∃ t, PSs (cxOf CX0 P w K mg base N x (defScope st) f cdv A outer s H E).nox (defBody st) t ∧ t { nx := fun _ H' => Q .non H', rt := Q } (start N vs) H) : Can P w K mg base CX0 (k + 1) x (SpN K args side res) := by
  obtain ⟨f, fd, F, hm, b⟩ := F.ex
  exact ⟨f, fd, ps, F.ok S (fun vs H Q E ⟨g, hv, _⟩ => (dpa_len hv).trans (len g)) (fun cdv A outer s H vs Q E hr ⟨g, hv, hs, q⟩ => hbody cdv A outer s H vs Q E f g hr hv hs q), hm, F.kp, b⟩
/-! ### a comprehension of new lists -/
structure Rows (K : PySem.W.Frag) (H0 : Hp) (p : Addr) (H : Hp) (qs : List Addr) (n : Nat) (es : Nat → List PD) : Prop where
  len : qs.length = n
  row : ∀ i, i < n → ∃ ys, H (qs.getD i 0) = some (.lst ys) ∧ DpAll K H ys (es i) ∧ H0 (qs.getD i 0) = none ∧ qs.getD i 0 ≠ p
theorem en_lcN {K : PySem.W.Frag} {σ : L2.St} {H : Hp} {wi : TI} {te : TE} {n j : Nat} {item : Nat → PD} {vs : List Nat} (es : Nat → List PD) (hi : EvI K wi σ H n item) (hz : n ≤ 90000) (hL : ∀ i, i < n → noLs (es i) = true) (hw : ∀ x, wipe ((wipe σ vs).set j (some x)) vs = wipe σ vs)
    (he : ∀ i x H1, i < n → Ex H H1 → Dp K H1 x (item i) → EvN K te ((wipe σ vs).set j (some x)) H1 (es i)) (H1 : Hp) (x : Ex H H1) (Q : VK) (q : ∀ p H2 qs, H1 p = none → Ex H1 H2 → H2 p = some (.lst (qs.map V.ref)) → Rows K H1 p H2 qs n es → Q (.ref p) H2) : tLc wi (gName j) tYes te vs σ H1 Q :=
  hi H1 x _ fun J H2 G Y x2 w hG hY Dl hD => lc_it w (fun i H' => Ex H2 H' ∧ ∃ qs, H' Dl = some (.lst (qs.map V.ref)) ∧ Rows K H1 Dl H' qs i es) ⟨Ex.new hD, [], upd_same, ⟨rfl, fun i hi => absurd hi (Nat.not_lt_zero _)⟩⟩ (fun i H' _ p => hG H' p.1)
    (fun i z Ha Hb hi ⟨p1, qs, p2, p3⟩ yy => by
      obtain ⟨y1, y2⟩ := hY i Ha z Hb hi p1 yy
      refine ⟨hw z, he i z Hb hi ((x.trans x2).trans (p1.trans y1)) y2 Hb (Ex.refl Hb) _ fun p H4 ys np x4 ep hd => ?_⟩
      have eb := y1 _ _ p2
      have e4 := x4 _ _ eb
      have hne : p ≠ Dl := fun e => by
        rw [e, eb] at np
        cases np
      refine ⟨qs.map V.ref, e4, sz_lt (by rw [List.length_map, p3.len]; omega), Ex.mut (p1.trans (y1.trans x4)) hD e4, qs ++ [p], by rw [upd_same, List.map_append]; rfl, ?_, fun k hk => ?_⟩
      · rw [List.length_append, p3.len]
        rfl
      · have pl := p3.len
        by_cases hk2 : k < i
        · obtain ⟨ys', a1, a2, a3, a4⟩ := p3.row k hk2
          have eg : (qs ++ [p]).getD k 0 = qs.getD k 0 := by rw [List.getD_eq_getElem?_getD, List.getD_eq_getElem?_getD, List.getElem?_append_left (by omega)]
          rw [eg]
          exact ⟨ys', by rw [upd_ne a4]; exact (y1.trans x4) _ _ a1, dpa_upd e4 (dpa_ex (y1.trans x4) a2) (hL k (by omega)), a3, a4⟩
        · have ek : k = i := by omega
          subst ek
          have eg : (qs ++ [p]).getD k 0 = p := by rw [List.getD_eq_getElem?_getD, List.getElem?_append_right (by omega), pl, Nat.sub_self]; rfl
          rw [eg]
          exact ⟨ys, by rw [upd_ne hne]; exact ep, dpa_upd e4 hd (hL k (by omega)), fresh_back (x2.trans (p1.trans y1)) np, hne⟩)
    (fun H' ⟨p1, qs, p2, p3⟩ => q Dl H' qs (fresh_back x2 hD) (x2.trans p1) p2 p3)
theorem qd_lcN {K : PySem.W.Frag} {σ : L2.St} {H : Hp} {wi : TI} {te : TE} {n i j : Nat} {item : Nat → PD} {vs : List Nat} {tz : TS} {D : Ends} (es : Nat → List PD) (hi : EvI K wi σ H n item) (hz : n ≤ 90000) (hL : ∀ i, i < n → noLs (es i) = true) (hw : ∀ x, wipe ((wipe σ vs).set j (some x)) vs = wipe σ vs)
    (he : ∀ i x H1, i < n → Ex H H1 → Dp K H1 x (item i) → EvN K te ((wipe σ vs).set j (some x)) H1 (es i)) (k : ∀ p H2 qs, H p = none → Ex H H2 → H2 p = some (.lst (qs.map V.ref)) → Rows K H p H2 qs n es → tz D (σ.set i (some (.ref p))) H2) : tSeq (tAsg (tLc wi (gName j) tYes te vs) (gName i)) tz D σ H :=
  (show tLc wi (gName j) tYes te vs σ H (fun v H' => tz D (σ.set i (some v)) H') from en_lcN es hi hz hL hw he H (Ex.refl H) _ k)
/-- [e1, e2, e3], each a new list -/
theorem qd_asg3 {K : PySem.W.Frag} {σ : L2.St} {H : Hp} {ta tb tc : TE} {tz : TS} {D : Ends} {i : Nat} {d1 d2 d3 : List PD} (h1 : EvN K ta σ H d1) (h2 : EvN K tb σ H d2) (h3 : EvN K tc σ H d3)
    (k : ∀ a1 a2 a3 pl xs1 xs2 xs3 H', H a1 = none → H a2 = none → H a3 = none → H pl = none → Ex H H' → H' a1 = some (.lst xs1) → H' a2 = some (.lst xs2) → H' a3 = some (.lst xs3) → H' pl = some (.lst [.ref a1, .ref a2, .ref a3]) → DpAll K H' xs1 d1 → DpAll K H' xs2 d2 → DpAll K H' xs3 d3 →
      a1 ≠ a2 → a1 ≠ a3 → a2 ≠ a3 → pl ≠ a1 → pl ≠ a2 → pl ≠ a3 → tz D (σ.set i (some (.ref pl))) H') : tSeq (tAsg (tLst (tCons ta (tCons tb (tCons tc tNil)))) (gName i)) tz D σ H := by
  refine h1 H (Ex.refl H) _ fun a1 Ha xs1 na1 xa ea1 hd1 => h2 Ha xa _ fun a2 Hb xs2 na2 xb ea2 hd2 => h3 Hb (xa.trans xb) _ fun a3 Hc xs3 na3 xc ea3 hd3 => ⟨by show 3 ≤ sizeLine; decide, fun pl hpl => ?_⟩
  have xn := Ex.new (o := .lst [.ref a1, .ref a2, .ref a3]) hpl
  have eb1 := xb _ _ ea1
  have ec1 := xc _ _ eb1
  have ec2 := xc _ _ ea2
  refine k a1 a2 a3 pl xs1 xs2 xs3 _ na1 (fresh_back xa na2) (fresh_back (xa.trans xb) na3) (fresh_back (xa.trans (xb.trans xc)) hpl) ((xa.trans (xb.trans xc)).trans xn) (xn _ _ ec1) (xn _ _ ec2) (xn _ _ ea3) upd_same (dpa_ex ((xb.trans xc).trans xn) hd1) (dpa_ex (xc.trans xn) hd2) (dpa_ex xn hd3) ?_ ?_ ?_ ?_ ?_ ?_ <;> intro e <;> subst e
  · rw [ea1] at na2
    cases na2
  · rw [eb1] at na3
    cases na3
  · rw [ea2] at na3
    cases na3
  · rw [ec1] at hpl
    cases hpl
  · rw [ec2] at hpl
    cases hpl
  · rw [ea3] at hpl
    cases hpl
/-- for row in rows: row.clear() -/
theorem q_clear3 {K : PySem.W.Frag} {σ : L2.St} {H : Hp} {tz : TS} {D : Ends} {ir jr : Nat} {pl a1 a2 a3 : Addr} {xs1 xs2 xs3 : List V} (hσ : σ[ir]? = some (some (.ref pl))) (hj : jr < σ.length) (e : H pl = some (.lst [.ref a1, .ref a2, .ref a3])) (e1 : H a1 = some (.lst xs1)) (e2 : H a2 = some (.lst xs2)) (e3 : H a3 = some (.lst xs3))
    (n12 : a1 ≠ a2) (n13 : a1 ≠ a3) (n23 : a2 ≠ a3) (m1 : pl ≠ a1) (m2 : pl ≠ a2) (m3 : pl ≠ a3) (k : ∀ y, tz D (σ.set jr y) (upd (upd (upd H a1 (.lst [])) a2 (.lst [])) a3 (.lst []))) :
    tSeq (tFor (iSeq K (tVar ir)) (gName jr) (tDrop (tBM0 K "list" rClear (tVar jr)))) tz D σ H := by
  obtain ⟨cl, hc⟩ : ∃ cl : Nat → Hp, cl = fun i => if i = 0 then H else if i = 1 then upd H a1 (.lst []) else if i = 2 then upd (upd H a1 (.lst [])) a2 (.lst []) else upd (upd (upd H a1 (.lst [])) a2 (.lst [])) a3 (.lst []) := ⟨_, rfl⟩
  have c0 : cl 0 = H := by rw [hc]; rfl
  have c1 : cl 1 = upd H a1 (.lst []) := by rw [hc]; rfl
  have c2 : cl 2 = upd (upd H a1 (.lst [])) a2 (.lst []) := by rw [hc]; rfl
  have c3 : cl 3 = upd (upd (upd H a1 (.lst [])) a2 (.lst [])) a3 (.lst []) := by rw [hc]; rfl
  have pls : ∀ i, i ≤ 3 → cl i pl = some (.lst [.ref a1, .ref a2, .ref a3]) := fun i hi => by
    match i, hi with
    | 0, _ => rw [c0]; exact e
    | 1, _ => rw [c1, upd_ne m1]; exact e
    | 2, _ => rw [c2, upd_ne m2, upd_ne m1]; exact e
    | 3, _ => rw [c3, upd_ne m3, upd_ne m2, upd_ne m1]; exact e
  refine .inl ⟨_, hσ, pl, rfl, ⟨_, sq_of e⟩, for_it (walk_list (xs := [V.ref a1, V.ref a2, V.ref a3])) (fun i σ' H' => ((i = 0 ∧ σ' = σ) ∨ ∃ y, σ' = σ.set jr y) ∧ H' = cl i) ⟨.inl ⟨rfl, rfl⟩, c0.symm⟩ (fun i σ' H' hi ⟨_, eH⟩ => by rw [eH]; exact sq_of (pls i hi)) (fun i x σ' Ha Hb hi ⟨hs, eH⟩ yy => ?_) (fun σ' H' ⟨hs, eH⟩ => ?_)⟩
  · obtain ⟨ee, hx⟩ := yy
    subst ee
    have hs' : σ'.set jr (some x) = σ.set jr (some x) ∧ (σ'.set jr (some x))[jr]? = some (some x) := by
      rcases hs with ⟨_, es⟩ | ⟨y, es⟩
      · rw [es]
        exact ⟨rfl, List.getElem?_set_self hj⟩
      · rw [es]
        exact ⟨by rw [List.set_set], by rw [List.set_set]; exact List.getElem?_set_self hj⟩
    have step : ∀ (a : Addr) (ys : List V), x = .ref a → cl i a = some (.lst ys) → cl (i + 1) = upd (cl i) a (.lst []) → gName jr x σ' (cl i) fun σ2 H2 => tDrop (tBM0 K "list" rClear (tVar jr)) { D with nx := fun σ' H' => ((i + 1 = 0 ∧ σ' = σ) ∨ ∃ y, σ' = σ.set jr y) ∧ H' = cl (i + 1), ct := fun σ' H' => ((i + 1 = 0 ∧ σ' = σ) ∨ ∃ y, σ' = σ.set jr y) ∧ H' = cl (i + 1), bk := tz D } σ2 H2 := fun a ys ex ea ec => by
      subst ex
      exact ⟨_, hs'.2, .inl ⟨rfl, _, sq_of ea⟩, a, ys, rfl, rfl, ea, .inr ⟨_, hs'.1⟩, ec.symm⟩
    rw [eH]
    match i, hi with
    | 0, _ => exact step a1 xs1 (by cases hx; rfl) (by rw [c0]; exact e1) (by rw [c0, c1])
    | 1, _ => exact step a2 xs2 (by cases hx; rfl) (by rw [c1, upd_ne (Ne.symm n12)]; exact e2) (by rw [c1, c2])
    | 2, _ => exact step a3 xs3 (by cases hx; rfl) (by rw [c2, upd_ne (Ne.symm n23), upd_ne (Ne.symm n13)]; exact e3) (by rw [c2, c3])
  · rcases hs with ⟨z, _⟩ | ⟨y, es⟩
    · cases z
    · rw [es, eH, show ([V.ref a1, V.ref a2, V.ref a3] : List V).length = 3 from rfl, c3]
      exact k y
/-! ### the end, with the tables of all defs -/
def sp_lawT (K : PySem.W.Frag) : Sp := SpT (sp_law K)
theorem law_start0 (K : PySem.W.Frag) (H : Hp) (a : Addr) (ns : List Int) (hl : ns.length ≤ 63) (hs : SqL K H a (ns.map V.int)) : sp_law K [.ref a] H (fun v _ => v = .bl true) fun _ _ _ => False :=
  ⟨ns, .cons (.lst hs dpa_of_ints) .nil, hl, fun v H' _ hv => dp_bl hv⟩
omit [Evn.Tbs] in
theorem tu_of : ∀ {T : List (Addr × Str)} {P : Addr} {q : Str}, (T.map (·.1)).Nodup → (P, q) ∈ T → ∀ p ∈ T, p.1 = P → p.2 = q
  | [], _, _, _, h => by cases h
  | r :: T, P, q, nd, h => by
    rw [List.map_cons, List.nodup_cons] at nd
    intro p hp e
    rcases List.mem_cons.mp h with z | z
    · rcases List.mem_cons.mp hp with y | y
      · rw [y, ← z]
      · exact absurd (List.mem_map.mpr ⟨p, y, by rw [e, ← z]⟩) nd.1
    · rcases List.mem_cons.mp hp with y | y
      · exact absurd (List.mem_map.mpr ⟨(P, q), z, by rw [← y, e]⟩) nd.1
      · exact tu_of nd.2 z p y e
/-- the code objects of the defs named in xs, and their empty tables -/
def AllTab (K : PySem.W.Frag) (mg : Str → Option Value) (xs : List Str) (h : Heap) : Prop := ∀ x ∈ xs, ∀ (f c P : Addr) (o : Obj) (fd : FuncData) (e : Value) (dd : Option Addr) (vs : Array Value) (sl : Array (Option Value)),
  mg x = some (.ref f) → K.lookup f = some o → o.data = .func fd → fd.code = .ref c → K.lookup c = some ⟨e, dd, .fields vs, sl⟩ → vs[11]? = some (.ref P) → h.get? P = some { cls := .none, data := .fields #[] } ∧ PySem.W.CodeHd h c P
omit [Evn.Tbs] in
theorem walk_tabs {l : PySem.W.OpenLaw} {n k : Nat} {q : Program} {loose xs : List Str} {XP : (Str → Option Value) → Heap → Prop} {YP : World → Heap → Prop} {d : DefRec} {K : Params → PySem.W.Frag} {x : Str}
    (hn : l.most = some n) (hn2 : n ≤ sizeLine) (hdf : d.params.defaults = []) (hr : Room k callerA) (hxs : (xs.all fun x => (recsOf q).any fun e => e.name == x) = true) (hY : ∀ (w : World) (h : Heap), YP w h → (K w.params).In h)
    (F : ∀ (w : World) (mg : Str → Option Value) (fa : Addr) (h : Heap), YP w h → (K w.params).In h → h.Ns mainGlobals mg → mg d.name = some (.ref fa) → AllTab (K w.params) mg xs h → LawAtS l w (K w.params) CX0 k n x mg fa h) :
    PySem.W.WalkO q loose XP YP l.row.toRowW d [] (fun f vs => PySem.call f vs) := by
  refine Att.attach_callB hn hdf fun w s0 s1 mg mb fa o pm cd doc a vs ns G Y ho hd hcd hmg hobj hints hlen hbits hg => ?_
  have KX := hY w _ Y
  have tabs : AllTab (K w.params) mg xs s1.heap := fun y hy f c P o1 fd1 e dd vs1 sl k0 k1 k2 k3 k4 k5 => by
    obtain ⟨dL, hm, z⟩ := List.any_eq_true.mp (List.all_eq_true.mp hxs y hy)
    have z2 : dL.name = y := beq_iff_eq.mp z
    obtain ⟨a', o', fd', c', P', h1, h2, h3, h4, h5, h6⟩ := G.T.tab dL hm
    have e1 : a' = f := by
      rw [z2, k0] at h1
      cases h1
      rfl
    subst e1
    rw [KX _ _ k1] at h2
    cases h2
    rw [k2] at h3
    cases h3
    rw [k3] at h4
    cases h4
    have hd5 := PySem.W.CodeHd.of h5 h6
    obtain ⟨⟨oc, vc, e1, _, e3, e4⟩, hP⟩ := h6
    rw [KX _ _ k4] at e1
    cases e1
    cases e3
    rw [k5] at e4
    cases e4
    exact ⟨hP, hd5⟩
  obtain ⟨fd, cs, sp, hT, nT, C, hb, hsp, hF⟩ := F w mg fa _ Y KX G.T.g hmg tabs
  exact law_callTs KX G.T.g G.T.b G.T.builtins G.T.nolimit hg hT nT C G.T.bmain hobj hints (Nat.le_trans hlen hn2) hr hF hb (fun H hH hS => hsp H a ns hlen hbits hH hS) fun _ _ _ z => z
end Pb

/-! errors that carry a field; two clauses, each with a name -/
namespace Pb
open PySem PySem.Spec PyProof.Rows L2 Evn LamX
variable [Evn.Tbs]
section
variable {X : Cx}
/-- an error, landed at a, ahead of what is left of the clauses -/
structure Lnd (X : Cx) (pins : List (Addr × Obj)) (a : Addr) (B : Heap) (sI : Shared) (σ : L2.St) (H : Hp) (cls : Value) (d : Option Addr) (z : Shared) : Prop where
  I : Inv X pins σ H sI
  nb : ∀ b o, sI.heap.get? b = some o → b ∉ frs X.stack → B.get? b = some o
  up : sI.heap.UpToSlots z.heap
  fl : HandSPX.FlyingZ B (X.env :: X.outer) a (Zc cls d) z.heap
  na : H a = none
  os : z.os = sI.os
  ag : AllBare z.gens
def Hds (X : Cx) (hds : List ExceptHandler) (w : Ends → WX) : Prop :=
  ∀ (pins : List (Addr × Obj)) (D : Ends) (a : Addr) (B : Heap) (sI : Shared) (σ : L2.St) (H : Hp) (cls : Value) (d : Option Addr) (z : Shared), Lnd X pins a B sI σ H cls d z → w D cls d σ H → wpAny (model X.prog X.w) X.A (handleBy (.ref a) X.env hds) (SP X pins D) X.xe z
theorem hds_nil {W : WX} (hs : X.stack = X.env :: X.outer) (hf : X.env.frame = some X.env.locals) (tk : Takes X W) : Hds X [] (fun _ => W) := by
  intro pins D a B sI σ H cls d z L w
  obtain ⟨I, nb, up, fl, na, os, ag⟩ := L
  obtain ⟨zh, zg, zd, zt, zo⟩ := z
  have fl0 := fl
  obtain ⟨_, _, _, oe, vs, T, oT, ts, he, _, hd, h1, _⟩ := fl0
  have up2 : wpAny (model X.prog X.w) X.A (setFlight (.ref a) (some X.env.locals)) (fun _ y => wpAny (model X.prog X.w) X.A (throw (.ref a) : Sem Flow) (SP X pins D) X.xe y) X.xe ⟨zh, zg, zd, zt, zo⟩ :=
    HandSPX.setFlight_upZ fl fun h' held u => wpAny_throw (tk _ _ ⟨a, B, sI, pins, σ, H, cls, d, rfl, I, nb, up.trans u, .inr (.inr (by rw [hs] <;> exact held)), na, os, ag, w⟩)
  rw [← hf] at up2
  refine wpAny_handleBy_nil (by
    unfold PySem.passOn
    refine wpAny_bind (wpAny_field he hd h1 ?_)
    rw [if_neg (by simp : ¬ ((Value.ref T == Value.none) = true))]
    first | exact wpAny_bind up2 | exact wpAny_bind (wpAny_pure (wpAny_bind up2)))
theorem Lnd.off {pins : List (Addr × Obj)} {a : Addr} {B : Heap} {sI : Shared} {σ : L2.St} {H : Hp} {cls : Value} {d : Option Addr} {z : Shared} (hf : X.env.frame = some X.env.locals) (L : Lnd X pins a B sI σ H cls d z) : a ≠ X.env.locals ∧ a ∉ X.fs := by
  obtain ⟨oe, vs, he, _, hd⟩ := L.fl.there
  have out : a ∉ frs (X.env :: X.outer) := fun m => by
    obtain ⟨_, o, e, n⟩ := L.fl.2.2.1.mem m
    have eo : oe = o := Option.some.inj (he.symm.trans e)
    exact n vs (eo ▸ hd)
  refine ⟨fun e => out ?_, fun m => out ?_⟩
  · exact List.mem_filterMap.mpr ⟨_, .head _, by rw [hf, e] <;> rfl⟩
  · obtain ⟨v, hv, q⟩ := List.mem_filterMap.mp m
    exact List.mem_filterMap.mpr ⟨v, .tail _ hv, q⟩
theorem hds_as {x n : Str} {c : Value} {i : Nat} {suite : List Stmt} {b₀ : Stmt} {np p1 : Pos} {ts : Addr → Value → Option Addr → TS} {hds : List ExceptHandler} {w : Ends → WX} (hf : X.env.frame = some X.env.locals) (hN : X.N.Nodup) (hi : X.N[i]? = some n) (hln : X.env.kindOf n = some .local) (hc : Names X x c)
    (hsu : ∀ (a : Addr) (oe : Obj) (cls : Value) (d : Option Addr) (pn : List (Addr × Obj)), Zc cls d oe → (∃ vs, oe.data = .fields vs) → PSs (X.suite a ((a, oe) :: pn)) (b₀ :: suite) (ts a cls d)) (r : Hds X hds w) : Hds X (.ExceptHandler (some (.Name x np)) (some n) (b₀ :: suite) p1 :: hds) (fun D => wAs X.K c i ts (w D) D) := by
  intro pins D a B sI σ H cls d z L wish
  obtain ⟨b, em, yes, no⟩ := wish
  obtain ⟨nL, nF⟩ := L.off hf
  have J := L.I.landed L.nb L.fl.1 L.up L.os L.ag
  have ok := J.ok
  obtain ⟨oe, vs, he, hz, hd⟩ := L.fl.there
  have S := J.suite he hd L.na nL nF
  refine wpAny_handleBy_cons (codeAny_handlers_test ?_) (fun q => by cases q)
  have ty : PySem.W.Looks (model X.prog X.w) z.heap (typeOf (.ref a)) cls := fun _ _ _ _ k q => wpAny_typeOf_ref (k _ _ he) (hz.1.symm ▸ q)
  have mt := PySem.W.exm_one (M := model X.prog X.w) J.kIn ty em
  have nm : ∀ {Q E : Value → Shared → Prop}, Q c z → wpAny (model X.prog X.w) (X.A.mark (some (.ref a))) (eval (.Name x np) X.env) Q E z := fun {Q E} q => by
    obtain ⟨hg, hb, k | ⟨k, v, nn⟩⟩ := hc
    · exact ld_glob (X := X.suite a ((a, oe) :: (X.pn ++ pins))) S hg k q hb
    · exact ld_blt (X := X.suite a ((a, oe) :: (X.pn ++ pins))) S hg k v q nn hb
  refine nm (mt.here ?_)
  cases b with
  | false => exact r pins D a B sI σ H cls d z L (no rfl)
  | true =>
    refine codeAny_handlers_suite_as (HandSPX.lands_againZ L.fl fun h4 fl4 up4 => ?_)
    have J4 := Inv.landed (s' := { z with heap := h4 }) L.I L.nb fl4.1 (L.up.trans up4) L.os L.ag
    obtain ⟨oe4, vs4, he4, hz4, hd4⟩ := fl4.there
    refine store_ok (X := X.suite a ((a, oe4) :: (X.pn ++ pins))) (v := .ref a) (J4.suite he4 hd4 L.na nL nF) hN hi (.inl hln) rfl (fun s5 S5 => ?_) (.inr hln)
    refine wpAny_mono ((hsu a oe4 cls d (X.pn ++ pins) hz4 ⟨vs4, hd4⟩).run [] s5 _ H _ S5 (yes rfl a L.na)) (fun f s6 sp => ?_) (fun _ _ e => e.elim)
    have gone : ∀ {τ : L2.St} {G : Hp} {Q : Shared → Prop}, Inv (X.suite a ((a, oe4) :: (X.pn ++ pins))) [] τ G s6 → (∀ s7, Inv X pins (τ.set i none) G s7 → Q s7) →
        wpAny (model X.prog X.w) X.A (do bindName X.env n .none; unbindBehindTheSuite X.env n p1) (fun _ y => Q y) X.xe s6 := fun y q => gone_ok (y.unsuite ok) hN hi hln q
    cases f with
    | ret u =>
      obtain ⟨v, τ, G, y, rv, q⟩ := sp
      exact gone y fun s7 j => ⟨v, _, G, j, rv, q⟩
    | next => exact let ⟨τ, G, y, q⟩ := sp; gone y fun s7 j => ⟨_, G, j, q⟩
    | brk => exact let ⟨τ, G, y, q⟩ := sp; gone y fun s7 j => ⟨_, G, j, q⟩
    | cont => exact let ⟨τ, G, y, q⟩ := sp; gone y fun s7 j => ⟨_, G, j, q⟩
theorem ps_try_hds {body : List Stmt} {h₀ : ExceptHandler} {hds : List ExceptHandler} {pos : Pos} {tb : WX → TS} {w : Ends → WX} (hs : X.stack = X.env :: X.outer) (hf : X.env.frame = some X.env.locals)
    (hb : ∀ (W : WX) (pn : List (Addr × Obj)) (xe : Value → Shared → Prop), Takes (X.tr pn xe) W → PassesOwn (model X.prog X.w) X.A X.env xe → PSs (X.tr pn xe) body (tb W)) (hh : Hds X (h₀ :: hds) w) : PS X (.Try body (h₀ :: hds) [] [] pos) (fun D σ H => tb (w D) D σ H) := by
  refine ⟨fun pins s σ H D I h => wpAny_Try_except ?_⟩
  have ok := I.ok
  have run := (hb (w D) (X.pn ++ pins) (fun e y => wpAny (model X.prog X.w) X.A (noteFrame e X.env) (fun _ y2 => wpAny (model X.prog X.w) X.A (setFlight e none) (fun _ y3 => wpAny (model X.prog X.w) X.A (handleBy e X.env (h₀ :: hds)) (SP X pins D) X.xe y3) X.xe y2) X.xe y) (by
    intro u y xx
    obtain ⟨a, B, sI, pins', τ, G, cls, d, rfl, J', nb, up, sky, na, os, ag, wish⟩ := xx
    have sky2 : Sky B (X.env :: X.outer) a (Zc cls d) X.env.locals y.heap := hs ▸ sky
    exact Sky.land Zc.steady (by rw [ok.frames, hs]) hf sky2 fun h3 fl up3 => hh pins D a B sI τ G cls d { y with heap := h3 } ⟨J'.ofTry ok, nb, up.trans up3, fl, na, os, ag⟩ wish) PassesOwn.looking).run [] s σ H D (I.toTry _) h
  refine wpAny_mono run (fun f y sp => ?_) (fun _ _ e => e)
  cases f with
  | ret u => exact let ⟨v, τ, G, J, rv, q⟩ := sp; ⟨v, τ, G, J.ofTry ok, rv, q⟩
  | next => exact let ⟨τ, G, J, q⟩ := sp; wpAny_execs_nil ⟨τ, G, J.ofTry ok, q⟩
  | brk => exact let ⟨τ, G, J, q⟩ := sp; ⟨τ, G, J.ofTry ok, q⟩
  | cont => exact let ⟨τ, G, J, q⟩ := sp; ⟨τ, G, J.ofTry ok, q⟩
end
/-! a class of errors whose __init__ says Base.__init__(self, ..); self.at = at -/
section
variable {X : Cx} {K : PySem.W.Frag} {e : Expr} {es : List Expr} {ta : TA} {p1 p2 pos : Pos}
/-- what the top has written of the base -/
structure BaseAt (K : PySem.W.Frag) (mg : Str → Option Value) (x : Str) (B : Addr) : Prop where
  g : mg x = some (.ref B)
  s : PySem.W.specialIn K (.ref B) "__getattribute__" = some (some (.builtin "type.__getattribute__"))
  r : PySem.W.readsIn K B (.type "type") = true
  f : PySem.W.findCls K (.ref B) (.type "type") "__init__" = some (.val (.builtin "ValueError.__init__"))
theorem pe_binit {x : Str} {B : Addr} {pl : Sem Bool} (b : BaseAt X.K X.mg x B) (hg : Gl X x) (ha : PA X (e :: es) ta) (hdb : (x == ("__debug__" : Str)) = false := by decide)
    (hc : eval (.Call (.Attribute (.Name x p1) "__init__" p2) (e :: es) [] pos) X.env = (do
      let o ← eval (.Name x p1) X.env
      standAt p2.atName
      let (g, l) ← holding [o] (getMethod o "__init__" pl)
      callWith pos g l (backTo pos (starEach (e :: es) X.env)) (backToKw pos (keywordEach [] X.env))) := by rfl)
    (he : starEach (e :: es) X.env = (false, eval e X.env) :: starEach es X.env := by rfl) (hpl : (backTo pos (starEach es X.env)).any (·.1) = false := by rfl) :
    PE X (.Call (.Attribute (.Name x p1) "__init__" p2) (e :: es) [] pos) (tVeI X.K ta) := ⟨fun pins s σ H Q I h => by
  refine PySem.W.methodCall_KW (ld_glob I hg b.g (PySem.W.method_cls I.kIn b.s (PySem.W.cls_value I.kIn b.r b.f (by rfl) ?_)) hdb) hc
  show wpAny _ _ (callWith pos (.builtin "ValueError.__init__") [] (backTo pos (starEach (e :: es) X.env)) []) _ _ _
  refine PyProof.Rows.callWith_method1 (thn (ha.run pos pins _ σ H _ (I.tok _) h) fun ws y z => ?_) he hpl
  obtain ⟨vs, G, J, rv, a, C, us, ev, hl, T, ea, q⟩ := z
  subst ev
  cases rv with
  | @cons _ v0 _ vr r0 rr =>
    obtain rfl : v0 = Value.ref a := r0
    exact oinit_ok T J ea (by rw [← Paired.length rr, sizeLine_eq]; omega) fun y2 J2 => ⟨.non, G, J2, rfl, q⟩⟩
end
/-- the promise of such an __init__ -/
def spInit (K : PySem.W.Frag) : Sp := fun vs H Q _ => ∃ (a C : Addr) (v : V), vs = [.ref a, v] ∧ OexC K C ∧ PySem.W.findIn K (.ref C) "at" = some none ∧ H a = some (exo a C none) ∧ ∀ dx, H dx = none → dx ≠ a → Q .non (upd (upd H dx (exd dx [("at", v)])) a (exo a C (some dx)))
theorem read_init {K : PySem.W.Frag} {vs : List V} {H : Hp} {Q : VK} {E : XK} {z : Str} (h : spInit K vs H Q E) : tSeq (tDrop (tVeI K (tCons (tVar 0) (tCons (tC (.str z)) tNil)))) (tOst K "at" (tVar 0) (tVar 1)) { nx := fun _ H' => Q .non H', rt := Q } (start ["self", "at"] vs) H := by
  obtain ⟨a, C, v, rfl, T, hn, ea, q⟩ := h
  refine ⟨.ref a, rfl, a, C, [.str z], rfl, by simp, T, ea, ?_⟩
  exact ⟨v, rfl, .ref a, rfl, a, C, rfl, T, hn, .inl ⟨ea, fun dx n ne => q dx n ne⟩⟩
/-- an own class of errors with such an __init__ -/
structure IniAt (P : Program) (w : World) (K : PySem.W.Frag) (mg : Str → Option Value) (base : Heap) (x : Str) (C : Addr) : Prop where
  g : mg x = some (.ref C)
  o : OexC K C
  n : PySem.W.findIn K (.ref C) "at" = some none
  f : ∃ (fI : Addr) (fd : FuncData), PySem.W.findIn K (.ref C) "__init__" = some (some (.ref fI)) ∧ PySem.W.typeIn K (.ref fI) = some (.type "function") ∧ FnOk P w K mg base CX0 1 fI fd ["self", "at"] (spInit K) ∧ Binds K fd ["self", "at"] []
  e : ExcC K C
  v : PySem.W.subIn K (.ref C) (.type "ValueError") = some true
  xf : XfC K C
theorem px_raiseI {X : Cx} {W : WX} {x : Str} {C : Addr} {e : Expr} {te : TE} {j : Nat} {p pos pos' : Pos} (h : IniAt X.prog X.w X.K X.mg X.base x C) (hc : X.calm = true) (tk : L2.Takes X W) (hr : Room j X.A) (hj : 2 ≤ j) (hg : Gl X x) (ha : PE X e te) (hdb : (x == ("__debug__" : Str)) = false := by decide)
    (hs : starEach [e] X.env = [(false, eval e X.env)] := by rfl) :
    PS X (.Raise (some (.Call (.Name x p) [e] [] pos)) none pos') (fun _ σ H => tMkO C (spInit X.K) [] (tCons te tNil) σ H fun cls d H' => W cls d σ H') := by
  obtain ⟨fI, fd, i1, i2, F, b⟩ := h.f
  exact ps_raise hc tk (pmk_oex h.o i1 i2 F (hr.mono hj) b .nil (fun _ _ _ _ _ _ _ z => z.elim) hg h.g (pa_cons ha pa_nil (hs := hs)) hdb hs rfl)
/-- the raising, read: the place is what the error carries -/
theorem rd_raiseI {K : PySem.W.Frag} {C : Addr} {te : TE} {σ : L2.St} {H : Hp} {d : PD} {E : XK} (T : OexC K C) (hn : PySem.W.findIn K (.ref C) "at" = some none) (ha : EvD K te σ H d) (k : ∀ H' dd v, Ex H H' → H' dd = some (.xd [("at", v)]) → Dp K H' v d → E (.ref C) (some dd) H') :
    tMkO C (spInit K) [] (tCons te tNil) σ H E := ha H (Ex.refl H) _ fun v H1 x hv => by
  refine ⟨by show 1 ≤ 1000; decide, fun a na => ⟨a, C, v, rfl, T, hn, upd_same, fun dx n ne => ⟨rfl, dx, [("at", v)], upd_same, by rw [upd_ne ne, upd_same], by rw [upd_ne ne] at n; exact n, ?_⟩⟩⟩
  have nd : H1 dx = none := by rw [upd_ne ne] at n; exact n
  have e : upd (del (upd (upd (upd H1 a (exo a C none)) dx (exd dx [("at", v)])) a (exo a C (some dx))) a) dx (.xd [("at", v)]) = upd H1 dx (.xd [("at", v)]) := by
    funext b
    by_cases h1 : b = dx
    · rw [h1, upd_same, upd_same]
    · rw [upd_ne h1, upd_ne h1]
      by_cases h2 : b = a
      · rw [h2, del_same, na]
      · rw [del_ne h2, upd_ne h2, upd_ne h1, upd_ne h2]
  rw [e]
  exact k _ dx v (x.trans (Ex.new nd)) upd_same (dp_ex (Ex.new nd) hv)
/-! isinstance of what a suite holds, with its dict -/
def rIsD (K : PySem.W.Frag) (D a dd : Addr) : List V → Hp → VK → Prop := fun xs H Q => (∃ fs, H dd = some (.xd fs)) ∧ rIsE K D a xs H Q
theorem call_isD {X : Cx} {K : PySem.W.Frag} {a : Addr} {S : Addr × Addr} {oe : Obj} {pn : List (Addr × Obj)} {cls : Value} {d : Option Addr} (e : X.K = K) (hp : cls = .ref S.1 ∧ d = some S.2 ∧ ExcC K S.1) (hz : Zc cls d oe) (hf : ∃ vs, oe.data = .fields vs) : CallR (X.suite a ((a, oe) :: pn)) (.builtin "isinstance") (rIsD K S.1 a S.2) := by
  subst e
  obtain ⟨rfl, rfl, hC⟩ := hp
  intro pins s σ H xs us Q I r h
  obtain ⟨⟨fs, hd⟩, c, u, b, rfl, hu, k, q⟩ := h
  obtain ⟨x1, l1, rfl, r1, r2⟩ : ∃ y l, us = y :: l ∧ RelV (.ref a) y ∧ Vals [c] l := by cases r with | cons p q => exact ⟨_, _, rfl, p, q⟩
  obtain ⟨x2, rfl, r3⟩ : ∃ y, l1 = [y] ∧ RelV c y := by
    cases r2 with
    | cons p q =>
      cases q
      exact ⟨_, rfl, p⟩
  obtain rfl : x1 = .ref a := r1
  obtain rfl := hu _ r3
  obtain ⟨ga, _⟩ := I.pin (a, oe) (List.mem_append_left _ (.head _))
  have od : ObjOk X.prog X.w H s.heap S.2 (.xd fs) := I.hok _ _ hd
  obtain ⟨mA, ns, _⟩ := od
  obtain ⟨o2, _, _, g2, _, _⟩ := ns
  obtain ⟨vs, hv⟩ := hf
  have J : PySem.W.InstAt s.heap a oe S.1 (some o2) := ⟨ga, hz.1, by unfold PySem.W.notCls; rw [hv] <;> rfl, by rw [hz.2]; exact g2⟩
  have cl : (PySem.W.clsIn X.K S.1).isSome = true := by
    obtain ⟨cd, e, _⟩ := PySem.W.any_some hC.hd
    rw [e] <;> rfl
  exact PySem.W.kia_one (PySem.W.kitx_exc cl hC.hg hC.hk hC.hs hC.ha hC.hn hC.ht hC.hm) I.kIn J k (fun z => nomatch z) fun tk => ⟨.bl b, H, I.kept (t' := tk) fun _ _ z => z, rfl, q⟩
theorem pss_exG {α : Type} {X : Cx} {ss : List Stmt} {t : α → TS} {p : α → Prop} (h : ∀ y, p y → PSs X ss (t y)) : PSs X ss (fun D σ H => ∃ y, p y ∧ t y D σ H) := ⟨fun pins s σ H D I ⟨y, hp, q⟩ => (h y hp).run pins s σ H D I q⟩
theorem pe_xfK {X : Cx} {K : PySem.W.Frag} {a : Addr} {S : Addr × Addr} {oe : Obj} {cls : Value} {d : Option Addr} {pn : List (Addr × Obj)} {e : Expr} {te : TE} {pos : Pos} (e0 : X.K = K) (hx : XfC K S.1) (hno : PySem.W.findIn K (.ref S.1) "at" = some none)
    (hz : Zc cls d oe) (hf : ∃ vs, oe.data = .fields vs) (he : PE (X.suite a ((a, oe) :: pn)) e te) (hb : attributeBase e "at" X.env (eval e X.env) = eval e X.env := by rfl) : PE (X.suite a ((a, oe) :: pn)) (.Attribute e "at" pos) (tXf a cls d S.1 "at" te) := by
  subst e0
  exact pe_xf hx hno hz hf he hb
section
variable {K : PySem.W.Frag} {σ : L2.St} {H : Hp} {i : Nat} {a S C dd : Addr} {b : Bool} {v : V} {p : PD}
theorem ed_isD (hd : H dd = some (.xd [("at", v)])) (hv : σ[i]? = some (some (.ref a))) (h : PySem.W.kitOne K (.ref S) (.ref C) = some b) : EvD K (tCB (rIsD K S a dd) (tCons (tVar i) (tCons (tC (.ref C)) tNil))) σ H (.bool b) := fun H1 x Q q =>
  ⟨_, hv, ⟨_, x _ _ hd⟩, .ref C, .ref C, b, rfl, fun u r => r, h, q _ H1 (Ex.refl H1) (.bl b)⟩
theorem ed_isDV (hd : H dd = some (.xd [("at", v)])) (hv : σ[i]? = some (some (.ref a))) (h : PySem.W.kitOne K (.ref S) (.type "ValueError") = some b) : EvD K (tCB (rIsD K S a dd) (tCons (tVar i) (tCons (tC (.ty "ValueError")) tNil))) σ H (.bool b) := fun H1 x Q q =>
  ⟨_, hv, ⟨_, x _ _ hd⟩, .ty "ValueError", .type "ValueError", b, rfl, fun u r => r, h, q _ H1 (Ex.refl H1) (.bl b)⟩
theorem ed_xf (hd : H dd = some (.xd [("at", v)])) (hp : Dp K H v p) (hv : σ[i]? = some (some (.ref a))) : EvD K (tXf a (.ref S) (some dd) S "at" (tVar i)) σ H p := fun H1 x Q q =>
  ⟨_, hv, rfl, rfl, dd, _, v, rfl, x _ _ hd, by simp [List.lookup], q v H1 (Ex.refl H1) (dp_ex x hp)⟩
end
/-! what a def hands on whose errors may carry a place -/
inductive RI where
  | ok (d : PD)
  | er (C : Addr)
  | pl (C : Addr) (p : PD)
def RI.of : Except Addr PD → RI
  | .ok d => .ok d
  | .error C => .er C
def OutI (K : PySem.W.Frag) (H : Hp) (Q : VK) (E : XK) : RI → Prop
  | .ok d => ∀ v H', Ex H H' → Dp K H' v d → Q v H'
  | .er C => ∀ H', Ex H H' → E (.ref C) none H'
  | .pl C p => ∀ H' dd v, Ex H H' → H' dd = some (.xd [("at", v)]) → Dp K H' v p → E (.ref C) (some dd) H'
theorem OutI.of {K : PySem.W.Frag} {H : Hp} {Q : VK} {E : XK} {r : Except Addr PD} (h : OutI K H Q E (.of r)) : Out K H Q E r := by cases r <;> exact h
def SpI {γ : Type} (K : PySem.W.Frag) (args : γ → List PD) (side : γ → Prop) (res : γ → RI) : Sp := fun vs H Q E => ∃ g, DpAll K H vs (args g) ∧ side g ∧ OutI K H Q E (res g)
section
variable {P : Program} {w : World} {K : PySem.W.Frag} {mg : Str → Option Value} {base : Heap} {x : Str} {st : Stmt} {N ps : List Str} {k : Nat} {γ : Type} {args : γ → List PD} {side : γ → Prop}
theorem can_TI {res : γ → RI} (F : Dfn K mg x st ps) (S : FnScope N ps (defScope st)) (len : ∀ g, (args g).length = ps.length)
    (hbody : ∀ (cdv : Value) (A : Around) (outer : List Env) (s : Shared) (H : Hp) (vs : List V) (Q : VK) (E : XK) (f : Addr) (g : γ), Room k (A.deeper (envOfC x (defScope st) s.heap.objs.size f cdv)) → Tabs Tbs.T H → DpAll K H vs (args g) → side g → OutI K H Q E (res g) →
      ∃ t, PSs (cxOf (L2.CX P w) P w K mg base N x (defScope st) f cdv A outer s H E) (defBody st) t ∧ t { nx := fun _ H' => Q .non H', rt := Q } (start N vs) H) : Can P w K mg base (L2.CX P w) (k + 1) x (SpT (SpI K args side res)) := by
  obtain ⟨f, fd, F, hm, b⟩ := F.ex
  exact ⟨f, fd, ps, F.okX S (fun vs H Q E ⟨_, g, hv, _⟩ => (dpa_len hv).trans (len g)) (fun cdv A outer s H vs Q E hr ⟨ht, g, hv, hs, q⟩ => hbody cdv A outer s H vs Q E f g hr ht hv hs q), hm, F.kp, b⟩
end
section
variable {K : PySem.W.Frag} {σ : L2.St} {H : Hp} {ar : TA} {D : Ends} {γ : Type} {args : γ → List PD} {side : γ → Prop} {res : γ → RI}
/-- f(..) in a try: its three ends -/
theorem sd_dropTI {E : L2.St → XK} (g : γ) (ht : Tabs Tbs.T H) (ha : EvDs K ar σ H (args g)) (hs : side g) (k : OutI K H (fun _ H1 => D.nx σ H1) (E σ) (res g)) : tDrop (tCallS (SpT (SpI K args side res)) E ar) D σ H :=
  ha H (Ex.refl H) _ fun vs H1 x hv => ⟨x.tb ht, g, hv, hs, by
    revert k
    cases res g with
    | ok d => exact fun k v H2 x2 hv => k v H2 (x.trans x2) hv
    | er C => exact fun k H2 x2 => k H2 (x.trans x2)
    | pl C p => exact fun k H2 dd v x2 => k H2 dd v (x.trans x2)⟩
end
end Pb

namespace Pb
theorem lcm_le2 {a b : Nat} (h1 : 0 < a) (h2 : 0 < b) : Nat.lcm a b ≤ a * b := Nat.le_of_dvd (Nat.mul_pos h1 h2) (Nat.lcm_dvd_mul _ _)
/-! # Pulses told by their days -/
/-- the tight form of the days f -/
structure PF (T : List Int × List Int) (f : Nat → Int) (n m : Nat) : Prop where
  t : Tight T.1 T.2
  b1 : Bits T.1
  b2 : Bits T.2
  v : ∀ d, vl T.1 T.2 d = f d
  l1 : T.1.length ≤ n
  l2 : T.2.length ≤ m
theorem PF.ne {T : List Int × List Int} {f : Nat → Int} {n m : Nat} (p : PF T f n m) : T.2 ≠ [] := p.t.1.1
theorem PF.pos {T : List Int × List Int} {f : Nat → Int} {n m : Nat} (p : PF T f n m) : 0 < T.2.length := List.length_pos_iff.mpr p.ne
theorem PF.bit {T : List Int × List Int} {f : Nat → Int} {n m : Nat} (p : PF T f n m) (d : Nat) : f d = 0 ∨ f d = 1 := by rw [← p.v]; exact vl_bits p.b1 p.b2 d
theorem PF.one {T T' : List Int × List Int} {f f' : Nat → Int} {n m n' m' : Nat} (p : PF T f n m) (p' : PF T' f' n' m') (e : ∀ d, f d = f' d) : T = T' := by
  have r := tight_one p.t p'.t fun d => by rw [p.v, p'.v, e]
  exact Prod.ext r.1 r.2
theorem PF.mono {T : List Int × List Int} {f : Nat → Int} {n m n' m' : Nat} (p : PF T f n m) (h1 : n ≤ n') (h2 : m ≤ m') : PF T f n' m' := ⟨p.t, p.b1, p.b2, p.v, Nat.le_trans p.l1 h1, Nat.le_trans p.l2 h2⟩
theorem PF.fn {T : List Int × List Int} {f f' : Nat → Int} {n m : Nat} (p : PF T f n m) (e : ∀ d, f d = f' d) : PF T f' n m := ⟨p.t, p.b1, p.b2, fun d => (p.v d).trans (e d), p.l1, p.l2⟩
theorem Pu.pf {n : Nat} {P : List Int × List Int} (p : Pu n P) : PF P (vl P.1 P.2) n n := ⟨p.t, p.b1, p.b2, fun _ => rfl, p.l1, p.l2⟩
theorem pf_tight {h b : List Int} {f : Nat → Int} {n m : Nat} (hb : b ≠ []) (h1 : Bits h) (h2 : Bits b) (l1 : h.length ≤ n) (l2 : b.length ≤ m) (e : ∀ d, vl h b d = f d) : PF (tightM h b) f n m := by
  have l := tight_len (h := h) hb
  have p := per_spec hb
  have s := tight_bits h1 h2
  exact ⟨tight_tight hb, s.1, s.2, fun d => (tight_vl hb d).trans (e d), by omega, by omega⟩
theorem vl_never (d : Nat) : vl [] [0] d = 0 := by
  rw [vl_ge (Nat.zero_le _)]
  unfold cyc
  simp [Nat.mod_one]
theorem never_pf {n m : Nat} (hm : 1 ≤ m) : PF ([], [0]) (fun _ => 0) n m := by
  refine ⟨⟨⟨by simp, fun s s1 s2 _ => ?_⟩, .inl rfl⟩, fun x hx => (by cases hx), fun x hx => .inl (List.mem_singleton.mp hx), vl_never, Nat.zero_le _, hm⟩
  have : s ∣ 1 := s2
  have := Nat.le_of_dvd (by decide) this
  show s = 1
  omega
theorem always_pf {n m : Nat} (hm : 1 ≤ m) : PF ([], [1]) (fun _ => 1) n m := by
  refine ⟨⟨⟨by simp, fun s s1 s2 _ => ?_⟩, .inl rfl⟩, fun x hx => (by cases hx), fun x hx => .inr (List.mem_singleton.mp hx), fun d => ?_, Nat.zero_le _, hm⟩
  · have : s ∣ 1 := s2
    have := Nat.le_of_dvd (by decide) this
    show s = 1
    omega
  · rw [vl_ge (Nat.zero_le _)]
    unfold cyc
    simp [Nat.mod_one]
theorem per_dvd {b : List Int} (h : b ≠ []) : per b ∣ b.length := by
  obtain ⟨p1, p2, p3, _⟩ := per_spec h
  exact ((perOk_iff p2 p3).mp p1).1
/-! ### a window on the days -/
theorem getD_map {f : Nat → Int} {n i : Nat} (h : i < n) : ((List.range n).map f).getD i 0 = f i := by
  rw [List.getD_eq_getElem?_getD, List.getElem?_map, List.getElem?_range h]
  rfl
theorem vl_win {f : Nat → Int} {N m : Nat} (hp : PerF f N m) (hm : 0 < m) (d : Nat) : vl ((List.range N).map f) ((List.range m).map fun i => f (N + i)) d = f d := by
  by_cases hd : d < N
  · rw [vl_lt (by simpa using hd), getD_map hd]
  · rw [vl_ge (by simpa using Nat.le_of_not_lt hd)]
    unfold cyc
    simp only [List.length_map, List.length_range]
    have hl := Nat.mod_lt (d - N) hm
    rw [getD_map (f := fun i => f (N + i)) hl]
    have := PerF.mul hp ((d - N) / m) (N + (d - N) % m) (by omega)
    have e := Nat.mod_add_div (d - N) m
    rw [← this]
    congr 1
    omega
theorem win_take {f : Nat → Int} {N m : Nat} : ((List.range (N + m)).map f).take N = (List.range N).map f := by
  rw [← List.map_take, List.take_range, Nat.min_eq_left (Nat.le_add_right _ _)]
theorem win_drop {f : Nat → Int} {N m : Nat} : ((List.range (N + m)).map f).drop N = (List.range m).map fun i => f (N + i) := by
  rw [List.range_add, List.map_append, List.drop_append_of_le_length (by simp), List.drop_of_length_le (by simp), List.map_map]
  rfl
theorem bI_of {x : Int} (h : x = 0 ∨ x = 1) : bI (x == 1) = x := by rcases h with e | e <;> subst e <;> rfl
/-! ### what the moves make -/
def laterF (f : Nat → Int) (k : Nat) : Nat → Int := fun d => if d < k then 0 else f (d - k)
theorem vl_later {h b : List Int} {k : Nat} (d : Nat) : vl (List.replicate k 0 ++ h) b d = laterF (vl h b) k d := by
  unfold laterF
  by_cases hk : d < k
  · rw [if_pos hk, vl_lt (by simp; omega), getD_append_l (by simpa using hk), List.getD_eq_getElem?_getD, List.getElem?_replicate, if_pos hk]
    rfl
  · rw [if_neg hk]
    by_cases hh : d - k < h.length
    · rw [vl_lt hh, vl_lt (by simp; omega), getD_append_r (by simpa using Nat.le_of_not_lt hk), List.length_replicate]
    · rw [vl_ge (by simp; omega), vl_ge (by omega)]
      congr 1
      simp
      omega
def earlierF (f : Nat → Int) (k : Nat) : Nat → Int := fun d => f (d + k)
theorem daysM_map {h b : List Int} (h1 : Bits h) (h2 : Bits b) (f n : Nat) : ((List.range (n - f)).map fun i => bI (vl h b (f + i) == 1)) = (List.range (n - f)).map fun i => vl h b (f + i) := by

  exact List.map_congr_left fun i _ => bI_of (vl_bits h1 h2 _)
theorem vl_earlier {h b : List Int} (hb : b ≠ []) {k : Nat} (d : Nat) : vl ((List.range (max k h.length - k)).map fun i => vl h b (k + i)) ((List.range b.length).map fun i => vl h b (max k h.length + i)) d = earlierF (vl h b) k d := by
  have P : PerF (earlierF (vl h b) k) (max k h.length - k) b.length := fun d hd => by
    unfold earlierF
    rw [show d + b.length + k = (d + k) + b.length by omega]
    exact vl_per h b (d + k) (by omega)
  have := vl_win P (List.length_pos_iff.mpr hb) d
  rw [← this]
  congr 1
  · exact List.map_congr_left fun i _ => by unfold earlierF; rw [Nat.add_comm]
  · exact List.map_congr_left fun i _ => by unfold earlierF; congr 1; omega
def strM (n : Nat) (l : List Int) : List Int := l.flatMap fun x => x :: List.replicate (n - 1) 0
theorem strM_len {n : Nat} (hn : 0 < n) : ∀ l : List Int, (strM n l).length = n * l.length
  | [] => by simp [strM]
  | x :: l => by
    have ih := strM_len hn l
    unfold strM at ih ⊢
    rw [List.flatMap_cons, List.length_append, ih, List.length_cons, List.length_replicate, List.length_cons, Nat.mul_succ]
    omega
theorem strM_getD {n : Nat} (hn : 0 < n) : ∀ (l : List Int) (i : Nat), (strM n l).getD i 0 = if i % n = 0 then l.getD (i / n) 0 else 0
  | [], i => by simp [strM]
  | x :: l, i => by
    have ih := strM_getD hn l
    have e : strM n (x :: l) = (x :: List.replicate (n - 1) 0) ++ strM n l := by unfold strM; rw [List.flatMap_cons]
    rw [e]
    by_cases hi : i < n
    · rw [getD_append_l (by simp; omega), Nat.mod_eq_of_lt hi, Nat.div_eq_of_lt hi]
      cases i with
      | zero => simp
      | succ i =>
        rw [if_neg (by omega), List.getD_cons_succ, List.getD_eq_getElem?_getD, List.getElem?_replicate]
        split <;> rfl
    · rw [getD_append_r (by simp; omega)]
      have el : (x :: List.replicate (n - 1) (0 : Int)).length = n := by simp; omega
      rw [el, ih]
      obtain ⟨j, hj⟩ : ∃ j, i = j + n := ⟨i - n, by omega⟩
      subst hj
      rw [Nat.add_sub_cancel, Nat.add_mod_right, Nat.add_div_right _ hn, List.getD_cons_succ]
theorem strM_bits {n : Nat} {l : List Int} (h : Bits l) : Bits (strM n l) := fun x hx => by
  obtain ⟨y, hy, hx⟩ := List.mem_flatMap.mp hx
  rcases List.mem_cons.mp hx with e | e
  · rw [e]; exact h y hy
  · exact .inl (List.mem_replicate.mp e).2
def strF (f : Nat → Int) (n : Nat) : Nat → Int := fun d => if d % n = 0 then f (d / n) else 0
theorem vl_str {h b : List Int} {n : Nat} (hn : 0 < n) (d : Nat) : vl (strM n h) (strM n b) d = strF (vl h b) n d := by
  unfold strF
  by_cases hd : d < n * h.length
  · rw [vl_lt (by rw [strM_len hn]; exact hd), strM_getD hn]
    have : d / n < h.length := by rw [Nat.div_lt_iff_lt_mul hn, Nat.mul_comm]; exact hd
    rw [vl_lt this]
  · obtain ⟨j, hj⟩ : ∃ j, d = j + n * h.length := ⟨d - n * h.length, by omega⟩
    subst hj
    rw [vl_ge (by rw [strM_len hn]; omega), strM_len hn, Nat.add_sub_cancel]
    unfold cyc
    rw [strM_len hn, strM_getD hn, Nat.mod_mul_right_mod, Nat.mod_mul_right_div_self, Nat.add_mul_mod_self_left, Nat.add_mul_div_left _ _ hn]
    rw [vl_ge (Nat.le_add_left _ _), Nat.add_sub_cancel]
    rfl
def shrF (f : Nat → Int) (n : Nat) : Nat → Int := fun d => f (n * d)
theorem shr_per {h b : List Int} {n : Nat} (hn : 0 < n) : PerF (shrF (vl h b) n) ((h.length + n - 1) / n) b.length := fun d hd => by
  unfold shrF
  have h1 : h.length ≤ n * d := by
    have h2 := Nat.div_add_mod (h.length + n - 1) n
    have h3 := Nat.mod_lt (h.length + n - 1) hn
    have h4 : n * ((h.length + n - 1) / n) ≤ n * d := Nat.mul_le_mul_left _ hd
    omega
  rw [Nat.mul_add, show n * b.length = b.length * n from Nat.mul_comm _ _]
  exact PerF.mul (vl_per h b) n _ h1
def shrH (h : List Int) (n : Nat) : Nat := (h.length + n - 1) / n
def shrL (h b : List Int) (n : Nat) : List Int := (List.range (shrH h n + b.length)).map fun d => bI (vl h b (n * d) == 1)
theorem shrH_le {h : List Int} {n : Nat} (hn : 0 < n) : shrH h n ≤ h.length := by
  unfold shrH
  rw [Nat.div_le_iff_le_mul_add_pred hn]
  have := Nat.le_mul_of_pos_left h.length hn
  omega
/-! ### two joined -/
def joinH (P S : List Int × List Int) : Nat := max P.1.length S.1.length
/-- the days found -/
def joinL (P S : List Int × List Int) (g : Bool → Bool → Bool) : List Int := (List.range (joinH P S + Nat.lcm P.2.length S.2.length)).map fun d => bI (g (vl P.1 P.2 d == 1) (vl S.1 S.2 d == 1))
def joinF (g : Bool → Bool → Bool) (f f' : Nat → Int) : Nat → Int := fun d => bI (g (f d == 1) (f' d == 1))
theorem joinL_bits {P S : List Int × List Int} {g : Bool → Bool → Bool} : Bits (joinL P S g) := fun x hx => by
  obtain ⟨i, _, e⟩ := List.mem_map.mp hx
  rw [← e]
  unfold bI
  split
  · exact .inr rfl
  · exact .inl rfl
theorem joinL_len {P S : List Int × List Int} {g : Bool → Bool → Bool} : (joinL P S g).length = joinH P S + Nat.lcm P.2.length S.2.length := by unfold joinL; simp
theorem join_win {P S : List Int × List Int} {f f' : Nat → Int} {n m n' m' : Nat} (g : Bool → Bool → Bool) (p : PF P f n m) (s : PF S f' n' m') : PF (tightM ((joinL P S g).take (joinH P S)) ((joinL P S g).drop (joinH P S))) (joinF g f f') (max n n') (m * m') := by
  have l0 : 0 < Nat.lcm P.2.length S.2.length := Nat.lcm_pos p.pos s.pos
  have lc := lcm_le2 p.pos s.pos
  have lm : P.2.length * S.2.length ≤ m * m' := Nat.mul_le_mul p.l2 s.l2
  have p1 := p.l1
  have s1 := s.l1
  have hl := joinL_len (P := P) (S := S) (g := g)
  have hB := joinL_bits (P := P) (S := S) (g := g)
  have hH : joinH P S = max P.1.length S.1.length := rfl
  refine pf_tight (fun e => ?_) (hB.take _) (hB.drop _) (by rw [List.length_take]; omega) (by rw [List.length_drop]; omega) fun d => ?_
  · have := congrArg List.length e
    rw [List.length_drop, List.length_nil] at this
    omega
  · have e : joinL P S g = (List.range (joinH P S + Nat.lcm P.2.length S.2.length)).map (joinF g (vl P.1 P.2) (vl S.1 S.2)) := rfl
    have e1 : vl P.1 P.2 = f := funext p.v
    have e2 : vl S.1 S.2 = f' := funext s.v
    have per : PerF (joinF g (vl P.1 P.2) (vl S.1 S.2)) (joinH P S) (Nat.lcm P.2.length S.2.length) := fun d hd => by
      unfold joinF
      obtain ⟨a, ha⟩ := Nat.dvd_lcm_left P.2.length S.2.length
      obtain ⟨b, hb⟩ := Nat.dvd_lcm_right P.2.length S.2.length
      have z1 := PerF.mul (vl_per P.1 P.2) a d (by omega)
      have z2 := PerF.mul (vl_per S.1 S.2) b d (by omega)
      rw [← ha] at z1
      rw [← hb] at z2
      rw [z1, z2]
    rw [e, win_take, win_drop, vl_win (N := joinH P S) per l0, e1, e2]
theorem join_dvd {P S : List Int × List Int} (g : Bool → Bool → Bool) (hP : P.2 ≠ []) (hS : S.2 ≠ []) : (tightM ((joinL P S g).take (joinH P S)) ((joinL P S g).drop (joinH P S))).2.length ∣ Nat.lcm P.2.length S.2.length := by
  have l0 : 0 < Nat.lcm P.2.length S.2.length := Nat.lcm_pos (List.length_pos_iff.mpr hP) (List.length_pos_iff.mpr hS)
  have hl := joinL_len (P := P) (S := S) (g := g)
  have ld : ((joinL P S g).drop (joinH P S)).length = Nat.lcm P.2.length S.2.length := by rw [List.length_drop]; omega
  have ne : (joinL P S g).drop (joinH P S) ≠ [] := fun e => by
    rw [e, List.length_nil] at ld
    omega
  rw [(tight_len ne).2, ← ld]
  exact per_dvd ne
def gF_both : Bool → Bool → Bool := fun a b => a && b
def gF_either : Bool → Bool → Bool := fun a b => a || b
def gF_less : Bool → Bool → Bool := fun a b => a && !b
def gF_apart : Bool → Bool → Bool := fun a b => a != b
/-- the choices by number -/
def gW (w : Nat) : Bool → Bool → Bool := if w = 0 then gF_both else if w = 1 then gF_either else if w = 2 then gF_less else gF_apart
theorem bI_eq1 (b : Bool) : (bI b == 1) = b := by cases b <;> rfl
theorem bit_not {x : Int} (h : x = 0 ∨ x = 1) : (1 - x == 1) = !(x == 1) := by rcases h with e | e <;> subst e <;> rfl
end Pb

namespace Pb
open PySem PySem.Spec PyProof.Rows L2 Evn
variable [Evn.Tbs]
/-- te is worth the pulse of the days f -/
def EvP (K : PySem.W.Frag) (te : TE) (σ : L2.St) (H : Hp) (f : Nat → Int) (n m : Nat) : Prop := ∃ T, PF T f n m ∧ EvD K te σ H (pul T.1 T.2)
section
variable {K : PySem.W.Frag} {σ : L2.St} {H H' : Hp} {ta tb te : TE} {f f' : Nat → Int} {n m n' m' : Nat}
theorem EvP.of {T : List Int × List Int} (h : EvD K te σ H (pul T.1 T.2)) (p : PF T f n m) : EvP K te σ H f n m := ⟨T, p, h⟩
theorem EvP.d {T : List Int × List Int} (h : EvP K te σ H f n m) (p : PF T f' n' m') (e : ∀ d, f d = f' d) : EvD K te σ H (pul T.1 T.2) := by
  obtain ⟨T', q, h⟩ := h
  have := q.one p e
  subst this
  exact h
theorem EvP.fn (h : EvP K te σ H f n m) (e : ∀ d, f d = f' d) : EvP K te σ H f' n m := by
  obtain ⟨T, p, h⟩ := h
  exact ⟨T, p.fn e, h⟩
theorem EvP.mono (h : EvP K te σ H f n m) (h1 : n ≤ n') (h2 : m ≤ m') : EvP K te σ H f n' m' := by
  obtain ⟨T, p, h⟩ := h
  exact ⟨T, p.mono h1 h2, h⟩
theorem ep_eq (ha : EvP K ta σ H f n m) (hb : EvP K tb σ H f' n' m') (e : ∀ d, f d = f' d) : EvD K (tOp (rEqD K) ta tb) σ H (.bool true) := by
  obtain ⟨T, p, ha⟩ := ha
  have hb := hb.d p fun d => (e d).symm
  refine EvD.to (ed_eq ha hb (shp_pul _ _) (shp_pul _ _)) ?_
  rw [eqv_pul]
  simp
theorem ep_ne (ha : EvP K ta σ H f n m) (hb : EvP K tb σ H f' n' m') (e : ∀ d, f d = f' d) : EvD K (tOp (rNeD K) ta tb) σ H (.bool false) := by
  obtain ⟨T, p, ha⟩ := ha
  have hb := hb.d p fun d => (e d).symm
  refine EvD.to (ed_ne ha hb (shp_pul _ _) (shp_pul _ _)) ?_
  rw [eqv_pul]
  simp
/-- .. whose bar divides M -/
def EvQ (K : PySem.W.Frag) (te : TE) (σ : L2.St) (H : Hp) (f : Nat → Int) (n M : Nat) : Prop := ∃ T, PF T f n M ∧ T.2.length ∣ M ∧ EvD K te σ H (pul T.1 T.2)
theorem EvQ.p {M : Nat} (h : EvQ K te σ H f n M) : EvP K te σ H f n M := by
  obtain ⟨T, p, _, h⟩ := h
  exact ⟨T, p, h⟩
end
end Pb

namespace Pb
open PySem
/-! # Data of a shape, equal to itself -/
mutual
theorem eqv_self : ∀ {d : PyData}, PyData.canLay0 d = true → PyData.eqv d d = true
  | .none, _ => rfl
  | .bool b, _ => by show (b == b) = true; simp
  | .int i, _ => by show (i == i) = true; simp
  | .str x, _ => by show (x == x) = true; simp
  | .list xs, h => by rw [PyData.eqv]; exact eqvAll_self (by rw [PyData.canLay0] at h; exact h)
  | .tuple xs, h => by rw [PyData.eqv]; exact eqvAll_self (by rw [PyData.canLay0] at h; exact h)
  | .dict _, h => by rw [PyData.canLay0] at h; cases h
theorem eqvAll_self : ∀ {ds : List PyData}, PyData.canLayAll0 ds = true → PyData.eqvAll ds ds = true
  | [], _ => rfl
  | d :: ds, h => by
    rw [PyData.canLayAll0, Bool.and_eq_true] at h
    rw [PyData.eqvAll, eqv_self h.1, eqvAll_self h.2]
    rfl
end
theorem lay_all {ds : List PyData} (h : ∀ d ∈ ds, PyData.canLay0 d = true) : PyData.canLayAll0 ds = true := by
  induction ds with
  | nil => rfl
  | cons d ds ih =>
    rw [PyData.canLayAll0, h d List.mem_cons_self, ih fun x hx => h x (List.mem_cons_of_mem _ hx)]
    rfl
theorem dep_all {ds : List PyData} {k : Nat} (h : ∀ d ∈ ds, d.depth ≤ k) : PyData.depthAll ds ≤ k := by
  induction ds with
  | nil => exact Nat.zero_le _
  | cons d ds ih =>
    rw [PyData.depthAll]
    have h1 := h d List.mem_cons_self
    have h2 := ih fun x hx => h x (List.mem_cons_of_mem _ hx)
    exact Nat.max_le.mpr ⟨h1, h2⟩
theorem shp_list {ds : List PyData} {k : Nat} (h : ∀ d ∈ ds, PyData.canLay0 d = true ∧ d.depth ≤ k) (hk : k ≤ 60) : SeqAt.shaped (.list ds) = true := by
  have h1 := lay_all fun d hd => (h d hd).1
  have h2 := dep_all fun d hd => (h d hd).2
  unfold SeqAt.shaped
  rw [PyData.canLay0, h1, Bool.true_and, decide_eq_true_eq, PyData.depth]
  omega
/-! # Rules -/
structure Rul where
  s : Nat
  p : Nat
  t : Option Nat
def Rul.td (r : Rul) : PyData := match r.t with | none => .none | some t => .int (t : Nat)
def Rul.d (r : Rul) : PyData := .tuple [.int (r.s : Nat), .int (r.p : Nat), r.td]
structure Rul.Ok (r : Rul) : Prop where
  s : r.s ≤ 400
  p1 : 1 ≤ r.p
  p2 : r.p ≤ 200
  t : ∀ t, r.t = some t → 1 ≤ t ∧ t ≤ 400
def atR (s p t d : Nat) : Bool := decide (s ≤ d) && decide ((d - s) % p = 0) && decide ((d - s) / p < t)
def Rul.has (r : Rul) (d : Nat) : Bool := decide (r.s ≤ d) && decide ((d - r.s) % r.p = 0) && (match r.t with | none => true | some t => decide ((d - r.s) / r.p < t))
def lenR (s p t : Nat) : Nat := s + p * (t - 1) + 1
/-- the head after i turns -/
def hedR (s p t i : Nat) : List Int := (List.range (lenR s p t)).map fun d => bI (atR s p i d)
def Rul.head (r : Rul) : List Int := match r.t with | none => List.replicate r.s 0 | some t => hedR r.s r.p t t
def Rul.bar (r : Rul) : List Int := match r.t with | none => 1 :: List.replicate (r.p - 1) 0 | some _ => [0]
theorem hedR_len (s p t i : Nat) : (hedR s p t i).length = lenR s p t := by simp [hedR]
theorem hedR_zero (s p t : Nat) : hedR s p t 0 = List.replicate (lenR s p t) 0 := by
  apply List.ext_getElem
  · simp [hedR]
  · intro i h1 h2
    unfold hedR atR
    simp
    rfl
theorem hedR_set {s p t i : Nat} (hp : 1 ≤ p) : (hedR s p t i).set (s + p * i) 1 = hedR s p t (i + 1) := by
  apply List.ext_getElem
  · simp [hedR]
  · intro d h1 h2
    have gl : ∀ (i d : Nat) (h : d < (hedR s p t i).length), (hedR s p t i)[d] = bI (atR s p i d) := fun i d h => by simp [hedR]
    rw [List.getElem_set, gl, gl]
    split
    · rename_i e
      subst e
      unfold atR
      rw [Nat.add_sub_cancel_left, Nat.mul_mod_right, Nat.mul_div_cancel_left _ (by omega)]
      rw [decide_eq_true (show s ≤ s + p * i by omega), decide_eq_true (show (0 : Nat) = 0 from rfl), decide_eq_true (show i < i + 1 by omega)]
      rfl
    · rename_i e
      congr 1
      unfold atR
      by_cases h3 : s ≤ d
      · by_cases h4 : (d - s) % p = 0
        · have e2 := Nat.div_add_mod (d - s) p
          have : (d - s) / p ≠ i := fun z => e (by rw [← z]; omega)
          rw [decide_eq_true h3, decide_eq_true h4]
          congr 1
          rw [decide_eq_decide]
          omega
        · rw [decide_eq_false h4]
          simp
      · rw [decide_eq_false h3]
        simp
theorem rul_lt {s p t i : Nat} (hp : 1 ≤ p) (hi : i < t) : s + p * i < lenR s p t := by
  unfold lenR
  have := Nat.mul_le_mul_left p (show i ≤ t - 1 by omega)
  omega
theorem Rul.bar_ne (r : Rul) : r.bar ≠ [] := by
  unfold Rul.bar
  split <;> simp
theorem Rul.vl {r : Rul} (o : r.Ok) (d : Nat) : Pb.vl r.head r.bar d = bI (r.has d) := by
  obtain ⟨s, p, t⟩ := r
  have hp : 1 ≤ p := o.p1
  cases t with
  | none =>
    unfold Rul.head Rul.bar Rul.has
    dsimp only
    by_cases h : d < s
    · rw [vl_lt (by simpa using h), decide_eq_false (by omega)]
      rw [List.getD_eq_getElem?_getD, List.getElem?_replicate, if_pos h]
      rfl
    · rw [vl_ge (by simpa using h), decide_eq_true (by omega)]
      unfold cyc
      simp only [List.length_replicate, List.length_cons]
      rw [show p - 1 + 1 = p by omega]
      cases hm : (d - s) % p with
      | zero => rfl
      | succ k =>
        have hk : k < p - 1 := by
          have := Nat.mod_lt (d - s) hp
          omega
        rw [List.getD_cons_succ, List.getD_eq_getElem?_getD, List.getElem?_replicate, if_pos hk]
        rfl
  | some t =>
    have ht := o.t t rfl
    unfold Rul.head Rul.bar Rul.has
    dsimp only
    by_cases h : d < lenR s p t
    · rw [vl_lt (by rw [hedR_len]; exact h)]
      unfold hedR
      rw [getD_map h]
      rfl
    · rw [vl_ge (by rw [hedR_len]; omega)]
      unfold cyc
      have e0 : ([0] : List Int).getD ((d - (hedR s p t t).length) % ([0] : List Int).length) 0 = 0 := by
        rw [show (d - (hedR s p t t).length) % ([0] : List Int).length = 0 from Nat.mod_one _]
        rfl
      rw [e0]
      have : (decide (s ≤ d) && decide ((d - s) % p = 0) && decide ((d - s) / p < t)) = false := by
        by_cases h4 : (d - s) % p = 0
        · have e2 := Nat.div_add_mod (d - s) p
          unfold lenR at h
          have : ¬ (d - s) / p < t := fun z => by
            have := Nat.mul_le_mul_left p (show (d - s) / p ≤ t - 1 by omega)
            omega
          rw [decide_eq_false this, Bool.and_false]
        · rw [decide_eq_false h4, Bool.and_false, Bool.false_and]
      rw [this]
      rfl
theorem bI_01 (b : Bool) : bI b = 0 ∨ bI b = 1 := by cases b <;> decide
theorem Rul.head_bits (r : Rul) : Bits r.head := fun x hx => by
  unfold Rul.head at hx
  split at hx
  · exact .inl (List.mem_replicate.mp hx).2
  · obtain ⟨i, _, e⟩ := List.mem_map.mp hx
    rw [← e]
    exact bI_01 _
theorem Rul.bar_bits (r : Rul) : Bits r.bar := fun x hx => by
  unfold Rul.bar at hx
  split at hx
  · rcases List.mem_cons.mp hx with e | e
    · exact .inr e
    · exact .inl (List.mem_replicate.mp e).2
  · exact .inl (List.mem_singleton.mp hx)
theorem Rul.pf {r : Rul} (o : r.Ok) : PF (tightM r.head r.bar) (fun d => bI (r.has d)) r.head.length r.bar.length :=
  pf_tight r.bar_ne r.head_bits r.bar_bits (Nat.le_refl _) (Nat.le_refl _) (Rul.vl o)
theorem Rul.head_len {r : Rul} (o : r.Ok) : r.head.length ≤ 81000 ∧ r.bar.length ≤ 200 := by
  obtain ⟨s, p, t⟩ := r
  have h1 : s ≤ 400 := o.s
  have h2 : 1 ≤ p := o.p1
  have h3 : p ≤ 200 := o.p2
  cases t with
  | none =>
    show (List.replicate s (0 : Int)).length ≤ _ ∧ (1 :: List.replicate (p - 1) (0 : Int)).length ≤ _
    simp
    omega
  | some t =>
    have ht := o.t t rfl
    show (hedR s p t t).length ≤ _ ∧ ([0] : List Int).length ≤ _
    rw [hedR_len]
    unfold lenR
    have := Nat.mul_le_mul h3 (show t - 1 ≤ 399 by omega)
    simp
    omega
theorem Rul.lay (r : Rul) : PyData.canLay0 r.d = true ∧ r.d.depth ≤ 1 := by
  obtain ⟨s, p, t⟩ := r
  cases t with
  | none => exact ⟨rfl, by simp [Rul.d, Rul.td, PyData.depth, PyData.depthAll]⟩
  | some t => exact ⟨rfl, by simp [Rul.d, Rul.td, PyData.depth, PyData.depthAll]⟩
theorem shp_rules (rs : List Rul) : SeqAt.shaped (.list (rs.map Rul.d)) = true := shp_list (k := 1) (fun d hd => by
  obtain ⟨r, _, e⟩ := List.mem_map.mp hd
  rw [← e]
  exact r.lay) (by decide)
theorem eqv_rules (rs : List Rul) : PyData.eqv (.list (rs.map Rul.d)) (.list (rs.map Rul.d)) = true := by
  rw [PyData.eqv]
  exact eqvAll_self (lay_all fun d hd => by
    obtain ⟨r, _, e⟩ := List.mem_map.mp hd
    rw [← e]
    exact r.lay.1)
theorem eqv_rules_nil (rs : List Rul) : PyData.eqv (.list (rs.map Rul.d)) (.list []) = rs.isEmpty := by
  cases rs <;> rfl
theorem filt_any (rs : List Rul) (f : Rul → Bool) : (rs.filter f).isEmpty = !rs.any f := by
  induction rs with
  | nil => rfl
  | cons r rs ih =>
    rw [List.filter_cons, List.any_cons]
    cases h : f r with
    | true => rfl
    | false =>
      rw [if_neg (by decide), ih]
      rfl
theorem gvR {f : Rul → Bool} {g : Rul → PyData} (rs : List Rul) : gv rs.length (fun i => f (rs.getD i ⟨0, 1, none⟩)) (fun i => g (rs.getD i ⟨0, 1, none⟩)) = (rs.filter f).map g := by
  have e : (List.range rs.length).map (fun i => rs.getD i ⟨0, 1, none⟩) = rs := by
    apply List.ext_getElem
    · simp
    · intro i h1 h2
      rw [List.getElem_map, List.getElem_range, List.getD_eq_getElem?_getD, List.getElem?_eq_getElem h2]
      rfl
  unfold gv
  conv => rhs; rw [← e]
  rw [List.filter_map, List.map_map]
  rfl
/-! rules put together -/
def stepJ (F T : List Int × List Int) : List Int × List Int := tightM ((joinL F T gF_either).take (joinH F T)) ((joinL F T gF_either).drop (joinH F T))
def rulesM (C : Addr) : List Rul → List Int × List Int → Except Addr (List Int × List Int)
  | [], F => .ok F
  | r :: rs, F => if (tightM r.head r.bar).1.length ≤ 400 ∧ (tightM r.head r.bar).2.length ≤ 200 then
      if (stepJ F (tightM r.head r.bar)).1.length ≤ 400 ∧ (stepJ F (tightM r.head r.bar)).2.length ≤ 200 then rulesM C rs (stepJ F (tightM r.head r.bar)) else .error C
    else .error C
theorem rules_pf {C : Addr} {n M : Nat} (hn : n ≤ 400) (hM : M ≤ 200) : ∀ {rs : List Rul} {F : List Int × List Int} {f : Nat → Int}, PF F f n M → F.2.length ∣ M → (∀ r ∈ rs, r.Ok ∧ r.head.length ≤ n ∧ r.bar.length ∣ M) →
    ∃ T, rulesM C rs F = .ok T ∧ PF T (fun d => bI (f d == 1 || rs.any fun r => r.has d)) n M ∧ T.2.length ∣ M
  | [], F, f, p, dv, _ => ⟨F, rfl, p.fn fun d => by
      rw [List.any_nil, Bool.or_false]
      rcases p.bit d with e | e <;> rw [e] <;> rfl, dv⟩
  | r :: rs, F, f, p, dv, h => by
    obtain ⟨o, h1, h2⟩ := h r List.mem_cons_self
    have M0 : 0 < M := Nat.lt_of_lt_of_le p.pos p.l2
    have q := Rul.pf o
    have dq : (tightM r.head r.bar).2.length ∣ M := by
      rw [(tight_len r.bar_ne).2]
      exact Nat.dvd_trans (per_dvd r.bar_ne) h2
    have q' : PF (tightM r.head r.bar) (fun d => bI (r.has d)) n M := ⟨q.t, q.b1, q.b2, q.v, Nat.le_trans q.l1 h1, Nat.le_of_dvd M0 dq⟩
    have j := join_win gF_either p q'
    have dj : (stepJ F (tightM r.head r.bar)).2.length ∣ M := Nat.dvd_trans (join_dvd gF_either p.ne q'.ne) (Nat.lcm_dvd dv dq)
    have jl := j.l1
    rw [Nat.max_self] at jl
    have j' : PF (stepJ F (tightM r.head r.bar)) (fun d => bI (f d == 1 || r.has d)) n M := ⟨j.t, j.b1, j.b2, fun d => by
      refine (j.v d).trans ?_
      unfold joinF gF_either
      rw [bI_eq1], jl, Nat.le_of_dvd M0 dj⟩
    obtain ⟨T, e, pT, dT⟩ := rules_pf hn hM j' dj fun r hr => h r (List.mem_cons_of_mem _ hr)
    refine ⟨T, ?_, pT.fn fun d => ?_, dT⟩
    · unfold rulesM
      rw [if_pos ⟨Nat.le_trans q'.l1 hn, Nat.le_trans q'.l2 hM⟩, if_pos ⟨Nat.le_trans j'.l1 hn, Nat.le_trans j'.l2 hM⟩]
      exact e
    · rw [bI_eq1, List.any_cons, Bool.or_assoc]
/-! the rules of a pulse -/
def rulesH (h : List Int) : List Rul := gv h.length (fun i => h.getD i 0 == 1) fun i => ⟨i, 1, some 1⟩
def rulesB (n : Nat) (b : List Int) : List Rul := gv b.length (fun i => b.getD i 0 == 1) fun i => ⟨n + i, b.length, none⟩
def rulesOf (P : List Int × List Int) : List Rul := rulesH P.1 ++ rulesB P.1.length P.2
theorem mem_gv {α : Type} {n : Nat} {f : Nat → Bool} {d : Nat → α} {x : α} : x ∈ gv n f d ↔ ∃ i, i < n ∧ f i = true ∧ d i = x := by
  unfold gv
  rw [List.mem_map]
  constructor
  · rintro ⟨i, h, e⟩
    rw [List.mem_filter, List.mem_range] at h
    exact ⟨i, h.1, h.2, e⟩
  · rintro ⟨i, h1, h2, e⟩
    exact ⟨i, List.mem_filter.mpr ⟨List.mem_range.mpr h1, h2⟩, e⟩
theorem gv_map {α β : Type} {n : Nat} {f : Nat → Bool} {d : Nat → α} {g : α → β} : (gv n f d).map g = gv n f fun i => g (d i) := by
  unfold gv
  rw [List.map_map]
  rfl
theorem rules_any {P : List Int × List Int} (nb : P.2 ≠ []) (d : Nat) : (rulesOf P).any (fun r => r.has d) = (vl P.1 P.2 d == 1) := by
  obtain ⟨h, b⟩ := P
  have b0 : 0 < b.length := List.length_pos_iff.mpr nb
  rw [Bool.eq_iff_iff, List.any_eq_true, beq_iff_eq]
  unfold rulesOf rulesH rulesB
  by_cases hd : d < h.length
  · rw [vl_lt hd]
    constructor
    · rintro ⟨r, hr, hh⟩
      rcases List.mem_append.mp hr with z | z
      · obtain ⟨i, h1, h2, e⟩ := mem_gv.mp z
        subst e
        unfold Rul.has at hh
        simp only [Bool.and_eq_true, decide_eq_true_eq] at hh
        rw [Nat.div_one] at hh
        have : i = d := by omega
        subst this
        exact beq_iff_eq.mp h2
      · obtain ⟨i, h1, h2, e⟩ := mem_gv.mp z
        subst e
        unfold Rul.has at hh
        simp only [Bool.and_eq_true, decide_eq_true_eq] at hh
        have := hh.1.1
        have : h.length + i ≤ d := this
        omega
    · intro z
      refine ⟨⟨d, 1, some 1⟩, List.mem_append_left _ (mem_gv.mpr ⟨d, hd, beq_iff_eq.mpr z, rfl⟩), ?_⟩
      unfold Rul.has
      simp
  · rw [vl_ge (show h.length ≤ d by omega)]
    unfold cyc
    constructor
    · rintro ⟨r, hr, hh⟩
      rcases List.mem_append.mp hr with z | z
      · obtain ⟨i, h1, h2, e⟩ := mem_gv.mp z
        subst e
        unfold Rul.has at hh
        simp only [Bool.and_eq_true, decide_eq_true_eq] at hh
        rw [Nat.div_one] at hh
        have : i < h.length := h1
        omega
      · obtain ⟨i, h1, h2, e⟩ := mem_gv.mp z
        subst e
        unfold Rul.has at hh
        simp only [Bool.and_eq_true, decide_eq_true_eq] at hh
        have h1' : i < b.length := h1
        have hh1 : h.length + i ≤ d := hh.1.1
        have hh2 : (d - (h.length + i)) % b.length = 0 := hh.1.2
        have e2 := Nat.div_add_mod (d - (h.length + i)) b.length
        have e3 : (d - h.length) % b.length = i := by
          rw [show d - h.length = i + b.length * ((d - (h.length + i)) / b.length) by omega, Nat.add_mul_mod_self_left, Nat.mod_eq_of_lt h1']
        show b.getD ((d - h.length) % b.length) 0 = 1
        rw [e3]
        exact beq_iff_eq.mp h2
    · intro z
      have hm := Nat.mod_lt (d - h.length) b0
      have e2 := Nat.div_add_mod (d - h.length) b.length
      refine ⟨⟨h.length + (d - h.length) % b.length, b.length, none⟩, List.mem_append_right _ (mem_gv.mpr ⟨(d - h.length) % b.length, hm, beq_iff_eq.mpr z, rfl⟩), ?_⟩
      unfold Rul.has
      simp only [Bool.and_eq_true, decide_eq_true_eq]
      refine ⟨⟨by omega, ?_⟩, trivial⟩
      rw [show d - (h.length + (d - h.length) % b.length) = b.length * ((d - h.length) / b.length) by omega, Nat.mul_mod_right]
theorem rulesOf_ok {P : List Int × List Int} (nb : P.2 ≠ []) (h1 : P.1.length ≤ 14) (h2 : P.2.length ≤ 14) {r : Rul} (hr : r ∈ rulesOf P) : r.Ok ∧ r.head.length ≤ 28 ∧ r.bar.length ∣ P.2.length := by
  obtain ⟨h, b⟩ := P
  have b0 : 0 < b.length := List.length_pos_iff.mpr nb
  dsimp only at h1 h2
  unfold rulesOf rulesH rulesB at hr
  rcases List.mem_append.mp hr with z | z
  · obtain ⟨i, i1, i2, e⟩ := mem_gv.mp z
    dsimp only at i1
    subst e
    refine ⟨⟨by show i ≤ 400; omega, by show 1 ≤ 1; decide, by show 1 ≤ 200; decide, fun t ht => ?_⟩, ?_, Nat.one_dvd _⟩
    · have := Option.some.inj ht
      omega
    · show (hedR i 1 1 1).length ≤ 28
      rw [hedR_len]
      unfold lenR
      omega
  · obtain ⟨i, i1, i2, e⟩ := mem_gv.mp z
    dsimp only at i1
    subst e
    refine ⟨⟨by show h.length + i ≤ 400; omega, by show 1 ≤ b.length; omega, by show b.length ≤ 200; omega, fun t ht => by cases ht⟩, ?_, ?_⟩
    · show (List.replicate (h.length + i) (0 : Int)).length ≤ 28
      rw [List.length_replicate]
      omega
    · show (1 :: List.replicate (b.length - 1) (0 : Int)).length ∣ b.length
      rw [List.length_cons, List.length_replicate, show b.length - 1 + 1 = b.length by omega]
      exact Nat.dvd_refl _
end Pb

namespace Pb
open PySem PySem.Spec PyProof.Rows L2 Evn
variable [Evn.Tbs]
/-! # Days added to days -/
def convB (f g : Nat → Int) (d : Nat) : Bool := (List.range (d + 1)).any fun x => (f x == 1) && (g (d - x) == 1)
def convF (f g : Nat → Int) (d : Nat) : Int := bI (convB f g d)
theorem convB_iff {f g : Nat → Int} {d : Nat} : convB f g d = true ↔ ∃ x, x ≤ d ∧ f x = 1 ∧ g (d - x) = 1 := by
  unfold convB
  rw [List.any_eq_true]
  constructor
  · rintro ⟨x, h1, h2⟩
    rw [Bool.and_eq_true, beq_iff_eq, beq_iff_eq] at h2
    exact ⟨x, by have := List.mem_range.mp h1; omega, h2.1, h2.2⟩
  · rintro ⟨x, h1, h2, h3⟩
    exact ⟨x, List.mem_range.mpr (by omega), by rw [Bool.and_eq_true, beq_iff_eq, beq_iff_eq]; exact ⟨h2, h3⟩⟩
theorem conv_comm (f g : Nat → Int) (d : Nat) : convF f g d = convF g f d := by
  have key : ∀ f g : Nat → Int, convB f g d = true → convB g f d = true := fun f g h => by
    obtain ⟨x, h1, h2, h3⟩ := convB_iff.mp h
    exact convB_iff.mpr ⟨d - x, by omega, h3, by rw [show d - (d - x) = x by omega]; exact h2⟩
  unfold convF
  congr 1
  rw [Bool.eq_iff_iff]
  exact ⟨key f g, key g f⟩
theorem conv_per {f g : Nat → Int} {h1 h2 p1 p2 L : Nat} (P1 : PerF f h1 p1) (P2 : PerF g h2 p2) (d1 : p1 ∣ L) (d2 : p2 ∣ L) : PerF (convF f g) (h1 + h2 + L) L := fun d hd => by
  have Q1 : PerF f h1 L := by obtain ⟨k, rfl⟩ := d1; exact P1.mul k
  have Q2 : PerF g h2 L := by obtain ⟨k, rfl⟩ := d2; exact P2.mul k
  unfold convF
  congr 1
  rw [Bool.eq_iff_iff, convB_iff, convB_iff]
  constructor
  · rintro ⟨x, a1, a2, a3⟩
    by_cases hx : h1 + L ≤ x
    · refine ⟨x - L, by omega, ?_, by rw [show d - (x - L) = d + L - x by omega]; exact a3⟩
      rw [← Q1 (x - L) (by omega), show x - L + L = x by omega]
      exact a2
    · refine ⟨x, by omega, a2, ?_⟩
      rw [← Q2 (d - x) (by omega), show d - x + L = d + L - x by omega]
      exact a3
  · rintro ⟨x, a1, a2, a3⟩
    by_cases hx : h1 ≤ x
    · refine ⟨x + L, by omega, ?_, by rw [show d + L - (x + L) = d - x by omega]; exact a3⟩
      rw [Q1 x hx]
      exact a2
    · refine ⟨x, by omega, a2, ?_⟩
      rw [show d + L - x = d - x + L by omega, Q2 (d - x) (by omega)]
      exact a3
/-- a list of truths as noughts and ones -/
def bitL (M : Nat) (P : Nat → Bool) : List Int := (List.range M).map fun d => bI (P d)
theorem bitL_len (M : Nat) (P : Nat → Bool) : (bitL M P).length = M := by simp [bitL]
theorem bitL_set {M k : Nat} {P : Nat → Bool} : (bitL M P).set k 1 = bitL M fun d => P d || d == k := by
  apply List.ext_getElem
  · simp [bitL]
  · intro i h1 h2
    simp only [bitL, List.getElem_set, List.getElem_map, List.getElem_range]
    by_cases h : k = i
    · subst h
      rw [if_pos rfl]
      simp [bI]
    · rw [if_neg h, show (i == k) = false from beq_eq_false_iff_ne.mpr (Ne.symm h), Bool.or_false]
theorem bitL_congr {M : Nat} {P Q : Nat → Bool} (h : ∀ d, d < M → P d = Q d) : bitL M P = bitL M Q := List.map_congr_left fun d hd => by rw [h d (List.mem_range.mp hd)]
/-! enumerate, of a list -/
section
variable {K : PySem.W.Frag} {σ : L2.St} {H : Hp} {tl : TE} {v : V} {ds : List PD}
theorem pi_enumX {X : Cx} {K : PySem.W.Frag} {e : Expr} {ta : TA} {p pos tpos : Pos} {elts : List Expr} {kk : Nat} (e0 : X.K = K) (hg : Gl X "enumerate") (hm : X.mg "enumerate" = none) (ha : PA X [e] ta) (hs : starEach [e] X.env = [(false, eval e X.env)] := by rfl) :
    PI X (.Tuple elts kk tpos) (.Call (.Name "enumerate" p) [e] [] pos) (iEnum K ta) := by subst e0; exact pi_enum hg hm ha hs
theorem yp_dp {a : Addr} {xs : List V} (ha : DpAll K H xs ds) {i : Nat} {Hx Hy : Hp} {x : V} (hi : i < xs.length) (x2 : Ex H Hx) (y : YPair (fun i => some (.int (i : Nat))) (fun i => xs[i]?) i Hx x Hy) : Ex Hx Hy ∧ Dp K Hy x (.tuple [.int (i : Nat), ds.getD i .none]) := by
  obtain ⟨T, a1, a2, e, hn, eH, h1, h2⟩ := y
  subst e eH
  cases h1
  obtain ⟨d, hd, h⟩ := dpa_get ha h2
  have n := Ex.new (o := .tup [.int (i : Nat), a2]) hn
  refine ⟨n, .tup (st_of upd_same) (.cons (.int _) (.cons ?_ .nil))⟩
  rw [List.getD_eq_getElem?_getD, hd]
  exact dp_ex (x2.trans n) h
theorem ei_enum (h : EvD K tl σ H (.list ds)) : EvI K (iEnum K (tCons tl tNil)) σ H ds.length (fun i => .tuple [.int (i : Nat), ds.getD i .none]) := fun H1 x R q => h H1 x _ fun v H2 x2 hv => by
  obtain ⟨a, xs, rfl, hs, ha⟩ := dp_lst hv
  refine ⟨a, xs, rfl, hs, q (Ite K a) H2 _ _ x2 (dpa_len ha ▸ walk_enum (xs := xs)) (fun H3 x3 => ex_l x3 hs) fun i Hx z Hy hi x3 y => yp_dp (a := a) ha (by rw [dpa_len ha]; exact hi) x3 y⟩
theorem ej_enum {i : Nat} (hv : σ[i]? = some (some v)) (h : Dp K H v (.list ds)) : EvJ K (iEnum K (tCons (tVar i) tNil)) σ H ds.length (fun i => .tuple [.int (i : Nat), ds.getD i .none]) := fun H1 x R q => by
  obtain ⟨a, xs, rfl, hs, ha⟩ := dp_lst h
  refine ⟨_, hv, a, xs, rfl, ex_l x hs, q (Ite K a) H1 _ _ (Ex.refl H1) (dpa_len ha ▸ walk_enum (xs := xs)) (fun H3 x3 => ex_l x3 hs) fun i Hx z Hy hi x3 y => yp_dp (a := a) ha (by rw [dpa_len ha]; exact hi) x3 y⟩
end
end Pb

namespace Pb
open PySem PySem.Spec PyProof.Rows L2 Evn
variable [Evn.Tbs]
/-! ### sum of a tuple of ints -/
section
variable {prog : Program} {w : World} {A : Around} {E : Value → Shared → Prop} {s : Shared} {Q : Value → Shared → Prop} {its : List Value} {ns : List Int} {l : Addr}
theorem sumT_raw (hh : A.handled = none) (hl : s.heap.IsTuple l its.toArray) (hi : IntsAre its ns)
    (h : ∀ h' tk t', (∀ b o, s.heap.get? b = some o → h'.get? b = some o) → Q (.int ns.sum t') { s with heap := h', toks := tk }) : wpAny (model prog w) A (call (.builtin "sum") [.ref l]) Q E s := by
  obtain ⟨xs, e⟩ := hi.allInts.items
  have hn : numsOf (intItems xs).toList = ns := by rw [← e]; exact hi.numsOf
  rw [nums_intItems] at hn
  rw [e] at hl
  refine PySem.W.ktm_sumG hh hl fun h' tk t' hk => ?_
  have := h h' tk t' hk
  rw [preSum_eq, List.take_of_length_le (by simp), hn]; exact this
end
def rSumT (K : PySem.W.Frag) : List V → Hp → VK → Prop := fun vs H Q => ∃ (a : Addr) (ns : List Int), vs = [V.ref a] ∧ SqT K H a (ns.map V.int) ∧ Q (.int ns.sum) H
theorem cr_sumT {X : Cx} (hc : X.calm = true) : CallR X (.builtin "sum") (rSumT X.K) := by
  intro pins s σ H vs us Q I r h
  obtain ⟨a, ns, rfl, hs, q⟩ := h
  obtain ⟨its, rv, hl, _⟩ := I.tuple hs
  rw [Vals.ref1 r]
  exact sumT_raw (I.ok.hd hc) hl rv.ints fun h' tk t' hk => ⟨.int _, H, I.kept hk, ⟨_, rfl⟩, q⟩
def rSumX (K : PySem.W.Frag) : List V → Hp → VK → Prop := fun vs H Q => rSum K vs H Q ∨ rSumT K vs H Q
theorem cr_sumX {X : Cx} {K : PySem.W.Frag} (e : X.K = K) (hc : X.calm = true) : CallR X (.builtin "sum") (rSumX K) := by
  subst e
  exact (cr_sum hc).or (cr_sumT hc)
section
variable {K : PySem.W.Frag} {σ : L2.St} {H : Hp} {ta : TE}
theorem ed_sumT {ns : List Int} (ha : EvD K ta σ H (.tuple (ns.map .int))) : EvD K (tCB (rSumX K) (tCons ta tNil)) σ H (.int ns.sum) := ed_cb (eds_cons ha eds_nil) fun H1 _ vs hv Q q => by
  obtain ⟨x, rfl, hx⟩ := dpa1 hv
  obtain ⟨a, xs, rfl, hs, ha2⟩ := dp_tup hx
  have e := dpa_ints ha2
  subst e
  exact .inr ⟨a, ns, rfl, hs, q _ H1 (Ex.refl H1) (.int _)⟩
theorem ed_sumL {ns : List Int} (ha : EvD K ta σ H (.list (ns.map .int))) : EvD K (tCB (rSumX K) (tCons ta tNil)) σ H (.int ns.sum) := ed_cb (eds_cons ha eds_nil) fun H1 _ vs hv Q q => by
  obtain ⟨x, rfl, hx⟩ := dpa1 hv
  obtain ⟨a, xs, rfl, hs, ha2⟩ := dp_lst hx
  have e := dpa_ints ha2
  subst e
  exact .inl ⟨a, ns, rfl, hs, q _ H1 (Ex.refl H1) (.int _)⟩
end
/-! ### enumerate of a tuple -/
open AutoSeq1 (wpAny_loadPart') in
theorem meets_enumT (l : Addr) (items : Array Value) (n : Nat) (dct : Option Addr) (sl : Array (Option Value)) :
    Meets (Builtin.«enumerate.__new__» ⟨[.type "enumerate", .ref l], []⟩) (fun _ R s => s.heap.get? l = some { cls := .type "tuple", dict := dct, data := .seq items n, slots := sl } ∧
      R (.ok (.ret (.ref (s.heap.push { cls := .type "tuple_iterator", data := .fields #[.ref l, .int 0 0] }).objs.size)))
        { s with heap := (s.heap.push { cls := .type "tuple_iterator", data := .fields #[.ref l, .int 0 0] }).push { cls := .type "enumerate", data := .fields #[.none, .bool false, .ref s.heap.objs.size, rawInt 0, .none, .none] } }) :=
  .of_wp fun prog w A R s h => by
    obtain ⟨hp, g, d, tk, os⟩ := s
    obtain ⟨hl, h⟩ := h
    have hsub := sub_enumerate
    have hL : Heap.IsTuple (Shared.heap ⟨hp, g, d, tk, os⟩) l items := ⟨_, hl, rfl, n, rfl⟩
    wp_walk using wpAny_loadPart' hl
    refine wpAny_stack_any fun st => wpAny_pure ?_
    split
    · rename_i c _ _ _ _ _
      cases (c == Value.type "enumerate")
      · wp_walk using wpAny_loadPart' hl, wpAny_pyIter_tuple hL
        exact ⟨_, rfl, h⟩
      · wp_walk using wpAny_loadPart' hl, wpAny_pyIter_tuple hL
        exact ⟨_, rfl, h⟩
    · wp_walk using wpAny_loadPart' hl, wpAny_pyIter_tuple hL
      exact ⟨_, rfl, h⟩
section
variable {prog : Program} {w : World} {A : Around} {E : Value → Shared → Prop} {s : Shared}
theorem call_enumT {l : Addr} {items : Array Value} {Q : Value → Shared → Prop} (hL : s.heap.IsTuple l items)
    (h : ∀ h', IsEnum h' (s.heap.objs.size + 1) s.heap.objs.size 0 .none → h'.IsTupleIter s.heap.objs.size l 0 → h'.objs.size = s.heap.objs.size + 2 →
      (∀ b o, s.heap.get? b = some o → h'.get? b = some o) → Q (.ref (s.heap.objs.size + 1)) { s with heap := h' }) :
    wpAny (model prog w) A (call (.type "enumerate") [.ref l]) Q E s := by
  obtain ⟨⟨c, dct, dt, sl⟩, hl, hc, n, hd⟩ := hL
  replace hc : c = .type "tuple" := hc
  replace hd : dt = .seq items n := hd
  subst hc hd
  refine callType_new F.called_enumerate (by decide) (F.typeCall_enumerate_1 _) (F.newCall_enumerate_1 _) (fun obj => F.args_object_init_2 obj _) F.entry_enumerate_new
    (meets_enumT l items n dct sl) ⟨hl, ?_⟩
  have hz : (s.heap.push { cls := .type "tuple_iterator", data := .fields #[.ref l, .int 0 0] }).objs.size = s.heap.objs.size + 1 := Heap.size_push ..
  show _ ∧ _
  rw [hz]
  have he : IsEnum ((s.heap.push { cls := .type "tuple_iterator", data := .fields #[.ref l, .int 0 0] }).push
      { cls := .type "enumerate", data := .fields #[.none, .bool false, .ref s.heap.objs.size, rawInt 0, .none, .none] }) (s.heap.objs.size + 1) s.heap.objs.size 0 .none := by
    have := Heap.get?_push_size (s.heap.push { cls := .type "tuple_iterator", data := .fields #[.ref l, .int 0 0] })
      (o := { cls := .type "enumerate", data := .fields #[.none, .bool false, .ref s.heap.objs.size, rawInt 0, .none, .none] }) rfl
    rw [hz] at this
    exact this
  exact ⟨⟨_, he, rfl⟩, h _ he ⟨_, Heap.get?_push_of_some _ (Heap.get?_push_size _ rfl), rfl, rfl⟩ (by rw [Heap.size_push, hz]) fun b o x => Heap.get?_push_of_some _ (Heap.get?_push_of_some _ x)⟩
end
def IteT (K : PySem.W.Frag) (a : Addr) : It :=
  ⟨fun i H => ∃ (xs : List V) (x : V), SqT K H a xs ∧ xs[i]? = some x, fun i H v H' => ∃ T x, v = .ref T ∧ H T = none ∧ H' = upd H T (.tup [.int (i : Nat), x]) ∧ ∀ xs, SqT K H a xs → xs[i]? = some x, fun i H => ∃ xs : List V, SqT K H a xs ∧ xs.length = i⟩
theorem turn_enumT {P : Program} {w : World} {K : PySem.W.Frag} {elts : List Expr} {kk : Nat} {tpos : Pos} (a e it : Addr) (hae : a ≠ e) (hai : a ≠ it) :
    Turn P w K (.Tuple elts kk tpos) (IteT K a) [e, it] e (fun i h => (∃ old, IsEnum h e it ((i : Nat) : Int) old) ∧ h.IsTupleIter it a i ∧ e ≠ it) where
  mem := by simp
  obj := fun i h st b hb => by
    obtain ⟨⟨old, he⟩, ⟨o, ho, hc, hd⟩, _⟩ := st
    have e' : b = e ∨ b = it := by simpa using hb
    rcases e' with z | z
    · rw [z]; exact ⟨_, he, fun v q => nomatch q⟩
    · rw [z]; exact ⟨o, ho, fun v q => by rw [hd] at q; cases q⟩
  keep := fun i h h' st k => let ⟨⟨old, he⟩, hi, hne⟩ := st; ⟨⟨old, k e (by simp) _ he⟩, hi.at fun o q => k it (by simp) o q, hne⟩
  item := by
    intro X hP hw hK hc i pins s σ H E I hf st hg
    subst hP hw hK
    obtain ⟨⟨old, he⟩, hit, hne⟩ := st
    obtain ⟨xs, x, hq, hx⟩ := hg
    obtain ⟨its, rv, p, hz⟩ := I.tuple hq
    obtain ⟨u, hu, ru⟩ := rv.get hx
    have hel : e < s.heap.objs.size := Heap.lt_size he
    have hil : it < s.heap.objs.size := by obtain ⟨_, q, _⟩ := hit; exact Heap.lt_size q
    have hlt : i < its.toArray.size := by
      have : i < its.length := (List.getElem?_eq_some_iff.mp hu).1
      simpa using this
    have hhd : X.A.in1.handled = none := I.ok.hd hc
    refine wpAny_pyNext_enum_itemD (Draws.tuple (A := X.A.in1) (show X.A.in1.handled = none from I.ok.hd hc) it a hai its.toArray) he ⟨hit, p⟩ hlt hne (by simp; exact ⟨hne, fun z => hae z.symm⟩) fun y h' tk hy ho hst hT hsz hk => ?_
    have ey : y = u := by
      rw [show its.toArray[i]? = some u by simpa using hu] at hy
      exact (Option.some.inj hy).symm
    subst ey
    refine ⟨_, rfl, wpAny_letOwnedTupleGo_enum (s := { s with heap := h', toks := tk + 1 }) ho fun h'' he' sb => ?_⟩
    have hT2 : h''.get? s.heap.objs.size = some { cls := .type "tuple", data := .seq #[.int i tk, y] } := (sb.2 _ (Nat.ne_of_gt hel)).trans hT
    have new : ObjOk X.prog X.w (upd H s.heap.objs.size (.tup [.int (i : Nat), x])) h'' s.heap.objs.size (.tup [.int (i : Nat), x]) :=
      ⟨by show 2 ≤ sizeLine; decide, [.int i tk, y], .cons ⟨_, rfl⟩ (.cons ru .nil), ⟨_, hT2, rfl, _, rfl⟩⟩
    have I1 : Inv X pins σ (upd H s.heap.objs.size (.tup [.int (i : Nat), x])) { s with heap := h'', toks := tk + 1 } :=
      I.turnedNew (ch := [e, it]) (fun b ob hb q => (sb.2 b (fun z => hb (by simp [z]))).trans (hk b ob (fun z => hb (by simp [z])) (fun z => hb (by simp [z])) q)) hf (Nat.le_refl _) new
    refine ⟨.ref s.heap.objs.size, _, I1, rfl, ⟨_, x, rfl, I.hok.fresh (Nat.le_refl _), rfl, fun ys hy => by rw [I.tuple_inj hy hq]; exact hx⟩, ⟨⟨y, ?_⟩, hst.1.at fun o q => (sb.2 it (Ne.symm hne)).trans q, hne⟩, fun b hb => ?_⟩
    · have e1 : ((i + 1 : Nat) : Int) = (i : Int) + 1 := by omega
      rw [e1]; exact he'
    · have hb' : b < s.heap.objs.size := by
        have e' : b = e ∨ b = it := by simpa using hb
        rcases e' with z | z
        · rw [z]; exact hel
        · rw [z]; exact hil
      rw [upd_ne (Nat.ne_of_lt hb')]
      exact (hf b hb).1
  done := by
    intro X hP hw hK hc i pins s σ H E I hf st hg
    subst hP hw hK
    obtain ⟨⟨old, he⟩, hit, hne⟩ := st
    obtain ⟨xs, hq, hx⟩ := hg
    obtain ⟨its, rv, p, hz⟩ := I.tuple hq
    obtain ⟨f0, f1, f2, f3, f4, f5⟩ := hf it (by simp)
    have hl := rv.length
    have hsz : its.toArray.size = i := by rw [List.size_toArray]; omega
    exact wpAny_pyNext_enum_endD (Draws.tuple (A := X.A.in1) (show X.A.in1.handled = none from I.ok.hd hc) it a hai its.toArray) he ⟨by rw [hsz]; exact hit, p⟩ fun h' eb => ⟨rfl, I.turned (t' := s.toks) (fun b o hb q => eb b o hb q) f0 f1 f3 f4 f5⟩
  self := fun A i s Q E st h => let ⟨⟨_, he⟩, _⟩ := st; wpAny_pyIter_enum he h
def iEnumT (K : PySem.W.Frag) (ta : TA) : TI := fun σ H R => ta σ H fun vs H1 => ∃ a xs, vs = [.ref a] ∧ SqT K H1 a xs ∧ R (IteT K a) H1
theorem pi_enumT {X : Cx} {e : Expr} {ta : TA} {p pos tpos : Pos} {elts : List Expr} {kk : Nat} (hg : Gl X "enumerate") (hm : X.mg "enumerate" = none) (ha : PA X [e] ta) (hs : starEach [e] X.env = [(false, eval e X.env)] := by rfl) :
    PI X (.Tuple elts kk tpos) (.Call (.Name "enumerate" p) [e] [] pos) (iEnumT X.K ta) := by
  refine ⟨fun pins s σ H R I h => ?_⟩
  refine Call_ (ld_blt I hg hm boot_enumerate (PyProof.Rows.callWith_type1 (thn (ha.run pos pins s σ H _ I h) fun us s1 ⟨vs, H1, I1, r1, q1⟩ => ?_) hs rfl))
  obtain ⟨a, xs, ex, hq, q⟩ := q1
  subst ex
  cases r1 with
  | cons r rr =>
    cases rr
    cases r
    obtain ⟨its, rv, p', hz⟩ := I1.tuple hq
    have hla : a < s1.heap.objs.size := by obtain ⟨_, q, _⟩ := p'; exact Heap.lt_size q
    refine call_enumT (items := its.toArray) p' fun h' he hit hsz hk => wpAny_pyIter_enum he ?_
    have I2 : Inv X pins σ H1 { s1 with heap := h' } := I1.kept (t' := s1.toks) hk
    refine ⟨s1.heap.objs.size + 1, [s1.heap.objs.size + 1, s1.heap.objs.size], _, _, H1, rfl, I2, turn_enumT a (s1.heap.objs.size + 1) s1.heap.objs.size (Nat.ne_of_lt (Nat.lt_succ_of_lt hla)) (Nat.ne_of_lt hla), ⟨⟨.none, he⟩, hit, Nat.succ_ne_self _⟩, fun b hb => ?_, q⟩
    have e' : b = s1.heap.objs.size + 1 ∨ b = s1.heap.objs.size := by simpa using hb
    have hle : s1.heap.objs.size ≤ b := by
      rcases e' with z | z
      · rw [z]; exact Nat.le_add_right _ _
      · rw [z]; exact Nat.le_refl _
    exact I1.fpOk hle (I1.hok.fresh hle)
theorem walk_enumT {K : PySem.W.Frag} {a : Addr} {xs : List V} : Walk (IteT K a) xs.length (fun H => SqT K H a xs) (YPair (fun i => some (.int (i : Nat))) (fun i => xs[i]?)) := by
  refine ⟨fun i _ hi q => ⟨xs, xs[i], q, by simp [hi]⟩, fun _ q => ⟨xs, q, rfl⟩, fun i H v H' _ q y => ?_⟩
  obtain ⟨T, x, h1, h2, h3, h4⟩ := y
  exact ⟨T, .int (i : Nat), x, h1, h2, h3, rfl, h4 xs q⟩
theorem pi_enumTK {X : Cx} {K : PySem.W.Frag} {e : Expr} {ta : TA} {p pos tpos : Pos} {elts : List Expr} {kk : Nat} (e0 : X.K = K) (hg : Gl X "enumerate") (hm : X.mg "enumerate" = none) (ha : PA X [e] ta) (hs : starEach [e] X.env = [(false, eval e X.env)] := by rfl) :
    PI X (.Tuple elts kk tpos) (.Call (.Name "enumerate" p) [e] [] pos) (iEnumT K ta) := by subst e0; exact pi_enumT hg hm ha hs
section
variable {K : PySem.W.Frag} {σ : L2.St} {H : Hp} {tl : TE} {v : V} {ds : List PD}
theorem ei_enumT (h : EvD K tl σ H (.tuple ds)) : EvI K (iEnumT K (tCons tl tNil)) σ H ds.length (fun i => .tuple [.int (i : Nat), ds.getD i .none]) := fun H1 x R q => h H1 x _ fun v H2 x2 hv => by
  obtain ⟨a, xs, rfl, hs, ha⟩ := dp_tup hv
  exact ⟨a, xs, rfl, hs, q (IteT K a) H2 _ _ x2 (dpa_len ha ▸ walk_enumT (xs := xs)) (fun H3 x3 => ex_t x3 hs) fun i Hx z Hy hi x3 y => yp_dp (a := a) ha (by rw [dpa_len ha]; exact hi) x3 y⟩
end
end Pb

namespace Pb
open PySem PySem.Spec PyProof.Rows L2 Evn
variable [Evn.Tbs]
local macro_rules | `(tactic| walk_at "dp") => `(tactic| first | exact .int _ | exact .bl _ | exact .non | exact .str _ | (with_reducible assumption) | ((with_reducible refine dp_ex (by assumption) ?_); walk_at "dp"))
local macro_rules | `(tactic| walk_at "shp") => `(tactic| first | rfl | exact shp_L _ | exact shp_T _ | exact shp_pul _ _)
local macro_rules | `(tactic| walk_at "om") => `(tactic| first | omega | (simp only [List.length_map, List.length_append, List.length_replicate, List.length_range, List.length_cons, List.length_nil]; omega))
local macro_rules | `(tactic| walk_at "at") => `(tactic| first | rfl | assumption | (refine at_intsI ?_ ?_ <;> walk_at "om"))
local macro_rules | `(tactic| walk_at "sd") => `(tactic| first | assumption | walk_at "om" | trivial | decide | (refine ⟨?_, ?_⟩ <;> walk_at "sd"))
local macro_rules | `(tactic| walk_at "ed") => `(tactic| first
  | (with_reducible exact ed_cint) | (with_reducible exact ed_cbl) | (with_reducible exact ed_cstr) | (with_reducible exact ed_cnon)
  | ((with_reducible apply ed_var); (· exact rfl); walk_at "dp")
  | ((with_reducible apply ed_add) <;> walk_at "ed")
  | ((with_reducible apply ed_sub) <;> walk_at "ed")
  | ((with_reducible apply ed_mod) <;> walk_at "ed")
  | ((with_reducible apply ed_fdiv) <;> walk_at "ed")
  | ((with_reducible apply ed_mul) <;> walk_at "ed")
  | ((with_reducible apply ed_pow) <;> walk_at "ed")
  | ((with_reducible apply ed_lt) <;> walk_at "ed")
  | ((with_reducible apply ed_le) <;> walk_at "ed")
  | ((with_reducible apply ed_gt) <;> walk_at "ed")
  | ((with_reducible apply ed_ge) <;> walk_at "ed")
  | ((with_reducible apply ed_eqI) <;> walk_at "ed")
  | ((with_reducible apply ed_neI) <;> walk_at "ed")
  | ((with_reducible apply ed_eqB) <;> walk_at "ed")
  | ((with_reducible apply ed_neB) <;> walk_at "ed")
  | ((with_reducible apply ed_eq) <;> walk_at "ed")
  | ((with_reducible apply ed_ne) <;> walk_at "ed")
  | ((with_reducible apply ed_lenT) <;> walk_at "ed")
  | ((with_reducible apply ed_lenL) <;> walk_at "ed")
  | ((with_reducible apply ed_neg) <;> walk_at "ed")
  | ((with_reducible apply ed_isN) <;> walk_at "ed")
  | ((with_reducible apply ed_notN) <;> walk_at "ed")
  | ((with_reducible apply ed_isB) <;> walk_at "ed")
  | ((with_reducible apply ed_max2) <;> walk_at "ed")
  | ((with_reducible apply ed_min2) <;> walk_at "ed")
  | ((with_reducible apply ed_intB') <;> walk_at "ed")
  | ((with_reducible apply ed_intI') <;> walk_at "ed")
  | ((with_reducible apply ed_not) <;> walk_at "ed")
  | ((with_reducible apply ed_isInt) <;> walk_at "ed")
  | ((with_reducible apply ed_isBool) <;> walk_at "ed")
  | ((with_reducible apply ed_isTup) <;> walk_at "ed")
  | ((with_reducible apply ed_isLst) <;> walk_at "ed")
  | ((with_reducible apply ed_isStr) <;> walk_at "ed")
  | ((with_reducible apply ed_slTK) <;> walk_at "ed")
  | ((with_reducible apply ed_slLK) <;> walk_at "ed")
  | ((with_reducible apply ed_tupT) <;> walk_at "ed")
  | ((with_reducible apply ed_tupL) <;> walk_at "ed")
  | ((with_reducible apply ed_listT) <;> walk_at "ed")
  | ((with_reducible apply ed_listL) <;> walk_at "ed")
  | ((with_reducible apply ed_tup) <;> walk_at "ed")
  | ((with_reducible apply ed_lst) <;> walk_at "ed")
  | ((with_reducible apply ed_ixT) <;> walk_at "ed")
  | ((with_reducible apply ed_ixL) <;> walk_at "ed")
  | (with_reducible exact eds_nil)
  | ((with_reducible apply eds_cons) <;> walk_at "ed")
  | (with_reducible exact eok_none)
  | ((with_reducible apply eok_int) <;> walk_at "ed")
  | ((with_reducible show (0 : Int) < _); try (first | walk_at "om" | decide))
  | ((with_reducible show CDiv _ _); try (refine cdiv_of ?_ ?_ <;> walk_at "om"))
  | ((with_reducible show CMul _ _); try (first | (refine cmul_l ?_ ?_ <;> walk_at "om") | (refine cmul_r ?_ ?_ <;> walk_at "om")))
  | ((with_reducible show CPow _ _); try (refine ⟨?_, ?_, ?_⟩ <;> decide))
  | ((with_reducible show SeqAt.shaped _ = true); try walk_at "shp")
  | ((with_reducible show atI _ _ = some _); walk_at "at")
  | ((with_reducible show _ ≤ (100000 : Nat)); try (first | (simp; done) | walk_at "om"))
  | ((fail_if_success (with_reducible show EvD _ _ _ _ _)); (fail_if_success (with_reducible show EvDs _ _ _ _ _)); (fail_if_success (with_reducible show EvOK _ _ _ _ _)); walk_at "sd"))

def topS (i : Nat) : Stmt := PySem.Challenge.pw_pulsebook_k18_bad_rules.main.body.getD i (.Pass ⟨0, 0, 0, 0⟩)
section
variable {P : Program} {w : World} {K : PySem.W.Frag} {mg : Str → Option Value} {base : Heap}
def clsBody : Stmt → List Stmt
  | .ClassDef (body := b) .. => b
  | _ => []
abbrev s_init : Stmt := (clsBody (topS 3)).getD 0 (.Pass ⟨0, 0, 0, 0⟩)
theorem sc_init : FnScope ["self", "at"] ["self", "at"] (defScope s_init) := ⟨rfl, rfl, rfl, by decide +kernel, rfl, by decide +kernel, by decide +kernel⟩
theorem ok_init {f B : Addr} {fd : FuncData} (F : L2.Fun K "__init__" "BadRule.__init__" s_init f fd) (b : BaseAt K mg "PulseError" B) : FnOk P w K mg base CX0 1 f fd ["self", "at"] (spInit K) :=
  F.ok sc_init (fun vs H Q E ⟨_, _, _, e, _⟩ => by rw [e]; rfl) (fun cdv A outer s H vs Q E hr h => ⟨_, pss_cons (ps_expr (pe_binit b rfl (pa_cons (pv 0) (pa_cons pe_str pa_nil)))) (pss_one (ps_ost (pv 0) (pv 1))), read_init h⟩)
/-! ### is_within -/
abbrev s_is_within : Stmt := topS 5
theorem sc_is_within : FnScope ["thing", "low", "high"] ["thing", "low", "high"] (defScope s_is_within) := ⟨rfl, rfl, rfl, by decide +kernel, rfl, by decide +kernel, by decide +kernel⟩
def sp_is_within (K : PySem.W.Frag) : Sp := SpD K (fun g : PD × Int × Int => [g.1, .int g.2.1, .int g.2.2]) (fun _ => True) (fun g => .bool (inW g.1 g.2.1 g.2.2))
theorem ed_is_within {σ : L2.St} {H : Hp} {ta tb tc : TE} {E : XK} {d : PD} {lo hi : Int} (ha : EvD K ta σ H d) (hb : EvD K tb σ H (.int lo)) (hc : EvD K tc σ H (.int hi)) : EvD K (tCall (sp_is_within K) [] E (tCons ta (tCons tb (tCons tc tNil)))) σ H (.bool (inW d lo hi)) :=
  ed_callD (d, lo, hi) (eds_cons ha (eds_cons hb (eds_cons hc eds_nil))) trivial
local macro_rules | `(tactic| walk_at "ed") => `(tactic| ((with_reducible apply ed_is_within) <;> walk_at "ed"))
theorem can_is_within (F : Dfn K mg "is_within" s_is_within ["thing", "low", "high"]) (bt : Bt mg) : Can P w K mg base CX0 1 "is_within" (sp_is_within K) := by
  refine can_D F sc_is_within (fun g => rfl) (fun cdv A outer s H vs Q E f g hr hv hs q => ⟨_, ((pss_one (ps_ret (pe_and (pe_callB (call_isiK' (K := K) rfl) (by rfl) bt.isinstance (by decide +kernel) (pa_cons (pv 0) (pa_cons (pe_bltn (v := .ty "int") (by rfl) bt.int (by decide +kernel) rfl) pa_nil))) (pe_and (pe_not (pe_callB (call_isiK' (K := K) rfl) (by rfl) bt.isinstance (by decide +kernel) (pa_cons (pv 0) (pa_cons (pe_bltn (v := .ty "bool") (by rfl) bt.bool (by decide +kernel) rfl) pa_nil)))) (pe_one (pe_chain op_le op_le (pv 1) (pv 0) (pv 2)))))))), ?_⟩)
  try dsimp only [L2.cxOf, L2.Cx.nox, L2.Cx.wish]
  obtain ⟨d, lo, hi⟩ := g
  dsimp only at hv hs q
  obtain ⟨v0, v1, v2, rfl, h0, h1, h2⟩ := dpa3 hv
  have e1 := dp_int h1
  have e2 := dp_int h2
  subst e1 e2
  have key : isInt d = true → isBool d = false → ∃ i, d = .int i := by cases d <;> simp [isInt, isBool]
  refine sd_ret (K := K) (EvD.to (ed_and (b := inW d lo hi) (ed_isInt (ed_var rfl h0)) fun z => EvD.to (ed_and (b := inW d lo hi) (ed_not (ed_isBool (ed_var rfl h0))) fun z2 => ?_) ?_) ?_) fun v H3 x3 hv => q v H3 x3 hv
  · obtain ⟨i, e⟩ := key z (by simpa using z2)
    subst e
    have e0 := dp_int h0
    subst e0
    exact EvD.to (ed_chain (p := fun i j => decide (i ≤ j)) (q := fun i j => decide (i ≤ j)) (by walk_at "ed") (by walk_at "ed") fun _ => (by walk_at "ed")) rfl
  · cases d <;> rfl
  · cases d <;> rfl
/-! ### divisor -/
abbrev s_divisor : Stmt := topS 6
theorem sc_divisor : FnScope ["a", "b", "left"] ["a", "b"] (defScope s_divisor) := ⟨rfl, rfl, rfl, by decide +kernel, rfl, by decide +kernel, by decide +kernel⟩
def sp_divisor (K : PySem.W.Frag) : Sp := SpD K (fun g : Nat × Nat => [.int g.1, .int g.2]) (fun _ => True) (fun g => .int (Nat.gcd g.1 g.2))
theorem ed_divisor {σ : L2.St} {H : Hp} {ta tb : TE} {E : XK} {a b : Int} (ha : EvD K ta σ H (.int a)) (hb : EvD K tb σ H (.int b)) (h1 : 0 ≤ a) (h2 : 0 ≤ b) : EvD K (tCall (sp_divisor K) [] E (tCons ta (tCons tb tNil))) σ H (.int (Nat.gcd a.toNat b.toNat)) :=
  ed_callD (a.toNat, b.toNat) (eds_cons (ha.to (by simp [Int.toNat_of_nonneg h1])) (eds_cons (hb.to (by simp [Int.toNat_of_nonneg h2])) eds_nil)) trivial
local macro_rules | `(tactic| walk_at "ed") => `(tactic| ((with_reducible apply ed_divisor) <;> walk_at "ed"))
theorem can_divisor (F : Dfn K mg "divisor" s_divisor ["a", "b"]) (bt : Bt mg) : Can P w K mg base CX0 1 "divisor" (sp_divisor K) := by
  refine can_D F sc_divisor (fun g => rfl) (fun cdv A outer s H vs Q E f g hr hv hs q => ⟨_, ((pss_cons (ps_while PassesOwn.never (pt_cmpR (op_neDK (K := K) rfl hr.units) (pv 1) pe_int (nomark _)) (pss_cons (ps_set (i := 2) sc_divisor.nd rfl (Or.inl rfl) (pe_op op_mod (pv 0) (pv 1)))
  (pss_cons (ps_set (i := 0) sc_divisor.nd rfl (Or.inl rfl) (pv 1))
  (pss_one (ps_set (i := 1) sc_divisor.nd rfl (Or.inl rfl) (pv 2))))))
  (pss_one (ps_ret (pv 0))))), ?_⟩)
  try dsimp only [L2.cxOf, L2.Cx.nox, L2.Cx.wish]
  obtain ⟨a, b⟩ := g
  dsimp only at hv q
  obtain ⟨v0, v1, rfl, h0, h1⟩ := dpa2 hv
  have e0 := dp_int h0
  have e1 := dp_int h1
  subst e0 e1
  refine q_while (fun m σ' H' => ∃ (a' b' : Nat) (y : Option V), σ' = [some (.int (a' : Int)), some (.int (b' : Int)), y] ∧ Ex H H' ∧ Nat.gcd a' b' = Nat.gcd a b ∧ m = b') b ⟨a, b, none, rfl, Ex.refl _, rfl, rfl⟩ (fun m σ' H' ⟨a', b', y, e, x1, eg, em⟩ => ?_)
  subst e
  refine ⟨!((b' : Int) == 0), (et_tst (K := K) (by walk_at "ed")), fun hb H2 x2 => ?_, fun hb H2 x2 => ?_⟩
  · have hb' : 0 < b' := by
      simp at hb
      omega
    refine ⟨fun σ2 H2 => ∃ m', m' < m ∧ ∃ (a' b' : Nat) (y : Option V), σ2 = [some (.int (a' : Int)), some (.int (b' : Int)), y] ∧ Ex H H2 ∧ Nat.gcd a' b' = Nat.gcd a b ∧ m' = b', fun σ2 H2 z => z, ?_⟩
    refine qd_asgI (K := K) (j := ((a' % b' : Nat) : Int)) (EvD.to (by walk_at "ed") (by rw [Int.natCast_emod])) fun H3 x3 => ?_
    refine qd_asgI (K := K) (by walk_at "ed") fun H4 x4 => ?_
    refine sd_asgI (K := K) (by walk_at "ed") fun H5 x5 => ?_
    refine ⟨a' % b', ?_, b', a' % b', _, rfl, (((x1.trans x2).trans x3).trans x4).trans x5, ?_, rfl⟩
    · rw [em]
      exact Nat.mod_lt _ hb'
    · rw [← eg, Nat.gcd_comm b', ← Nat.gcd_rec, Nat.gcd_comm]
  · have hb' : b' = 0 := by
      simp at hb
      omega
    subst hb'
    rw [Nat.gcd_zero_right] at eg
    subst eg
    exact sd_ret (K := K) (by walk_at "ed") fun v H3 x3 hv => q v H3 ((x1.trans x2).trans x3) hv
/-! ### shortest_bar -/
abbrev s_shortest_bar : Stmt := topS 11
theorem sc_shortest_bar : FnScope ["bar", "size"] ["bar"] (defScope s_shortest_bar) := ⟨rfl, rfl, rfl, by decide +kernel, rfl, by decide +kernel, by decide +kernel⟩
def sp_shortest_bar (K : PySem.W.Frag) : Sp := SpD K (fun b : List Int => [.tuple (b.map .int)]) (fun b => b ≠ [] ∧ b.length ≤ 90000) (fun b => .tuple ((b.take (per b)).map .int))
theorem ed_shortest_bar {σ : L2.St} {H : Hp} {ta : TE} {E : XK} {b : List Int} (ha : EvD K ta σ H (.tuple (b.map .int))) (hs : b ≠ [] ∧ b.length ≤ 90000) : EvD K (tCall (sp_shortest_bar K) [] E (tCons ta tNil)) σ H (.tuple ((b.take (per b)).map .int)) :=
  ed_callD b (eds_cons ha eds_nil) hs
local macro_rules | `(tactic| walk_at "ed") => `(tactic| ((with_reducible apply ed_shortest_bar) <;> walk_at "ed"))
theorem can_shortest_bar (F : Dfn K mg "shortest_bar" s_shortest_bar ["bar"]) (bt : Bt mg) : Can P w K mg base CX0 1 "shortest_bar" (sp_shortest_bar K) := by
  refine can_D F sc_shortest_bar (fun g => rfl) (fun cdv A outer s H vs Q E f g hr hv hs q => ⟨_, ((pss_cons (ps_for PassesOwn.never rfl (pi_range2 (by rfl) bt.range (pa_cons pe_int (pa_cons (pe_op (op_addK (K := K) rfl) (pe_callB (call_lenK (K := K) rfl) (by rfl) bt.len (by decide +kernel) (pa_cons (pv 0) pa_nil)) pe_int) pa_nil))) (pg_name (i := 1) sc_shortest_bar.nd rfl (Or.inl rfl)) (pss_one (ps_if (PW.pt (pw_and (pt_cmpR (op_eqDK (K := K) rfl hr.units) (pe_op op_mod (pe_callB (call_lenK (K := K) rfl) (by rfl) bt.len (by decide +kernel) (pa_cons (pv 0) pa_nil)) (pv 1)) pe_int (nomark _)) (pw_and1 (pt_cmpR (op_eqDK (K := K) rfl hr.units) (pe_op (op_mulK (K := K) rfl) (pe_slice (sl_K (K := K) rfl) (pv 0) po_none (po_some (pv 1))) (pe_op op_fdiv (pe_callB (call_lenK (K := K) rfl) (by rfl) bt.len (by decide +kernel) (pa_cons (pv 0) pa_nil)) (pv 1))) (pv 0) (nomark _))))) (pss_one (ps_ret (pe_slice (sl_K (K := K) rfl) (pv 0) po_none (po_some (pv 1))))) pss_nil)))
  (pss_one (ps_ret (pv 0))))), ?_⟩)
  try dsimp only [L2.cxOf, L2.Cx.nox, L2.Cx.wish]
  try dsimp only at hv hs q
  obtain ⟨hb, hl⟩ := hs
  obtain ⟨v0, rfl, h0⟩ := dpa1 hv
  have hb0 : 0 < g.length := List.length_pos_iff.mpr hb
  obtain ⟨p1, p2, p3, p4⟩ := per_spec hb
  refine q_forJ (K := K) (Hb := H) (Ex.refl H) (ej_rng2 (K := K) (i := 1) (j := (g.length : Int) + 1) (EvDs.to (by walk_at "ed") (by simp)) ⟨by omega, by omega⟩) (fun i σ' H' => ∃ y, σ' = [some v0, y] ∧ Ex H H' ∧ ∀ t, 1 ≤ t → t < i + 1 → perOk g t = false)
    (fun H2 x2 => ⟨none, rfl, x2, fun d _ hd => absurd hd (by omega)⟩) (fun i σ' H' ⟨_, _, x, _⟩ => x) (fun i x σ' H' Hy hi ⟨y, e, x2, hp⟩ x3 hx => ?_) (fun σ' H' ⟨y, e, x2, hp⟩ => ?_)
  · subst e
    have es : (1 : Int) + (i : Int) = ((i + 1 : Nat) : Int) := by omega
    rw [es] at hx
    have ex := dp_int hx
    subst ex
    have x4 := x2.trans x3
    obtain ⟨s, hs⟩ : ∃ s, s = i + 1 := ⟨_, rfl⟩
    rw [← hs]
    have sle : s ≤ g.length := by omega
    have hd1 : (s : Int) < 1073741824 := by omega
    have k1 : 1 ≤ (g.length : Int) / (s : Int) := by
      rw [← Int.natCast_ediv]
      have := Nat.div_pos sle (by omega)
      omega
    have dv : Dp K Hy v0 (.tuple (g.map .int)) := dp_ex x4 h0
    have e3 : g.map PyData.int ≠ [] := by simpa using hb
    have nc : cutD (g.map PyData.int) none (some (s : Int)) ≠ [] := by
      rw [cutD_to]
      intro e
      have := congrArg List.length e
      rw [List.length_take, List.length_map, List.length_nil] at this
      omega
    have eb : (List.replicate ((g.length : Int) / (s : Int)).toNat (cutD (g.map PyData.int) none (some (s : Int)))).flatten = ((List.replicate (g.length / s) (g.take s)).flatten).map PyData.int := by
      rw [cutD_to, ← Int.natCast_ediv, Int.toNat_natCast]
      simp [List.map_flatten, List.map_replicate, List.map_take]
    have hz : (cutD (g.map PyData.int) none (some (s : Int))).length * ((g.length : Int) / (s : Int)).toNat ≤ 100000 := by
      rw [cutD_to, ← Int.natCast_ediv, Int.toNat_natCast, List.length_take, List.length_map, Nat.min_eq_left (by omega), Nat.mul_comm]
      have := Nat.div_mul_le_self g.length s
      omega
    refine s_when (EvT.to (et_and (et_tst (K := K) (ed_eqI (ed_mod (i := (g.length : Int)) (j := (s : Int)) (EvD.to (ed_lenT (ed_var rfl dv)) (by simp)) (ed_var rfl (.int _)) (by omega)) ed_cint)) fun _ => et_tst (K := K) (ed_eq (EvD.to (ed_repT (ed_slT (ed_var rfl dv) eo_none (eo_int (K := K) (ed_var rfl (.int (s : Int))))) (ed_fdiv (i := (g.length : Int)) (j := (s : Int)) (EvD.to (ed_lenT (ed_var rfl dv)) (by simp)) (ed_var rfl (.int _)) (cdiv_of (by omega) hd1)) nc k1 hz) (by rw [eb])) (ed_var rfl dv) (shp_T _) (shp_T _))) (c := perOk g s) ?_) (fun hb H3 x5 => ?_) (fun hb H3 x5 => ⟨_, rfl, x4.trans x5, fun t h1 h2 => ?_⟩)
    · rw [eqv_T]
      unfold perOk
      congr 1
      rw [← Int.natCast_emod]
      cases hm : g.length % s with
      | zero => simp
      | succ k => simp; omega
    · have ep : s = per g := by
        rcases Nat.lt_or_ge s (per g) with hh | hh
        · rw [p4 s (by omega) hh] at hb
          cases hb
        · rcases Nat.lt_or_ge (per g) s with hh2 | hh2
          · rw [hp (per g) p2 (by omega)] at p1
            cases p1
          · omega
      refine sd_ret (K := K) (EvD.to (ed_slT (ed_var rfl (dp_ex x5 dv)) eo_none (eo_int (K := K) (ed_var rfl (.int (s : Int))))) (by rw [cutD_to, ep, List.map_take])) fun v H4 x6 hv => q v H4 ((x4.trans x5).trans x6) hv
    · by_cases e : t = s
      · rw [e]; exact hb
      · exact hp t h1 (by omega)
  · have := hp g.length (by omega) (by omega)
    rw [perOk_self hb] at this
    cases this
/-! ### has -/
abbrev s_has : Stmt := topS 14
theorem sc_has : FnScope ["pulse", "day", "head", "bar"] ["pulse", "day"] (defScope s_has) := ⟨rfl, rfl, rfl, by decide +kernel, rfl, by decide +kernel, by decide +kernel⟩
def sp_has (K : PySem.W.Frag) : Sp := SpD K (fun g : List Int × List Int × Nat => [pul g.1 g.2.1, .int g.2.2]) (fun g => g.2.1 ≠ []) (fun g => .bool (vl g.1 g.2.1 g.2.2 == 1))
theorem ed_has {σ : L2.St} {H : Hp} {ta tb : TE} {E : XK} {h b : List Int} {k : Int} (ha : EvD K ta σ H (pul h b)) (hb : EvD K tb σ H (.int k)) (hn : b ≠ []) (hk : 0 ≤ k) : EvD K (tCall (sp_has K) [] E (tCons ta (tCons tb tNil))) σ H (.bool (vl h b k.toNat == 1)) :=
  ed_callD (h, b, k.toNat) (eds_cons ha (eds_cons (hb.to (by simp [Int.toNat_of_nonneg hk])) eds_nil)) hn
local macro_rules | `(tactic| walk_at "ed") => `(tactic| ((with_reducible apply ed_has) <;> walk_at "ed"))
theorem can_has (F : Dfn K mg "has" s_has ["pulse", "day"]) (bt : Bt mg) : Can P w K mg base CX0 1 "has" (sp_has K) := by
  refine can_D F sc_has (fun g => rfl) (fun cdv A outer s H vs Q E f g hr hv hs q => ⟨_, ((pss_cons (ps_asg (pv 0) (pg_tupK (K := K) (n := 2) rfl rfl (pgs_cons (pg_name (i := 2) sc_has.nd rfl (Or.inl rfl)) (pgs_cons (pg_name (i := 3) sc_has.nd rfl (Or.inl rfl)) pgs_nil))))
  (pss_cons (ps_if (pt_cmpR op_lt (pv 1) (pe_callB (call_lenK (K := K) rfl) (by rfl) bt.len (by decide +kernel) (pa_cons (pv 2) pa_nil)) (nomark _)) (pss_one (ps_ret (pe_cmpR (op_eqDK (K := K) rfl hr.units) (pe_ix (ix_K (K := K) rfl) (pv 2) (pv 1) (fun _ _ => rfl)) pe_int (nomark _)))) pss_nil)
  (pss_one (ps_ret (pe_cmpR (op_eqDK (K := K) rfl hr.units) (pe_ix (ix_K (K := K) rfl) (pv 3) (pe_op op_mod (pe_op op_sub (pv 1) (pe_callB (call_lenK (K := K) rfl) (by rfl) bt.len (by decide +kernel) (pa_cons (pv 2) pa_nil))) (pe_callB (call_lenK (K := K) rfl) (by rfl) bt.len (by decide +kernel) (pa_cons (pv 3) pa_nil))) (fun _ _ => rfl)) pe_int (nomark _))))))), ?_⟩)
  try dsimp only [L2.cxOf, L2.Cx.nox, L2.Cx.wish]
  obtain ⟨h, b, d⟩ := g
  dsimp only at hv hs q
  obtain ⟨p, dd, rfl, hp, hd⟩ := dpa2 hv
  have e := dp_int hd
  subst e
  have hb : 0 < b.length := List.length_pos_iff.mpr hs
  unfold pul at hp
  refine qd_two (K := K) (by walk_at "ed") fun v2 v3 H1 x1 h2 h3 => ?_
  refine q_when (et_tst (K := K) (by walk_at "ed")) (fun c H2 x2 => ?_) (fun c H2 x2 => ?_)
  · have c' : (d : Int) < (h.length : Int) := by simpa using c
    have c2 : d < h.length := by omega
    refine sd_ret (K := K) (EvD.to (by walk_at "ed") (by simp [vl, c2])) fun v H3 x3 hv => q v H3 ((x1.trans x2).trans x3) hv
  · have c' : ¬ (d : Int) < (h.length : Int) := by simpa using c
    have c2 : ¬ d < h.length := by omega
    have e1 : ((d : Int) - (h.length : Int)) = ((d - h.length : Nat) : Int) := by omega
    have m0 : 0 ≤ ((d : Int) - (h.length : Int)) % (b.length : Int) := Int.emod_nonneg _ (by omega)
    have m1 : ((d : Int) - (h.length : Int)) % (b.length : Int) < (b.length : Int) := Int.emod_lt_of_pos _ (by omega)
    refine sd_ret (K := K) (EvD.to (by walk_at "ed") (by simp [vl, c2, e1, toNat_emod])) fun v H3 x3 hv => q v H3 ((x1.trans x2).trans x3) hv
/-! ### never -/
abbrev s_never : Stmt := topS 15
theorem sc_never : FnScope [] [] (defScope s_never) := ⟨rfl, rfl, rfl, by decide +kernel, rfl, by decide +kernel, by decide +kernel⟩
def sp_never (K : PySem.W.Frag) : Sp := SpD K (fun _ : Unit => []) (fun _ => True) (fun _ => pul [] [0])
theorem ed_never {σ : L2.St} {H : Hp} {E : XK} : EvD K (tCall (sp_never K) [] E tNil) σ H (pul [] [0]) := ed_callD () eds_nil trivial
local macro_rules | `(tactic| walk_at "ed") => `(tactic| ((with_reducible apply ed_never) <;> walk_at "ed"))
theorem can_never (F : Dfn K mg "never" s_never []) (bt : Bt mg) : Can P w K mg base CX0 1 "never" (sp_never K) := by
  refine can_D F sc_never (fun g => rfl) (fun cdv A outer s H vs Q E f g hr hv hs q => ⟨_, ((pss_one (ps_ret (pe_tup (pa_cons (pe_tup pa_nil) (pa_cons (pe_tup (pa_cons pe_int pa_nil)) pa_nil)))))), ?_⟩)
  try dsimp only [L2.cxOf, L2.Cx.nox, L2.Cx.wish]
  cases dpa_nil hv
  exact sd_ret (K := K) (EvD.to (by walk_at "ed") (by rfl)) fun v H3 x3 hv => q v H3 x3 hv
/-! ### from_rule -/
abbrev s_from_rule : Stmt := topS 21
theorem sc_from_rule : FnScope ["rule", "start", "step", "times", "head", "turn"] ["rule"] (defScope s_from_rule) := ⟨rfl, rfl, rfl, by decide +kernel, rfl, by decide +kernel, by decide +kernel⟩
def sp_from_rule (K : PySem.W.Frag) : Sp := SpD K (fun r : Rul => [r.d]) (fun r => r.Ok) (fun r => .tuple [.list (r.head.map .int), .list (r.bar.map .int)])
theorem ed_from_rule {σ : L2.St} {H : Hp} {ta : TE} {E : XK} {r : Rul} (ha : EvD K ta σ H r.d) (o : r.Ok) : EvD K (tCall (sp_from_rule K) [] E (tCons ta tNil)) σ H (.tuple [.list (r.head.map .int), .list (r.bar.map .int)]) :=
  ed_callD r (eds_cons ha eds_nil) o
local macro_rules | `(tactic| walk_at "ed") => `(tactic| ((with_reducible apply ed_from_rule) <;> walk_at "ed"))
theorem can_from_rule (F : Dfn K mg "from_rule" s_from_rule ["rule"]) (bt : Bt mg) : Can P w K mg base CX0 1 "from_rule" (sp_from_rule K) := by
  refine can_D F sc_from_rule (fun g => rfl) (fun cdv A outer s H vs Q E f g hr hv hs q => ⟨_, ((pss_cons (ps_asg (pv 0) (pg_tupK (K := K) (n := 3) rfl rfl (pgs_cons (pg_name (i := 1) sc_from_rule.nd rfl (Or.inl rfl)) (pgs_cons (pg_name (i := 2) sc_from_rule.nd rfl (Or.inl rfl)) (pgs_cons (pg_name (i := 3) sc_from_rule.nd rfl (Or.inl rfl)) pgs_nil)))))
  (pss_cons (ps_if (pt_cmpR op_isX (pv 3) pe_non (nomark _)) (pss_one (ps_ret (pe_tup (pa_cons (pe_op (op_mulK (K := K) rfl) (pe_lst (pa_cons pe_int pa_nil)) (pv 1)) (pa_cons (pe_op (op_addK (K := K) rfl) (pe_lst (pa_cons pe_int pa_nil)) (pe_op (op_mulK (K := K) rfl) (pe_lst (pa_cons pe_int pa_nil)) (pe_op op_sub (pv 2) pe_int))) pa_nil))))) pss_nil)
  (pss_cons (ps_set (i := 4) sc_from_rule.nd rfl (Or.inl rfl) (pe_op (op_mulK (K := K) rfl) (pe_lst (pa_cons pe_int pa_nil)) (pe_op (op_addK (K := K) rfl) (pe_op (op_addK (K := K) rfl) (pv 1) (pe_op (op_mulK (K := K) rfl) (pv 2) (pe_op op_sub (pv 3) pe_int))) pe_int)))
  (pss_cons (ps_for PassesOwn.never rfl (pi_range1 (by rfl) bt.range (pa_cons (pv 3) pa_nil)) (pg_name (i := 5) sc_from_rule.nd rfl (Or.inl rfl)) (pss_one (ps_asg pe_int (pg_sub (pv 4) (pe_op (op_addK (K := K) rfl) (pv 1) (pe_op (op_mulK (K := K) rfl) (pv 2) (pv 5))) set_list))))
  (pss_one (ps_ret (pe_tup (pa_cons (pv 4) (pa_cons (pe_lst (pa_cons pe_int pa_nil)) pa_nil)))))))))), ?_⟩)
  try dsimp only [L2.cxOf, L2.Cx.nox, L2.Cx.wish]
  obtain ⟨v0, rfl, h0⟩ := dpa1 hv
  obtain ⟨s, p, t⟩ := g
  have o1 : s ≤ 400 := hs.s
  have o2 : 1 ≤ p := hs.p1
  have o3 : p ≤ 200 := hs.p2
  refine qd_three (K := K) (d1 := .int (s : Nat)) (d2 := .int (p : Nat)) (d3 := Rul.td ⟨s, p, t⟩) (ed_var rfl h0) fun a b c H1 x1 ha hb hc => ?_
  have e1 := dp_int ha
  have e2 := dp_int hb
  subst e1 e2
  cases t with
  | none =>
    refine q_when (EvT.to (et_tst (K := K) (ed_isN (ed_var rfl hc))) (c := true) rfl) (fun _ H2 x2 => ?_) (fun c => by cases c)
    refine sd_ret (K := K) (EvD.to (ed_tup (eds_cons (ed_repL (ed_lst (eds_cons ed_cint eds_nil) (by simp)) (ed_var rfl (.int (s : Int))) ⟨by omega, by omega⟩ (by simp; omega)) (eds_cons (ed_catL (ed_lst (eds_cons ed_cint eds_nil) (by simp)) (ed_repL (ed_lst (eds_cons ed_cint eds_nil) (by simp)) (ed_sub (ed_var rfl (.int (p : Int))) ed_cint) ⟨by omega, by omega⟩ (by simp; omega)) (by simp; omega)) eds_nil)) (by simp)) ?_) fun v H3 x3 hv => q v H3 (x1.trans (x2.trans x3)) hv
    show _ = PyData.tuple [.list ((List.replicate s (0 : Int)).map .int), .list ((1 :: List.replicate (p - 1) (0 : Int)).map .int)]
    rw [show ((p : Int) - 1).toNat = p - 1 by omega]
    simp
  | some t =>
    have o4 := hs.t t rfl
    have et := dp_int (show Dp K H1 c (.int (t : Nat)) from hc)
    subst et
    have lm : lenR s p t ≤ 81000 := by
      unfold lenR
      have := Nat.mul_le_mul o3 (show t - 1 ≤ 399 by omega)
      omega
    refine q_when (EvT.to (et_tst (K := K) (ed_isN (ed_var rfl (.int (t : Int))))) (c := false) rfl) (fun c => by cases c) (fun _ H2 x2 => ?_)
    have pm := Nat.mul_le_mul o3 (show t - 1 ≤ 399 by omega)
    have el : (s : Int) + (p : Int) * ((t : Int) - 1) + 1 = (lenR s p t : Int) := by
      unfold lenR
      rw [show (t : Int) - 1 = ((t - 1 : Nat) : Int) by omega, ← Int.natCast_mul]
      omega
    refine qd_asgN (K := K) (ds := (hedR s p t 0).map .int) (EvN.to (en_repL (K := K) (k := (lenR s p t : Int)) (ed_lst (eds_cons ed_cint eds_nil) (by simp)) (EvD.to (ed_add (ed_add (ed_var rfl (.int (s : Int))) (ed_mul (ed_var rfl (.int (p : Int))) (ed_sub (ed_var rfl (.int (t : Int))) ed_cint) (cmul_l (by omega) (by omega)))) ed_cint) (by rw [el])) ⟨by omega, by omega⟩ (by simp; omega)) (by rw [hedR_zero]; simp)) fun ph H3 xs np x3 ep hx => ?_
    cases dpa_ints hx
    have x13 := x1.trans (x2.trans x3)
    refine q_forJ (K := K) (Hb := H2) x3 (ej_rng1 (K := K) (j := (t : Int)) (eds_cons (ed_var rfl (.int (t : Int))) eds_nil) ⟨by omega, by omega⟩) (fun i σ' H' => ∃ y, σ' = [some v0, some (.int (s : Int)), some (.int (p : Int)), some (.int (t : Int)), some (.ref ph), y] ∧ Ex H2 H' ∧ H' ph = some (.lst ((hedR s p t i).map V.int)))
      (fun H4 x4 => ⟨none, rfl, x3.trans x4, x4 _ _ ep⟩) (fun i σ' H' ⟨_, _, x, _⟩ => x) (fun i x σ' H' Hy hi ⟨y, e, x4, hp⟩ x5 hx => ?_) (fun σ' H' ⟨y, e, x4, hp⟩ => ?_)
    · subst e
      have ex := dp_int hx
      subst ex
      have hi' : i < t := by omega
      refine gn ?_
      refine sd_setI (K := K) (k := ((s + p * i : Nat) : Int)) (j := s + p * i) rfl (x5 _ _ hp) (EvD.to (ed_add (ed_var rfl (.int (s : Int))) (ed_mul (ed_var rfl (.int (p : Int))) (ed_var rfl (.int (i : Int))) (cmul_l (by omega) (by omega)))) (by rw [← Int.natCast_mul]; rfl)) ed_cint (by rw [List.length_map, hedR_len]; exact ixN_nat (rul_lt o2 hi')) fun w H6 x6 hw => ?_
      have ew := dp_int hw
      subst ew
      refine ⟨_, rfl, Ex.mut (x4.trans (x5.trans x6)) np (x6 _ _ (x5 _ _ hp)), ?_⟩
      rw [upd_same, ← hedR_set o2, List.map_set]
    · subst e
      exact sd_ret (K := K) (d := .tuple [.list ((hedR s p t t).map .int), .list (([0] : List Int).map .int)]) (ed_tup (eds_cons (ed_var rfl (.lst (sq_of hp) dpa_of_ints)) (eds_cons (ed_lst (eds_cons ed_cint eds_nil) (by simp)) eds_nil)) (by simp)) fun v H6 x6 hv => q v H6 ((x1.trans x2).trans (x4.trans x6)) hv
/-! ### _law_cell -/
abbrev s_law_cell : Stmt := topS 24
theorem sc_law_cell : FnScope ["_law_script", "_law_k"] ["_law_script", "_law_k"] (defScope s_law_cell) := ⟨rfl, rfl, rfl, by decide +kernel, rfl, by decide +kernel, by decide +kernel⟩
def sp_law_cell (K : PySem.W.Frag) : Sp := SpD K (fun g : List Int × Nat => [.list (g.1.map .int), .int g.2]) (fun _ => True) (fun g => .int (cellM g.1 g.2))
theorem ed_law_cell {σ : L2.St} {H : Hp} {ta tb : TE} {E : XK} {ns : List Int} {k : Int} (ha : EvD K ta σ H (.list (ns.map .int))) (hb : EvD K tb σ H (.int k)) (hk : 0 ≤ k) : EvD K (tCall (sp_law_cell K) [] E (tCons ta (tCons tb tNil))) σ H (.int (cellM ns k.toNat)) :=
  ed_callD (ns, k.toNat) (eds_cons ha (eds_cons (hb.to (by simp [Int.toNat_of_nonneg hk])) eds_nil)) trivial
local macro_rules | `(tactic| walk_at "ed") => `(tactic| ((with_reducible apply ed_law_cell) <;> walk_at "ed"))
theorem can_law_cell (F : Dfn K mg "_law_cell" s_law_cell ["_law_script", "_law_k"]) (bt : Bt mg) : Can P w K mg base CX0 1 "_law_cell" (sp_law_cell K) := by
  refine can_D F sc_law_cell (fun g => rfl) (fun cdv A outer s H vs Q E f g hr hv hs q => ⟨_, ((pss_cons (ps_if (pt_cmpR op_lt (pv 1) (pe_callB (call_lenK (K := K) rfl) (by rfl) bt.len (by decide +kernel) (pa_cons (pv 0) pa_nil)) (nomark _)) (pss_one (ps_ret (pe_ix (ix_K (K := K) rfl) (pv 0) (pv 1) (fun _ _ => rfl)))) pss_nil)
  (pss_one (ps_ret pe_int)))), ?_⟩)
  try dsimp only [L2.cxOf, L2.Cx.nox, L2.Cx.wish]
  obtain ⟨ns, k⟩ := g
  dsimp only at hv hs q
  obtain ⟨p, dd, rfl, hp, hd⟩ := dpa2 hv
  have e := dp_int hd
  subst e
  refine q_when (et_tst (K := K) (by walk_at "ed")) (fun c H2 x2 => ?_) (fun c H2 x2 => ?_)
  · have c' : (k : Int) < (ns.length : Int) := by simpa using c
    refine sd_ret (K := K) (EvD.to (by walk_at "ed") (by simp [cellM])) fun v H3 x3 hv => q v H3 (x2.trans x3) hv
  · have c' : ¬ (k : Int) < (ns.length : Int) := by simpa using c
    refine sd_ret (K := K) (EvD.to (by walk_at "ed") (by rw [cellM, List.getD_eq_getElem?_getD, List.getElem?_eq_none (by omega)]; rfl)) fun v H3 x3 hv => q v H3 (x2.trans x3) hv
/-! ### _law_mix -/
abbrev s_law_mix : Stmt := topS 25
theorem sc_law_mix : FnScope ["_law_cell_here", "_law_prime", "_law_many"] ["_law_cell_here", "_law_prime", "_law_many"] (defScope s_law_mix) := ⟨rfl, rfl, rfl, by decide +kernel, rfl, by decide +kernel, by decide +kernel⟩
def sp_law_mix (K : PySem.W.Frag) : Sp := SpD K (fun g : Int × Int × Int => [.int g.1, .int g.2.1, .int g.2.2]) (fun g => 0 < g.2.1 ∧ 0 < g.2.2) (fun g => .int (mixM g.1 g.2.1 g.2.2))
theorem ed_law_mix {σ : L2.St} {H : Hp} {ta tb tc : TE} {E : XK} {c p m : Int} (ha : EvD K ta σ H (.int c)) (hb : EvD K tb σ H (.int p)) (hc : EvD K tc σ H (.int m)) (hp : 0 < p) (hm : 0 < m) : EvD K (tCall (sp_law_mix K) [] E (tCons ta (tCons tb (tCons tc tNil)))) σ H (.int (mixM c p m)) :=
  ed_callD (c, p, m) (eds_cons ha (eds_cons hb (eds_cons hc eds_nil))) ⟨hp, hm⟩
local macro_rules | `(tactic| walk_at "ed") => `(tactic| ((with_reducible apply ed_law_mix) <;> walk_at "ed"))
theorem can_law_mix (F : Dfn K mg "_law_mix" s_law_mix ["_law_cell_here", "_law_prime", "_law_many"]) (bt : Bt mg) : Can P w K mg base CX0 1 "_law_mix" (sp_law_mix K) := by
  refine can_D F sc_law_mix (fun g => rfl) (fun cdv A outer s H vs Q E f g hr hv hs q => ⟨_, ((pss_one (ps_ret (pe_op op_mod (pe_op op_mod (pe_op (op_mulK (K := K) rfl) (pv 0) pe_int) (pv 1)) (pv 2))))), ?_⟩)
  try dsimp only [L2.cxOf, L2.Cx.nox, L2.Cx.wish]
  obtain ⟨c, p, m⟩ := g
  dsimp only at hv hs q
  obtain ⟨hp, hm⟩ := hs
  obtain ⟨a1, a2, a3, rfl, h1, h2, h3⟩ := dpa3 hv
  exact sd_ret (K := K) (EvD.to (by walk_at "ed") (by rfl)) fun v H3 x3 hv => q v H3 x3 hv
/-! ### _law_odd -/
abbrev s_law_odd : Stmt := topS 29
theorem sc_law_odd : FnScope ["_law_cell_here", "_law_some"] ["_law_cell_here"] (defScope s_law_odd) := ⟨rfl, rfl, rfl, by decide +kernel, rfl, by decide +kernel, by decide +kernel⟩
/-- what is no rule -/
def oddL : List PD := [.tuple [.int 401, .int 1, .int 1], .tuple [.int (-1), .int 1, .int 1], .tuple [.int 0, .int 0, .int 1], .tuple [.int 0, .int 201, .none], .tuple [.int 0, .int 1, .int 0], .tuple [.int 0, .int 1, .int 401], .tuple [.int 0, .int 1], .list [.int 0, .int 1, .int 1],
  .tuple [.bool true, .int 1, .int 1], .tuple [.int 0, .str ((("1" : String)) : Str), .int 1], .tuple [.int 0, .int 1, .bool true], .tuple [.int 0, .int 1, .int 1, .int 1], .none, .tuple [.int 0, .int 1, .str ((("None" : String)) : Str)], .tuple [.none, .int 1, .int 1]]
def oddM (c : Int) : PD := oddL.getD (c % 15).toNat .none
theorem odd_in (c : Int) : oddM c ∈ oddL := by
  unfold oddM
  have h : (c % 15).toNat < oddL.length := by show _ < 15; omega
  rw [List.getD_eq_getElem?_getD, List.getElem?_eq_getElem h]
  exact List.getElem_mem h
def sp_law_odd (K : PySem.W.Frag) : Sp := SpD K (fun c : Int => [.int c]) (fun _ => True) (fun c => oddM c)
theorem ed_law_odd {σ : L2.St} {H : Hp} {ta : TE} {E : XK} {c : Int} (ha : EvD K ta σ H (.int c)) : EvD K (tCall (sp_law_odd K) [] E (tCons ta tNil)) σ H (oddM c) :=
  ed_callD c (eds_cons ha eds_nil) trivial
local macro_rules | `(tactic| walk_at "ed") => `(tactic| ((with_reducible apply ed_law_odd) <;> walk_at "ed"))
theorem can_law_odd (F : Dfn K mg "_law_odd" s_law_odd ["_law_cell_here"]) (bt : Bt mg) : Can P w K mg base CX0 1 "_law_odd" (sp_law_odd K) := by
  refine can_D F sc_law_odd (fun g => rfl) (fun cdv A outer s H vs Q E f g hr hv hs q => ⟨_, ((pss_cons (ps_set (i := 1) sc_law_odd.nd rfl (Or.inl rfl) (pe_lst (pa_cons (pe_tup (pa_cons pe_int (pa_cons pe_int (pa_cons pe_int pa_nil)))) (pa_cons (pe_tup (pa_cons (pe_un un_neg pe_int) (pa_cons pe_int (pa_cons pe_int pa_nil)))) (pa_cons (pe_tup (pa_cons pe_int (pa_cons pe_int (pa_cons pe_int pa_nil)))) (pa_cons (pe_tup (pa_cons pe_int (pa_cons pe_int (pa_cons pe_non pa_nil)))) (pa_cons (pe_tup (pa_cons pe_int (pa_cons pe_int (pa_cons pe_int pa_nil)))) (pa_cons (pe_tup (pa_cons pe_int (pa_cons pe_int (pa_cons pe_int pa_nil)))) (pa_cons (pe_tup (pa_cons pe_int (pa_cons pe_int pa_nil))) (pa_cons (pe_lst (pa_cons pe_int (pa_cons pe_int (pa_cons pe_int pa_nil)))) pa_nil))))))))))
  (pss_cons (ps_set (i := 1) sc_law_odd.nd rfl (Or.inl rfl) (pe_op (op_addK (K := K) rfl) (pv 1) (pe_lst (pa_cons (pe_tup (pa_cons pe_bl (pa_cons pe_int (pa_cons pe_int pa_nil)))) (pa_cons (pe_tup (pa_cons pe_int (pa_cons pe_str (pa_cons pe_int pa_nil)))) (pa_cons (pe_tup (pa_cons pe_int (pa_cons pe_int (pa_cons pe_bl pa_nil)))) (pa_cons (pe_tup (pa_cons pe_int (pa_cons pe_int (pa_cons pe_int (pa_cons pe_int pa_nil))))) (pa_cons pe_non (pa_cons (pe_tup (pa_cons pe_int (pa_cons pe_int (pa_cons pe_str pa_nil)))) (pa_cons (pe_tup (pa_cons pe_non (pa_cons pe_int (pa_cons pe_int pa_nil)))) pa_nil))))))))))
  (pss_one (ps_ret (pe_ix (ix_K (K := K) rfl) (pv 1) (pe_op op_mod (pv 0) pe_int) (fun _ _ => rfl))))))), ?_⟩)
  try dsimp only [L2.cxOf, L2.Cx.nox, L2.Cx.wish]
  try dsimp only at hv hs q
  obtain ⟨v0, rfl, h0⟩ := dpa1 hv
  have e0 := dp_int h0
  subst e0
  have t3 : ∀ {σ : L2.St} {H : Hp} {a b c : TE} {x y z : PD}, EvD K a σ H x → EvD K b σ H y → EvD K c σ H z → EvD K (tTup (tCons a (tCons b (tCons c tNil)))) σ H (.tuple [x, y, z]) := fun ha hb hc => ed_tup (eds_cons ha (eds_cons hb (eds_cons hc eds_nil))) (by simp)
  refine qd_asg (K := K) (d := .list (oddL.take 8)) (ed_lst (eds_cons (t3 ed_cint ed_cint ed_cint) (eds_cons (t3 (ed_neg ed_cint) ed_cint ed_cint) (eds_cons (t3 ed_cint ed_cint ed_cint) (eds_cons (t3 ed_cint ed_cint ed_cnon) (eds_cons (t3 ed_cint ed_cint ed_cint) (eds_cons (t3 ed_cint ed_cint ed_cint) (eds_cons (ed_tup (eds_cons ed_cint (eds_cons ed_cint eds_nil)) (by simp)) (eds_cons (ed_lst (eds_cons ed_cint (eds_cons ed_cint (eds_cons ed_cint eds_nil))) (by simp)) eds_nil)))))))) (by show 8 ≤ 100000; decide)) fun v1 H1 x1 h1 => ?_
  refine qd_asg (K := K) (d := .list oddL) (EvD.to (ed_catL (ed_var rfl h1) (ed_lst (ds := oddL.drop 8) (eds_cons (t3 ed_cbl ed_cint ed_cint) (eds_cons (t3 ed_cint ed_cstr ed_cint) (eds_cons (t3 ed_cint ed_cint ed_cbl) (eds_cons (ed_tup (eds_cons ed_cint (eds_cons ed_cint (eds_cons ed_cint (eds_cons ed_cint eds_nil)))) (by simp)) (eds_cons ed_cnon (eds_cons (t3 ed_cint ed_cint ed_cstr) (eds_cons (t3 ed_cnon ed_cint ed_cint) eds_nil))))))) (by show 7 ≤ 100000; decide)) (by show 8 + 7 ≤ 100000; decide)) rfl) fun v2 H2 x2 h2 => ?_
  have hm : atI oddL (g % 15) = some (oddM g) := by
    unfold oddM
    have h0 : 0 ≤ g % 15 := Int.emod_nonneg _ (by decide)
    have h1 : g % 15 < 15 := Int.emod_lt_of_pos _ (by decide)
    generalize g % 15 = i at h0 h1
    obtain ⟨j, rfl⟩ := Int.eq_ofNat_of_zero_le h0
    have hj : j < 15 := by omega
    match j, hj with
    | 0, _ => rfl
    | 1, _ => rfl
    | 2, _ => rfl
    | 3, _ => rfl
    | 4, _ => rfl
    | 5, _ => rfl
    | 6, _ => rfl
    | 7, _ => rfl
    | 8, _ => rfl
    | 9, _ => rfl
    | 10, _ => rfl
    | 11, _ => rfl
    | 12, _ => rfl
    | 13, _ => rfl
    | 14, _ => rfl
  exact sd_ret (K := K) (ed_ixL (ed_var rfl h2) (ed_mod (ed_var rfl (.int g)) ed_cint (by decide)) hm) fun v3 H3 x3 hv => q v3 H3 (x1.trans (x2.trans x3)) hv
/-! ### _law_same -/
abbrev s_law_same : Stmt := topS 30
theorem sc_law_same : FnScope ["_law_found", "_law_at"] ["_law_found", "_law_at"] (defScope s_law_same) := ⟨rfl, rfl, rfl, by decide +kernel, rfl, by decide +kernel, by decide +kernel⟩
def sp_law_same (K : PySem.W.Frag) : Sp := SpD K (fun p : PD => [p, p]) (fun p => p = .none ∨ ∃ i : Int, p = .int i) (fun _ => .bool true)
theorem ed_law_same {σ : L2.St} {H : Hp} {ta tb : TE} {E : XK} {p : PD} (ha : EvD K ta σ H p) (hb : EvD K tb σ H p) (hp : p = .none ∨ ∃ i : Int, p = .int i) : EvD K (tCall (sp_law_same K) [] E (tCons ta (tCons tb tNil))) σ H (.bool true) :=
  ed_callD p (eds_cons ha (eds_cons hb eds_nil)) hp
local macro_rules | `(tactic| walk_at "ed") => `(tactic| ((with_reducible apply ed_law_same) <;> walk_at "ed"))
theorem can_law_same (F : Dfn K mg "_law_same" s_law_same ["_law_found", "_law_at"]) (bt : Bt mg) : Can P w K mg base CX0 1 "_law_same" (sp_law_same K) := by
  refine can_D F sc_law_same (fun g => rfl) (fun cdv A outer s H vs Q E f g hr hv hs q => ⟨_, ((pss_cons (ps_if (pt_cmpR op_isX (pv 1) pe_non (nomark _)) (pss_one (ps_ret (pe_cmpR op_isX (pv 0) pe_non (nomark _)))) pss_nil)
  (pss_one (ps_ret (pe_and (pe_callB (call_isiK' (K := K) rfl) (by rfl) bt.isinstance (by decide +kernel) (pa_cons (pv 0) (pa_cons (pe_bltn (v := .ty "int") (by rfl) bt.int (by decide +kernel) rfl) pa_nil))) (pe_and (pe_not (pe_callB (call_isiK' (K := K) rfl) (by rfl) bt.isinstance (by decide +kernel) (pa_cons (pv 0) (pa_cons (pe_bltn (v := .ty "bool") (by rfl) bt.bool (by decide +kernel) rfl) pa_nil)))) (pe_one (pe_cmpR (op_eqDK (K := K) rfl hr.units) (pv 0) (pv 1) (nomark _))))))))), ?_⟩)
  try dsimp only [L2.cxOf, L2.Cx.nox, L2.Cx.wish]
  try dsimp only at hv hs q
  obtain ⟨v0, v1, rfl, h0, h1⟩ := dpa2 hv
  rcases hs with rfl | ⟨i, rfl⟩
  · refine q_when (EvT.to (et_tst (K := K) (ed_isN (ed_var rfl h1))) (c := true) rfl) (fun _ H2 x2 => ?_) (fun c => by cases c)
    exact sd_ret (K := K) (d := .bool true) (ed_isN (ed_var rfl (dp_ex x2 h0))) fun v H3 x3 hv => q v H3 (x2.trans x3) hv
  · refine q_when (EvT.to (et_tst (K := K) (ed_isN (ed_var rfl h1))) (c := false) rfl) (fun c => by cases c) (fun _ H2 x2 => ?_)
    refine sd_ret (K := K) (d := .bool true) (EvD.to (ed_and (ed_isInt (ed_var rfl (dp_ex x2 h0))) fun _ => ed_and (ed_not (ed_isBool (ed_var rfl (dp_ex x2 h0)))) fun _ => ed_eqI (ed_var rfl (dp_ex x2 h0)) (ed_var rfl (dp_ex x2 h1))) (by
      show PyData.bool (true && (true && (i == i))) = _
      rw [beq_self_eq_true]
      rfl)) fun v H3 x3 hv => q v H3 (x2.trans x3) hv
/-! ### multiple -/
abbrev s_multiple : Stmt := topS 7
theorem sc_multiple : FnScope ["a", "b"] ["a", "b"] (defScope s_multiple) := ⟨rfl, rfl, rfl, by decide +kernel, rfl, by decide +kernel, by decide +kernel⟩
def sp_multiple (K : PySem.W.Frag) : Sp := SpD K (fun g : Nat × Nat => [.int g.1, .int g.2]) (fun g => 0 < g.1 ∧ 0 < g.2 ∧ g.1 ≤ 100000 ∧ g.2 ≤ 100000) (fun g => .int (Nat.lcm g.1 g.2))
theorem ed_multiple {σ : L2.St} {H : Hp} {ta tb : TE} {E : XK} {a b : Int} (ha : EvD K ta σ H (.int a)) (hb : EvD K tb σ H (.int b)) (h1 : 0 < a) (h2 : 0 < b) (h3 : a ≤ 100000) (h4 : b ≤ 100000) : EvD K (tCall (sp_multiple K) [] E (tCons ta (tCons tb tNil))) σ H (.int (Nat.lcm a.toNat b.toNat)) :=
  ed_callD (a.toNat, b.toNat) (eds_cons (ha.to (by simp; omega)) (eds_cons (hb.to (by simp; omega)) eds_nil)) ⟨by show 0 < a.toNat; omega, by show 0 < b.toNat; omega, by show a.toNat ≤ 100000; omega, by show b.toNat ≤ 100000; omega⟩
local macro_rules | `(tactic| walk_at "ed") => `(tactic| ((with_reducible apply ed_multiple) <;> walk_at "ed"))
theorem can_multiple (F : Dfn K mg "multiple" s_multiple ["a", "b"]) (bt : Bt mg) (c_divisor : Can P w K mg base CX0 1 "divisor" (sp_divisor K)) : Can P w K mg base CX0 2 "multiple" (sp_multiple K) := by
  refine can_D F sc_multiple (fun g => rfl) (fun cdv A outer s H vs Q E f g hr hv hs q => ⟨_, ((pss_one (ps_ret (pe_op (op_mulK (K := K) rfl) (pe_op op_fdiv (pv 0) (pc c_divisor hr (by decide) (by rfl) (pa_cons (pv 0) (pa_cons (pv 1) pa_nil)))) (pv 1))))), ?_⟩)
  try dsimp only [L2.cxOf, L2.Cx.nox, L2.Cx.wish]
  obtain ⟨a, b⟩ := g
  dsimp only at hv hs q
  obtain ⟨s1, s2, s3, s4⟩ := hs
  obtain ⟨v0, v1, rfl, h0, h1⟩ := dpa2 hv
  have e0 := dp_int h0
  have e1 := dp_int h1
  subst e0 e1
  have g0 : 0 < Nat.gcd a b := Nat.gcd_pos_of_pos_left _ s1
  have g1 : Nat.gcd a b ≤ a := Nat.gcd_le_left _ s1
  have t1 : (a : Int).toNat = a := rfl
  have t2 : (b : Int).toNat = b := rfl
  have e := ed_divisor (K := K) (σ := L2.start ["a", "b"] [.int (a : Int), .int (b : Int)]) (H := H) (E := E0) (ta := tVar 0) (tb := tVar 1) (by walk_at "ed") (by walk_at "ed") (by omega) (by omega)
  rw [t1, t2] at e
  refine sd_ret (K := K) (EvD.to (ed_mul (ed_fdiv (by walk_at "ed") e (cdiv_of (by omega) (by omega))) (by walk_at "ed") (cmul_r (by omega) (by omega))) ?_) fun v H3 x3 hv => q v H3 x3 hv
  rw [← Int.natCast_ediv, ← Int.natCast_mul]
  unfold Nat.lcm
  congr 2
  rw [Nat.mul_comm (a / _), Nat.mul_comm a, Nat.mul_div_assoc _ (Nat.gcd_dvd_left a b)]
/-! ### tight -/
abbrev s_tight : Stmt := topS 12
theorem sc_tight : FnScope ["head", "bar", "size", "turn", "at"] ["head", "bar"] (defScope s_tight) := ⟨rfl, rfl, rfl, by decide +kernel, rfl, by decide +kernel, by decide +kernel⟩
/-- a bar turned -/
def rotB (b : List Int) (a : Nat) : List Int := b.drop a ++ b.take a
theorem rot_step {b : List Int} {a : Nat} (ha : a < b.length) : (rotB b a).getLast? = some (b.getD (if a = 0 then b.length - 1 else a - 1) 0) ∧ b.getD (if a = 0 then b.length - 1 else a - 1) 0 :: (rotB b a).dropLast = rotB b (if a = 0 then b.length - 1 else a - 1) := by
  by_cases h0 : a = 0
  · subst h0
    rw [if_pos rfl]
    have e0 : rotB b 0 = b := by simp [rotB]
    have eg : b.getD (b.length - 1) 0 = b[b.length - 1] := by rw [List.getD_eq_getElem?_getD, List.getElem?_eq_getElem (by omega)]; rfl
    rw [e0, eg]
    refine ⟨?_, ?_⟩
    · rw [List.getLast?_eq_getElem?, List.getElem?_eq_getElem (by omega)]
    · unfold rotB
      rw [List.drop_eq_getElem_cons (i := b.length - 1) (by omega), List.drop_eq_nil_of_le (by omega), List.dropLast_eq_take]
      rfl
  · rw [if_neg h0]
    have eg : b.getD (a - 1) 0 = b[a - 1] := by rw [List.getD_eq_getElem?_getD, List.getElem?_eq_getElem (by omega)]; rfl
    have et : b.take a = b.take (a - 1) ++ [b[a - 1]] := by
      have := List.take_append_getElem (l := b) (i := a - 1) (by omega)
      rw [show a - 1 + 1 = a by omega] at this
      exact this.symm
    have ed : b.drop (a - 1) = b[a - 1] :: b.drop a := by
      rw [List.drop_eq_getElem_cons (i := a - 1) (by omega), show a - 1 + 1 = a by omega]
    rw [eg]
    unfold rotB
    rw [et, ← List.append_assoc]
    refine ⟨by rw [List.getLast?_append]; simp, ?_⟩
    rw [List.dropLast_concat, ed]
    rfl
theorem turn_ix {n a t : Nat} (ha : a < n) (h : (a + t) % n = 0) : (((n : Int) - 1 - (t : Int)) % (n : Int)).toNat = (if a = 0 then n - 1 else a - 1) ∧ (((0 : Int) - (t : Int)) % (n : Int)).toNat = a ∧ ((if a = 0 then n - 1 else a - 1) + (t + 1)) % n = 0 := by
  obtain ⟨k, hk⟩ := Nat.dvd_of_mod_eq_zero h
  have hk' : (t : Int) = (n : Int) * (k : Int) - (a : Int) := by
    have : ((a + t : Nat) : Int) = ((n * k : Nat) : Int) := by rw [hk]
    rw [Int.natCast_add, Int.natCast_mul] at this
    omega
  refine ⟨?_, ?_, ?_⟩
  · by_cases h0 : a = 0
    · rw [if_pos h0]
      have e : (n : Int) - 1 - (t : Int) = ((n - 1 : Nat) : Int) + (n : Int) * (-(k : Int)) := by
        rw [hk', h0, Int.mul_neg]
        omega
      rw [e, Int.add_mul_emod_self_left, toNat_emod, Nat.mod_eq_of_lt (by omega)]
    · rw [if_neg h0]
      have e : (n : Int) - 1 - (t : Int) = ((a - 1 : Nat) : Int) + (n : Int) * (1 - (k : Int)) := by
        rw [hk', Int.mul_sub, Int.mul_one]
        omega
      rw [e, Int.add_mul_emod_self_left, toNat_emod, Nat.mod_eq_of_lt (by omega)]
  · have e : (0 : Int) - (t : Int) = (a : Int) + (n : Int) * (-(k : Int)) := by
      rw [hk', Int.mul_neg]
      omega
    rw [e, Int.add_mul_emod_self_left, toNat_emod, Nat.mod_eq_of_lt ha]
  · by_cases h0 : a = 0
    · rw [if_pos h0]
      subst h0
      rw [show n - 1 + (t + 1) = (0 + t) + n by omega, Nat.add_mod_right]
      exact h
    · rw [if_neg h0, show a - 1 + (t + 1) = a + t by omega]
      exact h
def sp_tight (K : PySem.W.Frag) : Sp := SpD K (fun g : List Int × List Int => [.tuple (g.1.map .int), .tuple (g.2.map .int)]) (fun g => g.2 ≠ [] ∧ g.1.length ≤ 90000 ∧ g.2.length ≤ 90000) (fun g => pul (tightM g.1 g.2).1 (tightM g.1 g.2).2)
theorem ed_tight {σ : L2.St} {H : Hp} {ta tb : TE} {E : XK} {h b : List Int} (ha : EvD K ta σ H (.tuple (h.map .int))) (hb : EvD K tb σ H (.tuple (b.map .int))) (hs : b ≠ [] ∧ h.length ≤ 90000 ∧ b.length ≤ 90000) : EvD K (tCall (sp_tight K) [] E (tCons ta (tCons tb tNil))) σ H (pul (tightM h b).1 (tightM h b).2) :=
  ed_callD (h, b) (eds_cons ha (eds_cons hb eds_nil)) hs
local macro_rules | `(tactic| walk_at "ed") => `(tactic| ((with_reducible apply ed_tight) <;> walk_at "ed"))
theorem can_tight (F : Dfn K mg "tight" s_tight ["head", "bar"]) (bt : Bt mg) (c_shortest_bar : Can P w K mg base CX0 1 "shortest_bar" (sp_shortest_bar K)) : Can P w K mg base CX0 2 "tight" (sp_tight K) := by
  refine can_D F sc_tight (fun g => rfl) (fun cdv A outer s H vs Q E f g hr hv hs q => ⟨_, ((pss_cons (ps_set (i := 1) sc_tight.nd rfl (Or.inl rfl) (pc c_shortest_bar hr (by decide) (by rfl) (pa_cons (pv 1) pa_nil)))
  (pss_cons (ps_set (i := 2) sc_tight.nd rfl (Or.inl rfl) (pe_callB (call_lenK (K := K) rfl) (by rfl) bt.len (by decide +kernel) (pa_cons (pv 0) pa_nil)))
  (pss_cons (ps_set (i := 3) sc_tight.nd rfl (Or.inl rfl) pe_int)
  (pss_cons (ps_while PassesOwn.never (PW.pt (pw_and (pt_cmpR op_gt (pv 2) pe_int (nomark _)) (pw_and1 (pt_cmpR (op_eqDK (K := K) rfl hr.units) (pe_ix (ix_K (K := K) rfl) (pv 0) (pe_op op_sub (pv 2) pe_int) (fun _ _ => rfl)) (pe_ix (ix_K (K := K) rfl) (pv 1) (pe_op op_mod (pe_op op_sub (pe_op op_sub (pe_callB (call_lenK (K := K) rfl) (by rfl) bt.len (by decide +kernel) (pa_cons (pv 1) pa_nil)) pe_int) (pv 3)) (pe_callB (call_lenK (K := K) rfl) (by rfl) bt.len (by decide +kernel) (pa_cons (pv 1) pa_nil))) (fun _ _ => rfl)) (nomark _))))) (pss_cons (ps_set (i := 2) sc_tight.nd rfl (Or.inl rfl) (pe_op op_sub (pv 2) pe_int))
  (pss_one (ps_set (i := 3) sc_tight.nd rfl (Or.inl rfl) (pe_op (op_addK (K := K) rfl) (pv 3) pe_int)))))
  (pss_cons (ps_set (i := 4) sc_tight.nd rfl (Or.inl rfl) (pe_op op_mod (pe_op op_sub pe_int (pv 3)) (pe_callB (call_lenK (K := K) rfl) (by rfl) bt.len (by decide +kernel) (pa_cons (pv 1) pa_nil))))
  (pss_one (ps_ret (pe_tup (pa_cons (pe_callTy (call_tupleK (K := K) rfl) (by rfl) bt.tuple (by decide +kernel) (pa_cons (pe_slice (sl_K (K := K) rfl) (pv 0) po_none (po_some (pv 2))) pa_nil)) (pa_cons (pe_op (op_addK (K := K) rfl) (pe_slice (sl_K (K := K) rfl) (pv 1) (po_some (pv 4)) po_none) (pe_slice (sl_K (K := K) rfl) (pv 1) po_none (po_some (pv 4)))) pa_nil))))))))))), ?_⟩)
  try dsimp only [L2.cxOf, L2.Cx.nox, L2.Cx.wish]
  obtain ⟨h, b⟩ := g
  dsimp only at hv hs q
  obtain ⟨nb, l1, l2⟩ := hs
  obtain ⟨v0, v1, rfl, h0, h1⟩ := dpa2 hv
  obtain ⟨p1, p2, p3, p4⟩ := per_spec nb
  refine qd_asg (K := K) (ed_shortest_bar (ed_var rfl h1) ⟨nb, l2⟩) fun v2 H1 x1 h2 => ?_
  generalize hc : b.take (per b) = c at h2
  have hcl : c.length = per b := by rw [← hc, List.length_take]; omega
  have hT : tightM h b = ((strip h.reverse c).1.reverse, (strip h.reverse c).2) := by unfold tightM; rw [hc]
  refine qd_asgI (K := K) (j := (h.length : Int)) (EvD.to (by walk_at "ed") (by simp)) fun H2 x2 => ?_
  refine qd_asgI (K := K) (j := ((0 : Nat) : Int)) ed_cint fun H3 x3 => ?_
  refine q_while (fun m σ' H' => ∃ (s t a : Nat), σ' = [some v0, some v2, some (.int (s : Int)), some (.int (t : Int)), none] ∧ Ex H H' ∧ Ex H1 H' ∧ s ≤ h.length ∧ a < c.length ∧ (a + t) % c.length = 0 ∧ strip (h.take s).reverse (rotB c a) = strip h.reverse c ∧ m = s) h.length
    ⟨h.length, 0, 0, rfl, (x1.trans x2).trans x3, x2.trans x3, Nat.le_refl _, by omega, by simp, by rw [List.take_length]; simp [rotB], rfl⟩ (fun m σ' H' ⟨s, t, a, e, y1, y1', y2, y3, y4, y5, y6⟩ => ?_)
  subst e
  obtain ⟨ti, ta, tn⟩ := turn_ix y3 y4
  have hc0 : (0 : Int) < (c.length : Int) := by omega
  have d0 : Dp K H' v0 (.tuple (h.map .int)) := dp_ex y1 h0
  have d2 : Dp K H' v2 (.tuple (c.map .int)) := dp_ex y1' h2
  generalize hi : (if a = 0 then c.length - 1 else a - 1) = i at ti tn
  have hi' : i < c.length := by rw [← hi]; split <;> omega
  have rs := rot_step y3
  rw [hi] at rs
  have mi : 0 ≤ ((c.length : Int) - 1 - (t : Int)) % (c.length : Int) := Int.emod_nonneg _ (by omega)
  have eb : atI (c.map PyData.int) (((c.length : Int) - 1 - (t : Int)) % (c.length : Int)) = some (.int (c.getD i 0)) := by
    rw [at_intsI mi (by have := Int.emod_lt_of_pos ((c.length : Int) - 1 - (t : Int)) hc0; omega), ti]
  by_cases hs0 : s = 0
  · subst hs0
    refine ⟨false, EvT.to (et_and (b := false) (et_tst (K := K) (ed_gt (ed_var rfl (.int ((0 : Nat) : Int))) ed_cint)) fun z => by simp at z) (by simp), (fun z => by cases z), fun _ H5 x5 => ?_⟩
    have es : strip h.reverse c = ([], rotB c a) := by rw [← y5]; rfl
    refine qd_asgI (K := K) (j := (a : Int)) (EvD.to (ed_mod (ed_sub ed_cint (ed_var rfl (.int (t : Int)))) (EvD.to (ed_lenT (ed_var rfl (dp_ex x5 d2))) (by rw [List.length_map])) hc0) (by have := Int.emod_nonneg (0 - (t : Int)) (show (c.length : Int) ≠ 0 by omega); congr 1; omega)) fun H6 x6 => ?_
    refine sd_ret (K := K) (EvD.to (ed_tup (eds_cons (ed_tupT (ed_slT (ed_var rfl (dp_ex (x5.trans x6) d0)) eo_none (eo_int (K := K) (ed_var rfl (.int ((0 : Nat) : Int)))))) (eds_cons (ed_catT (ed_slT (ed_var rfl (dp_ex (x5.trans x6) d2)) (eo_int (K := K) (ed_var rfl (.int (a : Int)))) eo_none) (ed_slT (ed_var rfl (dp_ex (x5.trans x6) d2)) eo_none (eo_int (K := K) (ed_var rfl (.int (a : Int))))) (by rw [cutD_from, cutD_to]; simp; omega)) eds_nil)) (by simp)) ?_) fun v H7 x7 hv => q v H7 (((y1.trans x5).trans x6).trans x7) hv
    rw [cutD_to, cutD_from, cutD_to, hT, es]
    simp [pul, rotB]
  · have e1 : (s : Int) - 1 = ((s - 1 : Nat) : Int) := by omega
    have hlast : (h.take s).reverse = h.getD (s - 1) 0 :: (h.take (s - 1)).reverse := by
      have := List.take_append_getElem (l := h) (i := s - 1) (by omega)
      rw [show s - 1 + 1 = s by omega] at this
      rw [← this, List.reverse_append, List.getD_eq_getElem?_getD, List.getElem?_eq_getElem (by omega)]
      rfl
    have ea : atI (h.map PyData.int) ((s : Int) - 1) = some (.int (h.getD (s - 1) 0)) := by rw [e1, at_ints (by omega)]
    have tst : ∀ {σ}, σ = [some v0, some v2, some (.int (s : Int)), some (.int (t : Int)), none] → EvD K (tOp (rIx K) (tVar 1) (tOp (rI (fun _ j => 0 < j) fun i j => .int (i % j)) (tOp (rI0 fun i j => .int (i - j)) (tOp (rI0 fun i j => .int (i - j)) (tCB (fun xs H Q => ∃ x n, xs = [x] ∧ LenV K x H n ∧ Q (.int n) H) (tCons (tVar 1) tNil)) (tC (.int 1))) (tVar 3)) (tCB (fun xs H Q => ∃ x n, xs = [x] ∧ LenV K x H n ∧ Q (.int n) H) (tCons (tVar 1) tNil)))) σ H' (.int (c.getD i 0)) := by
      intro σ e
      subst e
      have ln : EvD K (tCB (fun xs H Q => ∃ x n, xs = [x] ∧ LenV K x H n ∧ Q (.int n) H) (tCons (tVar 1) tNil)) [some v0, some v2, some (.int (s : Int)), some (.int (t : Int)), none] H' (.int (c.length : Int)) := EvD.to (ed_lenT (ed_var rfl d2)) (by rw [List.length_map])
      exact ed_ixT (ed_var rfl d2) (ed_mod (ed_sub (ed_sub ln ed_cint) (ed_var rfl (.int (t : Int)))) ln hc0) eb
    refine ⟨h.getD (s - 1) 0 == c.getD i 0, EvT.to (et_and (et_tst (K := K) (ed_gt (ed_var rfl (.int (s : Int))) ed_cint)) fun z => et_tst (K := K) (ed_eqI (ed_ixT (ed_var rfl d0) (ed_sub (ed_var rfl (.int (s : Int))) ed_cint) ea) (tst rfl))) (by rw [decide_eq_true (show (0 : Int) < (s : Int) by omega)]; rfl), fun hx H5 x5 => ?_, fun hx H5 x5 => ?_⟩
    · have ex : h.getD (s - 1) 0 = c.getD i 0 := by simpa using hx
      refine ⟨fun σ2 H2 => ∃ m', m' < m ∧ ∃ (s t a : Nat), σ2 = [some v0, some v2, some (.int (s : Int)), some (.int (t : Int)), none] ∧ Ex H H2 ∧ Ex H1 H2 ∧ s ≤ h.length ∧ a < c.length ∧ (a + t) % c.length = 0 ∧ strip (h.take s).reverse (rotB c a) = strip h.reverse c ∧ m' = s, fun σ2 H2 z => z, ?_⟩
      refine qd_asgI (K := K) (j := ((s - 1 : Nat) : Int)) (EvD.to (ed_sub (ed_var rfl (.int (s : Int))) ed_cint) (by rw [e1])) fun H6 x6 => ?_
      refine sd_asgI (K := K) (j := ((t + 1 : Nat) : Int)) (EvD.to (ed_add (ed_var rfl (.int (t : Int))) ed_cint) (by simp)) fun H7 x7 => ?_
      refine ⟨s - 1, by omega, s - 1, t + 1, i, rfl, ((y1.trans x5).trans x6).trans x7, ((y1'.trans x5).trans x6).trans x7, by omega, hi', tn, ?_, rfl⟩
      rw [← y5, hlast]
      conv => rhs; unfold strip
      rw [rs.1, ex, if_pos rfl, rs.2]
    · have ex : ¬ h.getD (s - 1) 0 = c.getD i 0 := by simpa using hx
      have es : strip h.reverse c = ((h.take s).reverse, rotB c a) := by
        rw [← y5, hlast]
        unfold strip
        rw [rs.1, if_neg (by intro z; exact ex (Option.some.inj z).symm)]
      refine qd_asgI (K := K) (j := (a : Int)) (EvD.to (ed_mod (ed_sub ed_cint (ed_var rfl (.int (t : Int)))) (EvD.to (ed_lenT (ed_var rfl (dp_ex x5 d2))) (by rw [List.length_map])) hc0) (by have := Int.emod_nonneg (0 - (t : Int)) (show (c.length : Int) ≠ 0 by omega); congr 1; omega)) fun H6 x6 => ?_
      refine sd_ret (K := K) (EvD.to (ed_tup (eds_cons (ed_tupT (ed_slT (ed_var rfl (dp_ex (x5.trans x6) d0)) eo_none (eo_int (K := K) (ed_var rfl (.int (s : Int)))))) (eds_cons (ed_catT (ed_slT (ed_var rfl (dp_ex (x5.trans x6) d2)) (eo_int (K := K) (ed_var rfl (.int (a : Int)))) eo_none) (ed_slT (ed_var rfl (dp_ex (x5.trans x6) d2)) eo_none (eo_int (K := K) (ed_var rfl (.int (a : Int))))) (by rw [cutD_from, cutD_to]; simp; omega)) eds_nil)) (by simp)) ?_) fun v H7 x7 hv => q v H7 (((y1.trans x5).trans x6).trans x7) hv
      rw [cutD_to, cutD_from, cutD_to, hT, es]
      simp [pul, rotB]
/-! ### is_rule -/
abbrev s_is_rule : Stmt := topS 20
theorem sc_is_rule : FnScope ["thing"] ["thing"] (defScope s_is_rule) := ⟨rfl, rfl, rfl, by decide +kernel, rfl, by decide +kernel, by decide +kernel⟩
def ruleOk (d : PD) : Bool := match d with
  | .tuple xs => decide ((xs.length : Int) = 3) && (inW (xs.getD 0 .none) 0 400 && inW (xs.getD 1 .none) 1 200 && (isNone (xs.getD 2 .none) || inW (xs.getD 2 .none) 1 400))
  | _ => false
theorem rule_ok {r : Rul} (o : r.Ok) : ruleOk r.d = true := by
  obtain ⟨s, p, t⟩ := r
  have h1 : s ≤ 400 := o.s
  have h2 : 1 ≤ p := o.p1
  have h3 : p ≤ 200 := o.p2
  have a1 : inW (.int (s : Nat)) 0 400 = true := by simp [inW]; omega
  have a2 : inW (.int (p : Nat)) 1 200 = true := by simp [inW]; omega
  cases t with
  | none =>
    show (decide ((([PyData.int (s : Nat), .int (p : Nat), PyData.none] : List PD).length : Int) = 3) && (inW (.int (s : Nat)) 0 400 && inW (.int (p : Nat)) 1 200 && (true || inW PyData.none 1 400))) = true
    rw [a1, a2]
    rfl
  | some t =>
    have ht := o.t t rfl
    have a3 : inW (.int (t : Nat)) 1 400 = true := by simp [inW]; omega
    show (decide ((([PyData.int (s : Nat), .int (p : Nat), .int (t : Nat)] : List PD).length : Int) = 3) && (inW (.int (s : Nat)) 0 400 && inW (.int (p : Nat)) 1 200 && (false || inW (.int (t : Nat)) 1 400))) = true
    rw [a1, a2, a3]
    rfl
def sp_is_rule (K : PySem.W.Frag) : Sp := SpD K (fun d : PD => [d]) (fun _ => True) (fun d => .bool (ruleOk d))
theorem ed_is_rule {σ : L2.St} {H : Hp} {ta : TE} {E : XK} {d : PD} (ha : EvD K ta σ H d) : EvD K (tCall (sp_is_rule K) [] E (tCons ta tNil)) σ H (.bool (ruleOk d)) :=
  ed_callD d (eds_cons ha eds_nil) trivial
local macro_rules | `(tactic| walk_at "ed") => `(tactic| ((with_reducible apply ed_is_rule) <;> walk_at "ed"))
theorem can_is_rule (F : Dfn K mg "is_rule" s_is_rule ["thing"]) (bt : Bt mg) (c_is_within : Can P w K mg base CX0 1 "is_within" (sp_is_within K)) : Can P w K mg base CX0 2 "is_rule" (sp_is_rule K) := by
  refine can_D F sc_is_rule (fun g => rfl) (fun cdv A outer s H vs Q E f g hr hv hs q => ⟨_, ((pss_cons (ps_if (PW.pt (pw_or (pt_not (pt_truthK (K := K) rfl (pe_callB (call_isiK' (K := K) rfl) (by rfl) bt.isinstance (by decide +kernel) (pa_cons (pv 0) (pa_cons (pe_bltn (v := .ty "tuple") (by rfl) bt.tuple (by decide +kernel) rfl) pa_nil))) (fun _ => rfl))) (pw_or1 (pt_cmpR (op_neDK (K := K) rfl hr.units) (pe_callB (call_lenK (K := K) rfl) (by rfl) bt.len (by decide +kernel) (pa_cons (pv 0) pa_nil)) pe_int (nomark _))))) (pss_one (ps_ret pe_bl)) pss_nil)
  (pss_cons (ps_if (PW.pt (pw_or (pt_not (pt_truthK (K := K) rfl (pc c_is_within hr (by decide) (by rfl) (pa_cons (pe_ix (ix_K (K := K) rfl) (pv 0) pe_int (fun _ _ => rfl)) (pa_cons pe_int (pa_cons pe_int pa_nil)))) (fun _ => rfl))) (pw_or1 (pt_not (pt_truthK (K := K) rfl (pc c_is_within hr (by decide) (by rfl) (pa_cons (pe_ix (ix_K (K := K) rfl) (pv 0) pe_int (fun _ _ => rfl)) (pa_cons pe_int (pa_cons pe_int pa_nil)))) (fun _ => rfl)))))) (pss_one (ps_ret pe_bl)) pss_nil)
  (pss_one (ps_ret (pe_or (pe_cmpR op_isX (pe_ix (ix_K (K := K) rfl) (pv 0) pe_int (fun _ _ => rfl)) pe_non (nomark _)) (pe_one (pc c_is_within hr (by decide) (by rfl) (pa_cons (pe_ix (ix_K (K := K) rfl) (pv 0) pe_int (fun _ _ => rfl)) (pa_cons pe_int (pa_cons pe_int pa_nil))))))))))), ?_⟩)
  try dsimp only [L2.cxOf, L2.Cx.nox, L2.Cx.wish]
  obtain ⟨v0, rfl, h0⟩ := dpa1 hv
  cases ht : isTup g with
  | false =>
    have z : ruleOk g = false := by
      cases g <;> first | rfl | cases ht
    refine q_when (EvT.to (et_or (a := true) (b := true) (EvT.to (et_not (et_tru (K := K) (ed_isTup (ed_var rfl h0)))) (by rw [ht]; rfl)) fun z => by cases z) (c := true) rfl) (fun _ H1 x1 => ?_) (fun c => by cases c)
    exact sd_ret (K := K) ed_cbl fun v H2 x2 hv => q v H2 (x1.trans x2) (by rw [z]; exact hv)
  | true =>
    obtain ⟨xs, rfl⟩ : ∃ xs, g = .tuple xs := by
      cases g <;> first | exact ⟨_, rfl⟩ | cases ht
    refine q_when (EvT.to (et_or (a := false) (EvT.to (et_not (et_tru (K := K) (ed_isTup (ed_var rfl h0)))) rfl) fun _ => et_tst (K := K) (ed_neI (ed_lenT (ed_var rfl h0)) ed_cint)) (c := !decide ((xs.length : Int) = 3)) (by rw [Bool.false_or]; congr 1)) (fun c H1 x1 => ?_) (fun c H1 x1 => ?_)
    · have c' : decide ((xs.length : Int) = 3) = false := by simpa using c
      exact sd_ret (K := K) ed_cbl fun v H2 x2 hv => q v H2 (x1.trans x2) (by unfold ruleOk; dsimp only; rw [c', Bool.false_and]; exact hv)
    · have c' : decide ((xs.length : Int) = 3) = true := by simpa using c
      have l3 : xs.length = 3 := by have := of_decide_eq_true c'; omega
      match xs, l3 with
      | [a, b, d], _ =>
        have i0 : ∀ {H' : Hp}, Ex H H' → EvD K (tOp (rIx K) (tVar 0) (tC (.int 0))) [some v0] H' a := fun x => ed_ixT (ed_var rfl (dp_ex x h0)) ed_cint rfl
        have i1 : ∀ {H' : Hp}, Ex H H' → EvD K (tOp (rIx K) (tVar 0) (tC (.int 1))) [some v0] H' b := fun x => ed_ixT (ed_var rfl (dp_ex x h0)) ed_cint rfl
        have i2 : ∀ {H' : Hp}, Ex H H' → EvD K (tOp (rIx K) (tVar 0) (tC (.int 2))) [some v0] H' d := fun x => ed_ixT (ed_var rfl (dp_ex x h0)) ed_cint rfl
        have ro : ruleOk (.tuple [a, b, d]) = (inW a 0 400 && inW b 1 200 && (isNone d || inW d 1 400)) := by
          show (decide ((([a, b, d] : List PD).length : Int) = 3) && (inW a 0 400 && inW b 1 200 && (isNone d || inW d 1 400))) = _
          rw [decide_eq_true (show ((([a, b, d] : List PD).length : Int) = 3) from rfl), Bool.true_and]
        refine q_when (EvT.to (et_or (et_not (et_tru (K := K) (ed_is_within (i0 x1) ed_cint ed_cint))) fun _ => et_not (et_tru (K := K) (ed_is_within (i1 x1) ed_cint ed_cint))) (c := !(inW a 0 400 && inW b 1 200)) (by show (!(inW a 0 400) || !(inW b 1 200)) = _; rw [Bool.not_and])) (fun c H2 x2 => ?_) (fun c H2 x2 => ?_)
        · have c2 : (inW a 0 400 && inW b 1 200) = false := by rwa [Bool.not_eq_true'] at c
          exact sd_ret (K := K) ed_cbl fun v H3 x3 hv => q v H3 (x1.trans (x2.trans x3)) (by rw [ro, c2, Bool.false_and]; exact hv)
        · have c2 : (inW a 0 400 && inW b 1 200) = true := by rwa [Bool.not_eq_false'] at c
          refine sd_ret (K := K) (EvD.to (ed_or (ed_isN (i2 (x1.trans x2))) fun _ => ed_is_within (i2 (x1.trans x2)) ed_cint ed_cint) (show _ = PyData.bool (ruleOk (.tuple [a, b, d])) by rw [ro, c2, Bool.true_and])) fun v H3 x3 hv => q v H3 (x1.trans (x2.trans x3)) hv
/-! ### _law_rule -/
abbrev s_law_rule : Stmt := topS 26
theorem sc_law_rule : FnScope ["_law_cell_here", "_law_start", "_law_step", "_law_times"] ["_law_cell_here"] (defScope s_law_rule) := ⟨rfl, rfl, rfl, by decide +kernel, rfl, by decide +kernel, by decide +kernel⟩
def ruleOf (c : Int) : Rul := ⟨(mixM c 9973 30).toNat, ([1, 2, 3, 4, 6, 12].getD (mixM c 9967 6).toNat 0), if mixM c 9949 2 = 0 then some (1 + (mixM c 9941 9).toNat) else none⟩
theorem mix_lt (c : Int) {p m : Int} (hm : 0 < m) : 0 ≤ mixM c p m ∧ mixM c p m < m := ⟨Int.emod_nonneg _ (by omega), Int.emod_lt_of_pos _ hm⟩
theorem stp_ok (n : Nat) (h : n < 6) : 1 ≤ [1, 2, 3, 4, 6, 12].getD n 0 ∧ [1, 2, 3, 4, 6, 12].getD n 0 ≤ 12 ∧ [1, 2, 3, 4, 6, 12].getD n 0 ∣ 12 := by
  match n, h with
  | 0, _ => decide
  | 1, _ => decide
  | 2, _ => decide
  | 3, _ => decide
  | 4, _ => decide
  | 5, _ => decide
theorem ruleOf_ok (c : Int) : (ruleOf c).Ok ∧ (ruleOf c).head.length ≤ 126 ∧ (ruleOf c).bar.length ∣ 12 := by
  have h1 := mix_lt c (p := 9973) (m := 30) (by decide)
  have h2 := mix_lt c (p := 9967) (m := 6) (by decide)
  have h3 := mix_lt c (p := 9941) (m := 9) (by decide)
  have h4 := stp_ok (mixM c 9967 6).toNat (by omega)
  have o : (ruleOf c).Ok := by
    refine ⟨by show (mixM c 9973 30).toNat ≤ 400; omega, h4.1, Nat.le_trans h4.2.1 (by decide), fun t ht => ?_⟩
    have ht' : (if mixM c 9949 2 = 0 then some (1 + (mixM c 9941 9).toNat) else none) = some t := ht
    split at ht'
    · have := Option.some.inj ht'
      omega
    · cases ht'
  refine ⟨o, ?_, ?_⟩
  · unfold Rul.head
    split
    · rw [List.length_replicate]
      show (mixM c 9973 30).toNat ≤ 126
      omega
    · rename_i t ht
      have ht' : (if mixM c 9949 2 = 0 then some (1 + (mixM c 9941 9).toNat) else none) = some t := ht
      rw [hedR_len]
      unfold lenR
      show (mixM c 9973 30).toNat + ([1, 2, 3, 4, 6, 12].getD (mixM c 9967 6).toNat 0) * (t - 1) + 1 ≤ 126
      have : t ≤ 9 := by
        split at ht'
        · have := Option.some.inj ht'
          omega
        · cases ht'
      have := Nat.mul_le_mul h4.2.1 (show t - 1 ≤ 8 by omega)
      omega
  · unfold Rul.bar
    split
    · rw [List.length_cons, List.length_replicate]
      have e : (ruleOf c).p - 1 + 1 = (ruleOf c).p := by have := o.p1; omega
      rw [e]
      exact h4.2.2
    · exact Nat.one_dvd _
def sp_law_rule (K : PySem.W.Frag) : Sp := SpD K (fun c : Int => [.int c]) (fun _ => True) (fun c => (ruleOf c).d)
theorem ed_law_rule {σ : L2.St} {H : Hp} {ta : TE} {E : XK} {c : Int} (ha : EvD K ta σ H (.int c)) : EvD K (tCall (sp_law_rule K) [] E (tCons ta tNil)) σ H (ruleOf c).d :=
  ed_callD c (eds_cons ha eds_nil) trivial
local macro_rules | `(tactic| walk_at "ed") => `(tactic| ((with_reducible apply ed_law_rule) <;> walk_at "ed"))
theorem can_law_rule (F : Dfn K mg "_law_rule" s_law_rule ["_law_cell_here"]) (bt : Bt mg) (c_law_mix : Can P w K mg base CX0 1 "_law_mix" (sp_law_mix K)) : Can P w K mg base CX0 2 "_law_rule" (sp_law_rule K) := by
  refine can_D F sc_law_rule (fun g => rfl) (fun cdv A outer s H vs Q E f g hr hv hs q => ⟨_, ((pss_cons (ps_set (i := 1) sc_law_rule.nd rfl (Or.inl rfl) (pc c_law_mix hr (by decide) (by rfl) (pa_cons (pv 0) (pa_cons pe_int (pa_cons pe_int pa_nil)))))
  (pss_cons (ps_set (i := 2) sc_law_rule.nd rfl (Or.inl rfl) (pe_ix (ix_K (K := K) rfl) (pe_lst (pa_cons pe_int (pa_cons pe_int (pa_cons pe_int (pa_cons pe_int (pa_cons pe_int (pa_cons pe_int pa_nil))))))) (pc c_law_mix hr (by decide) (by rfl) (pa_cons (pv 0) (pa_cons pe_int (pa_cons pe_int pa_nil)))) (fun _ _ => rfl)))
  (pss_cons (ps_set (i := 3) sc_law_rule.nd rfl (Or.inl rfl) pe_non)
  (pss_cons (ps_if (pt_cmpR (op_eqDK (K := K) rfl hr.units) (pc c_law_mix hr (by decide) (by rfl) (pa_cons (pv 0) (pa_cons pe_int (pa_cons pe_int pa_nil)))) pe_int (nomark _)) (pss_one (ps_set (i := 3) sc_law_rule.nd rfl (Or.inl rfl) (pe_op (op_addK (K := K) rfl) pe_int (pc c_law_mix hr (by decide) (by rfl) (pa_cons (pv 0) (pa_cons pe_int (pa_cons pe_int pa_nil))))))) pss_nil)
  (pss_one (ps_ret (pe_tup (pa_cons (pv 1) (pa_cons (pv 2) (pa_cons (pv 3) pa_nil))))))))))), ?_⟩)
  try dsimp only [L2.cxOf, L2.Cx.nox, L2.Cx.wish]
  obtain ⟨v0, rfl, h0⟩ := dpa1 hv
  have e0 := dp_int h0
  subst e0
  have h1 := mix_lt g (p := 9973) (m := 30) (by decide)
  have h2 := mix_lt g (p := 9967) (m := 6) (by decide)
  have h3 := mix_lt g (p := 9941) (m := 9) (by decide)
  refine qd_asgI (K := K) (j := ((ruleOf g).s : Int)) (EvD.to (ed_law_mix (ed_var rfl (.int g)) ed_cint ed_cint (by decide) (by decide)) (by congr 1; show _ = (((mixM g 9973 30).toNat : Nat) : Int); omega)) fun H1 x1 => ?_
  refine qd_asgI (K := K) (j := ((ruleOf g).p : Int)) (ed_ixL (EvD.to (ed_lst (eds_cons ed_cint (eds_cons ed_cint (eds_cons ed_cint (eds_cons ed_cint (eds_cons ed_cint (eds_cons ed_cint eds_nil)))))) (by simp)) (show _ = PyData.list (([1, 2, 3, 4, 6, 12] : List Int).map .int) from rfl)) (ed_law_mix (ed_var rfl (.int g)) ed_cint ed_cint (by decide) (by decide)) ?_) fun H2 x2 => ?_
  · rw [at_intsI h2.1 (by show _ < (6 : Int); exact h2.2)]
    show some (PyData.int _) = some (.int ((([1, 2, 3, 4, 6, 12] : List Nat).getD (mixM g 9967 6).toNat 0 : Nat) : Int))
    have : (mixM g 9967 6).toNat < 6 := by omega
    generalize (mixM g 9967 6).toNat = i at this
    match i, this with
    | 0, _ => rfl
    | 1, _ => rfl
    | 2, _ => rfl
    | 3, _ => rfl
    | 4, _ => rfl
    | 5, _ => rfl
  refine qd_asg (K := K) (d := .none) ed_cnon fun v3 H3 x3 hv3 => ?_
  have x13 := x1.trans (x2.trans x3)
  refine qd_ifAsg (K := K) (i := 3) (d := (ruleOf g).td) (EvT.to (et_tst (K := K) (ed_eqI (ed_law_mix (ed_var rfl (.int g)) ed_cint ed_cint (by decide) (by decide)) ed_cint)) (c := decide (mixM g 9949 2 = 0)) (by rw [Bool.eq_iff_iff, beq_iff_eq, decide_eq_true_eq])) (fun z => EvD.to (ed_add ed_cint (ed_law_mix (ed_var rfl (.int g)) ed_cint ed_cint (by decide) (by decide))) ?_) (fun z => ⟨_, rfl, ?_⟩) fun v4 H4 x4 h4 => ?_
  · unfold Rul.td ruleOf
    dsimp only
    rw [if_pos (of_decide_eq_true z)]
    dsimp only
    congr 1
    omega
  · unfold Rul.td ruleOf
    dsimp only
    rw [if_neg (of_decide_eq_false z)]
    exact hv3
  · exact sd_ret (K := K) (ed_tup (eds_cons (ed_var rfl (.int ((ruleOf g).s : Int))) (eds_cons (ed_var rfl (.int ((ruleOf g).p : Int))) (eds_cons (ed_var rfl h4) eds_nil))) (by simp)) fun v H5 x5 hv => q v H5 (x13.trans (x4.trans x5)) hv
/-! ### fitted -/
abbrev s_fitted : Stmt := topS 13
theorem sc_fitted : FnScope ["head", "bar", "found"] ["head", "bar"] (defScope s_fitted) := ⟨rfl, rfl, rfl, by decide +kernel, rfl, by decide +kernel, by decide +kernel⟩
/-- the pulse of a head and a bar, if a form has room for it -/
def fitM (C : Addr) (h b : List Int) : Except Addr PD := if (tightM h b).1.length ≤ 400 ∧ (tightM h b).2.length ≤ 200 then .ok (pul (tightM h b).1 (tightM h b).2) else .error C
def sp_fitted (K : PySem.W.Frag) (C_TooLong : Addr) : Sp := SpX K (fun g : (Bool × List Int) × Bool × List Int => [sq g.1.1 g.1.2, sq g.2.1 g.2.2]) (fun g => g.2.2 ≠ [] ∧ g.1.2.length ≤ 90000 ∧ g.2.2.length ≤ 90000) (fun g => fitM C_TooLong g.1.2 g.2.2)
section
variable {σ : L2.St} {H : Hp} {ta tb : TE} {E : XK} {h b : List Int} {C_TooLong : Addr}
theorem ed_fittedLL (ha : EvD K ta σ H (.list (h.map .int))) (hb : EvD K tb σ H (.list (b.map .int))) (hs : b ≠ [] ∧ h.length ≤ 90000 ∧ b.length ≤ 90000) (hf : (tightM h b).1.length ≤ 400 ∧ (tightM h b).2.length ≤ 200) : EvD K (tCall (sp_fitted K C_TooLong) [] E (tCons ta (tCons tb tNil))) σ H (pul (tightM h b).1 (tightM h b).2) :=
  ed_callX ((true, h), true, b) (eds_cons ha (eds_cons hb eds_nil)) hs (if_pos hf)
theorem ed_fittedLT (ha : EvD K ta σ H (.list (h.map .int))) (hb : EvD K tb σ H (.tuple (b.map .int))) (hs : b ≠ [] ∧ h.length ≤ 90000 ∧ b.length ≤ 90000) (hf : (tightM h b).1.length ≤ 400 ∧ (tightM h b).2.length ≤ 200) : EvD K (tCall (sp_fitted K C_TooLong) [] E (tCons ta (tCons tb tNil))) σ H (pul (tightM h b).1 (tightM h b).2) :=
  ed_callX ((true, h), false, b) (eds_cons ha (eds_cons hb eds_nil)) hs (if_pos hf)
theorem er_fittedLL (ha : EvD K ta σ H (.list (h.map .int))) (hb : EvD K tb σ H (.list (b.map .int))) (hs : b ≠ [] ∧ h.length ≤ 90000 ∧ b.length ≤ 90000) (hf : ¬ ((tightM h b).1.length ≤ 400 ∧ (tightM h b).2.length ≤ 200)) (k : ∀ H2, Ex H H2 → E (.ref C_TooLong) none H2) : EvR (tCall (sp_fitted K C_TooLong) [] E (tCons ta (tCons tb tNil))) σ H :=
  er_callX ((true, h), true, b) (eds_cons ha (eds_cons hb eds_nil)) hs (if_neg hf) k
theorem er_fittedLT (ha : EvD K ta σ H (.list (h.map .int))) (hb : EvD K tb σ H (.tuple (b.map .int))) (hs : b ≠ [] ∧ h.length ≤ 90000 ∧ b.length ≤ 90000) (hf : ¬ ((tightM h b).1.length ≤ 400 ∧ (tightM h b).2.length ≤ 200)) (k : ∀ H2, Ex H H2 → E (.ref C_TooLong) none H2) : EvR (tCall (sp_fitted K C_TooLong) [] E (tCons ta (tCons tb tNil))) σ H :=
  er_callX ((true, h), false, b) (eds_cons ha (eds_cons hb eds_nil)) hs (if_neg hf) k
/-- return fitted(..), in a def that raises -/
theorem sd_fitLL {D : Ends} {Q : VK} {H0 : Hp} (ha : EvD K ta σ H (.list (h.map .int))) (hb : EvD K tb σ H (.list (b.map .int))) (hs : b ≠ [] ∧ h.length ≤ 90000 ∧ b.length ≤ 90000) (x : Ex H0 H) (q : Out K H0 D.rt E (fitM C_TooLong h b)) : tRet (tCall (sp_fitted K C_TooLong) [] E (tCons ta (tCons tb tNil))) D σ H := by
  by_cases hf : (tightM h b).1.length ≤ 400 ∧ (tightM h b).2.length ≤ 200
  · exact sd_ret (K := K) (ed_fittedLL ha hb hs hf) fun v H1 x1 hv => q.ok (if_pos hf) v H1 (x.trans x1) hv
  · exact sx_ret (er_fittedLL ha hb hs hf fun H2 x2 => q.er (if_neg hf) H2 (x.trans x2))
theorem sd_fitLT {D : Ends} {Q : VK} {H0 : Hp} (ha : EvD K ta σ H (.list (h.map .int))) (hb : EvD K tb σ H (.tuple (b.map .int))) (hs : b ≠ [] ∧ h.length ≤ 90000 ∧ b.length ≤ 90000) (x : Ex H0 H) (q : Out K H0 D.rt E (fitM C_TooLong h b)) : tRet (tCall (sp_fitted K C_TooLong) [] E (tCons ta (tCons tb tNil))) D σ H := by
  by_cases hf : (tightM h b).1.length ≤ 400 ∧ (tightM h b).2.length ≤ 200
  · exact sd_ret (K := K) (ed_fittedLT ha hb hs hf) fun v H1 x1 hv => q.ok (if_pos hf) v H1 (x.trans x1) hv
  · exact sx_ret (er_fittedLT ha hb hs hf fun H2 x2 => q.er (if_neg hf) H2 (x.trans x2))
end
local macro_rules | `(tactic| walk_at "ed") => `(tactic| ((with_reducible apply ed_fittedLL) <;> walk_at "ed"))
local macro_rules | `(tactic| walk_at "ed") => `(tactic| ((with_reducible apply ed_fittedLT) <;> walk_at "ed"))
theorem can_fitted {C_TooLong : Addr} (F : Dfn K mg "fitted" s_fitted ["head", "bar"]) (bt : Bt mg) (c_tight : Can P w K mg base CX0 2 "tight" (sp_tight K)) (g_MOST_BAR : ∃ t, mg "MOST_BAR" = some (.int 200 t)) (g_MOST_HEAD : ∃ t, mg "MOST_HEAD" = some (.int 400 t)) (x_TooLong : ExcAt K mg "TooLong" C_TooLong) : Can P w K mg base (L2.CX P w) 3 "fitted" (sp_fitted K C_TooLong) := by
  obtain ⟨t_MOST_BAR, g_MOST_BAR⟩ := g_MOST_BAR
  obtain ⟨t_MOST_HEAD, g_MOST_HEAD⟩ := g_MOST_HEAD
  refine can_X F sc_fitted (fun g => rfl) (fun cdv A outer s H vs Q E f g hr hv hs q => ⟨_, ((pss_cons (ps_set (i := 2) sc_fitted.nd rfl (Or.inl rfl) (pc c_tight hr (by decide) (by rfl) (pa_cons (pe_callTy (call_tupleK (K := K) rfl) (by rfl) bt.tuple (by decide +kernel) (pa_cons (pv 0) pa_nil)) (pa_cons (pe_callTy (call_tupleK (K := K) rfl) (by rfl) bt.tuple (by decide +kernel) (pa_cons (pv 1) pa_nil)) pa_nil))))
  (pss_cons (ps_if (PW.pt (pw_or (pt_cmpR op_gt (pe_callB (call_lenK (K := K) rfl) (by rfl) bt.len (by decide +kernel) (pa_cons (pe_ix (ix_K (K := K) rfl) (pv 2) pe_int (fun _ _ => rfl)) pa_nil)) (pe_glob (v := .int 400) rfl g_MOST_HEAD ⟨_, rfl⟩) (nomark _)) (pw_or1 (pt_cmpR op_gt (pe_callB (call_lenK (K := K) rfl) (by rfl) bt.len (by decide +kernel) (pa_cons (pe_ix (ix_K (K := K) rfl) (pv 2) pe_int (fun _ _ => rfl)) pa_nil)) (pe_glob (v := .int 200) rfl g_MOST_BAR ⟨_, rfl⟩) (nomark _))))) (pss_one (px_raise x_TooLong rfl (takes_of rfl rfl rfl rfl) rfl)) pss_nil)
  (pss_one (ps_ret (pv 2)))))), ?_⟩)
  try dsimp only [L2.cxOf, L2.Cx.nox, L2.Cx.wish]
  obtain ⟨⟨t1, h⟩, t2, b⟩ := g
  dsimp only at hv hs q
  obtain ⟨nb, l1, l2⟩ := hs
  obtain ⟨v0, v1, rfl, h0, h1⟩ := dpa2 hv
  have sqT : ∀ {t : Bool} {l : List Int} {i : Nat} {v : V} {σ : L2.St} {H' : Hp}, σ[i]? = some (some v) → Dp K H' v (sq t l) → EvD K (tCB (rTupleOf K) (tCons (tVar i) tNil)) σ H' (.tuple (l.map .int)) := by
    intro t l i v σ H' e hd
    cases t with
    | true => exact ed_tupL (ed_var e hd)
    | false => exact ed_tupT (ed_var e hd)
  refine qd_asg (K := K) (ed_tight (sqT rfl h0) (sqT rfl h1) ⟨nb, l1, l2⟩) fun v2 H1 x1 h2 => ?_
  have h2' := h2
  unfold pul at h2
  refine q_when (EvT.to (et_or (et_tst (K := K) (ed_gt (ed_lenT (ed_ixT (ed_var rfl h2) ed_cint rfl)) ed_cint)) fun z => et_tst (K := K) (ed_gt (ed_lenT (ed_ixT (ed_var rfl h2) ed_cint rfl)) ed_cint)) (c := !decide ((tightM h b).1.length ≤ 400 ∧ (tightM h b).2.length ≤ 200)) ?_) (fun c H2 x2 => ?_) (fun c H2 x2 => ?_)
  · simp only [List.length_map]
    rw [Bool.eq_iff_iff, Bool.or_eq_true, decide_eq_true_eq, decide_eq_true_eq, Bool.not_eq_true', decide_eq_false_iff_not]
    omega
  · exact q.er (if_neg (by simpa only [Bool.not_eq_true', decide_eq_false_iff_not] using c)) _ (x1.trans x2)
  · refine sd_ret (K := K) (ed_var rfl (dp_ex x2 h2')) fun v H3 x3 hv => q.ok (if_pos (by simpa only [Bool.not_eq_false', decide_eq_true_eq] using c)) v H3 ((x1.trans x2).trans x3) hv
/-! ### _law_rules -/
abbrev s_law_rules : Stmt := topS 27
theorem sc_law_rules : FnScope ["_law_script", "_law_cell_here"] ["_law_script"] (defScope s_law_rules) := ⟨rfl, rfl, rfl, by decide +kernel, rfl, by decide +kernel, by decide +kernel⟩
def rulesN (ns : List Int) : Nat := (cellM ns 0 % 13).toNat
def rulesL (ns : List Int) : List Rul := ((ns.drop 4).take (rulesN ns)).map ruleOf
theorem rulesL_len (ns : List Int) : (rulesL ns).length ≤ 12 := by
  have h1 := Int.emod_nonneg (cellM ns 0) (show (13 : Int) ≠ 0 by decide)
  have h2 := Int.emod_lt_of_pos (cellM ns 0) (show (0 : Int) < 13 by decide)
  unfold rulesL
  rw [List.length_map, List.length_take]
  unfold rulesN
  omega
theorem rulesL_ok {ns : List Int} {r : Rul} (h : r ∈ rulesL ns) : r.Ok ∧ r.head.length ≤ 126 ∧ r.bar.length ∣ 12 := by
  obtain ⟨c, _, e⟩ := List.mem_map.mp h
  rw [← e]
  exact ruleOf_ok c
def sp_law_rules (K : PySem.W.Frag) : Sp := SpD K (fun ns : List Int => [.list (ns.map .int)]) (fun ns => ns.length ≤ 63) (fun ns => .list ((rulesL ns).map Rul.d))
theorem ed_law_rules {σ : L2.St} {H : Hp} {ta : TE} {E : XK} {ns : List Int} (ha : EvD K ta σ H (.list (ns.map .int))) (hl : ns.length ≤ 63) : EvD K (tCall (sp_law_rules K) [] E (tCons ta tNil)) σ H (.list ((rulesL ns).map Rul.d)) :=
  ed_callD ns (eds_cons ha eds_nil) hl
theorem noL_rule (r : Rul) : noL r.d = true := by
  obtain ⟨s, p, t⟩ := r
  cases t <;> rfl
local macro_rules | `(tactic| walk_at "ed") => `(tactic| ((with_reducible apply ed_law_rules) <;> walk_at "ed"))
theorem can_law_rules (F : Dfn K mg "_law_rules" s_law_rules ["_law_script"]) (bt : Bt mg) (c_law_rule : Can P w K mg base CX0 2 "_law_rule" (sp_law_rule K)) (c_law_cell : Can P w K mg base CX0 1 "_law_cell" (sp_law_cell K)) : Can P w K mg base CX0 3 "_law_rules" (sp_law_rules K) := by
  refine can_D F sc_law_rules (fun g => rfl) (fun cdv A outer s H vs Q E f g hr hv hs q => ⟨_, ((pss_one (ps_ret (pe_lc (own := [("_law_cell_here", 1)]) rfl sc_law_rules.nd (pi_seqK (K := K) rfl (pe_slice (sl_K (K := K) rfl) (pv 0) (po_some pe_int) (po_some (pe_op (op_addK (K := K) rfl) pe_int (pe_op op_mod (pc c_law_cell hr (by decide) (by rfl) (pa_cons (pv 0) (pa_cons pe_int pa_nil))) pe_int))))) (blkOk_by (N := ["_law_script", "_law_cell_here"]) (sc := defScope s_law_rules) (by decide +kernel)) (fun _ _ _ _ _ => (pg_name (i := 1) sc_law_rules.nd rfl (Or.inl rfl))) (fun _ _ _ _ _ => pts_nil) (fun _ _ _ _ _ => (pc c_law_rule hr (by decide) (by rfl) (pa_cons (pv 1) pa_nil))))))), ?_⟩)
  try dsimp only [L2.cxOf, L2.Cx.nox, L2.Cx.wish]
  obtain ⟨v0, rfl, h0⟩ := dpa1 hv
  have h1 := Int.emod_nonneg (cellM g 0) (show (13 : Int) ≠ 0 by decide)
  have h2 := Int.emod_lt_of_pos (cellM g 0) (show (0 : Int) < 13 by decide)
  have t0 : (0 : Int).toNat = 0 := rfl
  refine sd_ret (K := K) (EvD.to (EvN.toD (en_lcM (ns := (g.drop 4).take (rulesN g)) (fun c => (ruleOf c).d) (EvI.to (EvI.ol (ei_list (K := K) (EvD.to (ed_slL (ed_var rfl h0) (eo_int (K := K) (i := ((4 : Nat) : Int)) ed_cint) (eo_int (K := K) (i := ((4 + rulesN g : Nat) : Int)) (EvD.to (ed_add ed_cint (ed_mod (ed_law_cell (ed_var rfl h0) ed_cint (by decide)) ed_cint (by decide))) (by rw [t0]; unfold rulesN; congr 1; omega)))) (show _ = PyData.list (((g.drop 4).take (rulesN g)).map .int) by rw [cutD_ft _ _ _ (by omega), Nat.add_sub_cancel_left, List.map_take, List.map_drop])))) rfl fun _ _ => rfl) (by rw [List.length_take, List.length_drop]; have : g.length ≤ 63 := hs; omega) (fun k => noL_rule _) (fun _ => rfl) (fun k H1 hk x1 => ed_law_rule (ed_var rfl (.int k))))) (by unfold rulesL; rw [List.map_map]; rfl)) fun v H3 x3 hv => q v H3 x3 hv
/-! ### joined -/
abbrev s_joined : Stmt := topS 17
theorem sc_joined : FnScope ["one", "two", "choose", "head", "size", "found", "day"] ["one", "two", "choose"] (defScope s_joined) := ⟨rfl, rfl, rfl, by decide +kernel, rfl, by decide +kernel, by decide +kernel⟩
def joinR (CT : Addr) (P S : List Int × List Int) (g : Bool → Bool → Bool) : Except Addr PD := fitM CT ((joinL P S g).take (joinH P S)) ((joinL P S g).drop (joinH P S))
def sp_joined (K : PySem.W.Frag) (C_TooLong : Addr) : Sp := SpJ K 3 (fun (g : (List Int × List Int) × (List Int × List Int) × (Bool → Bool → Bool)) vs H => ∃ a b v, vs = [a, b, v] ∧ Dp K H a (pul g.1.1 g.1.2) ∧ Dp K H b (pul g.2.1.1 g.2.1.2) ∧ LamB H g.2.2 v ∧
  g.1.2 ≠ [] ∧ g.2.1.2 ≠ [] ∧ g.1.1.length ≤ 400 ∧ g.2.1.1.length ≤ 400 ∧ g.1.2.length ≤ 200 ∧ g.2.1.2.length ≤ 200) (fun g => joinR C_TooLong g.1 g.2.1 g.2.2)
theorem can_joined {C_TooLong : Addr} (F : Dfn K mg "joined" s_joined ["one", "two", "choose"]) (bt : Bt mg) (c_multiple : Can P w K mg base CX0 2 "multiple" (sp_multiple K)) (c_fitted : Can P w K mg base (L2.CX P w) 3 "fitted" (sp_fitted K C_TooLong)) (c_has : Can P w K mg base CX0 1 "has" (sp_has K)) : Can P w K mg base (L2.CX P w) 4 "joined" (sp_joined K C_TooLong) := by
  refine can_J F sc_joined (fun g => rfl) (fun cdv A outer s H vs Q E f g hr hv hs q => ⟨_, ((pss_cons (ps_set (i := 3) sc_joined.nd rfl (Or.inl rfl) (pe_callB (call_max2 rfl) (by rfl) bt.max (by decide +kernel) (pa_cons (pe_callB (call_lenK (K := K) rfl) (by rfl) bt.len (by decide +kernel) (pa_cons (pe_ix (ix_K (K := K) rfl) (pv 0) pe_int (fun _ _ => rfl)) pa_nil)) (pa_cons (pe_callB (call_lenK (K := K) rfl) (by rfl) bt.len (by decide +kernel) (pa_cons (pe_ix (ix_K (K := K) rfl) (pv 1) pe_int (fun _ _ => rfl)) pa_nil)) pa_nil))))
  (pss_cons (ps_set (i := 4) sc_joined.nd rfl (Or.inl rfl) (pc c_multiple hr (by decide) (by rfl) (pa_cons (pe_callB (call_lenK (K := K) rfl) (by rfl) bt.len (by decide +kernel) (pa_cons (pe_ix (ix_K (K := K) rfl) (pv 0) pe_int (fun _ _ => rfl)) pa_nil)) (pa_cons (pe_callB (call_lenK (K := K) rfl) (by rfl) bt.len (by decide +kernel) (pa_cons (pe_ix (ix_K (K := K) rfl) (pv 1) pe_int (fun _ _ => rfl)) pa_nil)) pa_nil))))
  (pss_cons (ps_setLc (i := 5) (own := [("day", 6)]) rfl sc_joined.nd rfl rfl (sw_true rfl rfl rfl (by decide +kernel)) (pi_range1 (by rfl) bt.range (pa_cons (pe_op (op_addK (K := K) rfl) (pv 3) (pv 4)) pa_nil)) (blkOk_by (N := ["one", "two", "choose", "head", "size", "found", "day"]) (sc := defScope s_joined) (by decide +kernel)) (fun _ _ _ _ _ => (pg_name (i := 6) sc_joined.nd rfl (Or.inl rfl))) (fun _ _ _ _ _ => pts_nil) (fun _ _ _ _ _ => (pe_callTy call_intX (by rfl) bt.int (by decide +kernel) (pa_cons (pe_lamC (i := 2) hr rfl (by first | exact Or.inl rfl | exact Or.inr (Or.inl rfl) | exact Or.inr (Or.inr rfl)) (pa_cons (pc c_has hr (by decide) (by rfl) (pa_cons (pv 0) (pa_cons (pv 6) pa_nil))) (pa_cons (pc c_has hr (by decide) (by rfl) (pa_cons (pv 1) (pa_cons (pv 6) pa_nil))) pa_nil))) pa_nil))))
  (pss_one (ps_ret (pcX c_fitted hr (by decide) rfl (passes_call (takes_of rfl rfl rfl rfl) (fun _ _ _ _ h => h)) (pa_cons (pe_slice (sl_K (K := K) rfl) (pv 5) po_none (po_some (pv 3))) (pa_cons (pe_slice (sl_K (K := K) rfl) (pv 5) (po_some (pv 3)) po_none) pa_nil))))))))), ?_⟩)
  try dsimp only [L2.cxOf, L2.Cx.nox, L2.Cx.wish]
  obtain ⟨P, S, gg⟩ := g
  obtain ⟨v0, v1, v2, rfl, h0, h1, hl, nb, nc, l1, l2, l3, l4⟩ := hs
  dsimp only at h0 h1 hl nb nc l1 l2 l3 l4 q
  have h0' := h0
  have h1' := h1
  unfold pul at h0 h1
  have b0 := List.length_pos_iff.mpr nb
  have c0 := List.length_pos_iff.mpr nc
  have L0 : 0 < Nat.lcm P.2.length S.2.length := Nat.lcm_pos b0 c0
  have lc := lcm_le2 b0 c0
  have lm : P.2.length * S.2.length ≤ 200 * 200 := Nat.mul_le_mul l3 l4
  have hH : joinH P S = max P.1.length S.1.length := rfl
  refine qd_asgI (K := K) (j := (joinH P S : Int)) (EvD.to (ed_max2 (ed_lenT (ed_ixT (ed_var rfl h0) ed_cint rfl)) (ed_lenT (ed_ixT (ed_var rfl h1) ed_cint rfl))) (by rw [List.length_map, List.length_map, hH]; congr 1; omega)) fun H1 x1 => ?_
  refine qd_asgI (K := K) (j := (Nat.lcm P.2.length S.2.length : Int)) (EvD.to (ed_multiple (a := (P.2.length : Int)) (b := (S.2.length : Int)) (EvD.to (ed_lenT (ed_ixT (ed_var rfl (dp_ex x1 h0)) ed_cint rfl)) (by rw [List.length_map])) (EvD.to (ed_lenT (ed_ixT (ed_var rfl (dp_ex x1 h1)) ed_cint rfl)) (by rw [List.length_map])) (by omega) (by omega) (by omega) (by omega)) rfl) fun H2 x2 => ?_
  have x12 := x1.trans x2
  refine qd_asgN (K := K) (ds := (joinL P S gg).map .int) (EvN.to (en_lc1 (fun d => .int (bI (gg (vl P.1 P.2 d == 1) (vl S.1 S.2 d == 1)))) (EvJ.i (ej_rng1 (K := K) (j := ((joinH P S + Nat.lcm P.2.length S.2.length : Nat) : Int)) (EvDs.to (eds_cons (ed_add (ed_var rfl (.int (joinH P S : Int))) (ed_var rfl (.int (Nat.lcm P.2.length S.2.length : Int)))) eds_nil) (by simp)) ⟨by omega, by omega⟩)) (by omega) (fun _ _ => rfl) (fun _ => rfl) (fun i x H8 hi x8 hx => ?_)) ?_) fun p H3 xs np x3 ep hx => ?_
  · have ex := dp_int hx
    subst ex
    exact ed_intB' (ed_lamC (v := v2) rfl (hl.ex (x12.trans x8)) (ed_has (ed_var rfl (dp_ex (x12.trans x8) h0')) (ed_var rfl (.int (i : Int))) nb (by omega)) (ed_has (ed_var rfl (dp_ex (x12.trans x8) h1')) (ed_var rfl (.int (i : Int))) nc (by omega)))
  · unfold joinL
    rw [List.map_map]
    rfl
  · have jl := joinL_len (P := P) (S := S) (g := gg)
    have dl : Dp K H3 (.ref p) (.list ((joinL P S gg).map .int)) := .lst (sq_of ep) hx
    refine sd_retO ((true, (joinL P S gg).take (joinH P S)), true, (joinL P S gg).drop (joinH P S)) (eds_cons (EvD.to (ed_slL (ed_var rfl dl) eo_none (eo_int (K := K) (ed_var rfl (.int (joinH P S : Int))))) (by rw [cutD_to, ← List.map_take]; rfl)) (eds_cons (EvD.to (ed_slL (ed_var rfl dl) (eo_int (K := K) (ed_var rfl (.int (joinH P S : Int)))) eo_none) (by rw [cutD_from, ← List.map_drop]; rfl)) eds_nil)) ⟨?_, by show ((joinL P S gg).take (joinH P S)).length ≤ _; rw [List.length_take]; omega, by show ((joinL P S gg).drop (joinH P S)).length ≤ _; rw [List.length_drop]; omega⟩ (x12.trans x3) q rfl
    intro e
    have := congrArg List.length (show (joinL P S gg).drop (joinH P S) = [] from e)
    rw [List.length_drop, List.length_nil] at this
    omega
/-! ### either -/
abbrev s_either : Stmt := topS 18
theorem sc_either : FnScope ["one", "other"] ["one", "other"] (defScope s_either) := ⟨rfl, rfl, rfl, by decide +kernel, rfl, by decide +kernel, by decide +kernel⟩
def lam_either : Arguments × Expr × Scope := lamOf s_either
theorem lg_either : LamG lam_either.1 lam_either.2.1 lam_either.2.2 gF_either := by
  refine ⟨⟨rfl, rfl, rfl, by decide +kernel, rfl, by decide +kernel, by decide +kernel⟩, fun _ _ _ _ _ _ => rfl, fun P w K mg base q f cd A outer s H E => ⟨_, (pe_or (pv 0) (pe_one (pv 1))), fun x y G Q hq => ?_⟩⟩
  cases x
  · exact ⟨_, rfl, _, rfl, _, rfl, hq⟩
  · exact ⟨_, rfl, _, rfl, hq⟩
def sp_either (K : PySem.W.Frag) (C_TooLong : Addr) : Sp := SpT (SpX K (fun g : (List Int × List Int) × List Int × List Int => [pul g.1.1 g.1.2, pul g.2.1 g.2.2]) (fun g => g.1.2 ≠ [] ∧ g.2.2 ≠ [] ∧ g.1.1.length ≤ 400 ∧ g.2.1.length ≤ 400 ∧ g.1.2.length ≤ 200 ∧ g.2.2.length ≤ 200) (fun g => joinR C_TooLong g.1 g.2 gF_either))
theorem ep_either {σ : L2.St} {H : Hp} {ta tb : TE} {E : XK} {f f' : Nat → Int} {n m n' m' : Nat} {C_TooLong : Addr} (ht : LamX.Tabs Evn.Tbs.T H) (ha : EvP K ta σ H f n m) (hb : EvP K tb σ H f' n' m') (h1 : max n n' ≤ 400) (h2 : m * m' ≤ 200) (h3 : m ≤ 200) (h4 : m' ≤ 200) : EvP K (tCall (sp_either K C_TooLong) [] E (tCons ta (tCons tb tNil))) σ H (joinF gF_either f f') (max n n') (m * m') := by
  obtain ⟨P, p, ha⟩ := ha
  obtain ⟨S, s, hb⟩ := hb
  have pf := join_win gF_either p s
  have q1 := pf.l1
  have q2 := pf.l2
  have p1 := p.l1
  have s1 := s.l1
  have p2 := p.l2
  have s2 := s.l2
  exact EvP.of (ed_callT (P, S) ht (eds_cons ha (eds_cons hb eds_nil)) ⟨p.ne, s.ne, show P.1.length ≤ 400 by omega, show S.1.length ≤ 400 by omega, show P.2.length ≤ 200 by omega, show S.2.length ≤ 200 by omega⟩ (if_pos ⟨Nat.le_trans q1 h1, Nat.le_trans q2 h2⟩)) pf
theorem eq_either {σ : L2.St} {H : Hp} {ta tb : TE} {E : XK} {f f' : Nat → Int} {n n' M : Nat} {C_TooLong : Addr} (ht : LamX.Tabs Evn.Tbs.T H) (ha : EvQ K ta σ H f n M) (hb : EvQ K tb σ H f' n' M) (h1 : max n n' ≤ 400) (h2 : M ≤ 200) : EvQ K (tCall (sp_either K C_TooLong) [] E (tCons ta (tCons tb tNil))) σ H (joinF gF_either f f') (max n n') M := by
  obtain ⟨P, p, dp, ha⟩ := ha
  obtain ⟨S, s, ds, hb⟩ := hb
  have pf := join_win gF_either p s
  have q1 := pf.l1
  have M0 : 0 < M := Nat.lt_of_lt_of_le p.pos p.l2
  have dv := Nat.dvd_trans (join_dvd gF_either p.ne s.ne) (Nat.lcm_dvd dp ds)
  have q2 := Nat.le_of_dvd M0 dv
  have p1 := p.l1
  have s1 := s.l1
  have p2 := p.l2
  have s2 := s.l2
  exact ⟨_, ⟨pf.t, pf.b1, pf.b2, pf.v, q1, q2⟩, dv, ed_callT (P, S) ht (eds_cons ha (eds_cons hb eds_nil)) ⟨p.ne, s.ne, show P.1.length ≤ 400 by omega, show S.1.length ≤ 400 by omega, show P.2.length ≤ 200 by omega, show S.2.length ≤ 200 by omega⟩ (if_pos ⟨Nat.le_trans q1 h1, Nat.le_trans q2 h2⟩)⟩
theorem can_either {C_TooLong : Addr} {C P_ : Addr} (F : DfnC K mg "either" s_either ["one", "other"] C) (tB : LamX.TabB base mg C P_) (tM : (P_, ((("either" : Str) ++ ".<locals>.") ++ "<lambda>" : Str)) ∈ Evn.Tbs.T) (tU : ∀ p ∈ Evn.Tbs.T, p.1 = P_ → p.2 = ((("either" : Str) ++ ".<locals>.") ++ "<lambda>" : Str)) (bt : Bt mg) (c_joined : Can P w K mg base (L2.CX P w) 4 "joined" (sp_joined K C_TooLong)) : Can P w K mg base (L2.CX P w) 5 "either" (sp_either K C_TooLong) := by
  refine can_L F sc_either (fun g => rfl) (fun A outer s H vs Q E f g hr ht hv hs q => ⟨_, ((pss_one (ps_ret (pcX c_joined hr (by decide) rfl (passes_call (takes_of rfl rfl rfl rfl) (fun _ _ _ _ h => h)) (pa_cons (pv 0) (pa_cons (pv 1) (pa_cons (pe_lam tB rfl tM tU (by decide +kernel)) pa_nil))))))), ?_⟩)
  try dsimp only [L2.cxOf, L2.Cx.nox, L2.Cx.wish]
  obtain ⟨P, S⟩ := g
  obtain ⟨v0, v1, rfl, h0, h1⟩ := dpa2 hv
  refine sd_retJ (P, S, gF_either) (EvA.to (ea_cons (evv_d (ed_var (i := 0) rfl h0)) (fun x z => dp_ex x z) (ea_cons (evv_d (ed_var (i := 1) rfl h1)) (fun x z => dp_ex x z) (ea_cons (ev_lam ht lg_either) (fun x z => LamB.ex x z) ea_nil))) fun vs H1 x1 ⟨a, r, e1, d1, b, r2, e2, d2, c, r3, e3, d3, e4⟩ => ?_) (Ex.refl H) q rfl
  subst e4 e3 e2 e1
  exact ⟨rfl, a, b, c, rfl, d1, d2, d3, hs⟩
/-! ### from_rules -/
abbrev s_from_rules : Stmt := topS 22
theorem sc_from_rules : FnScope ["rules", "at", "rule", "found", "head", "bar"] ["rules"] (defScope s_from_rules) := ⟨rfl, rfl, rfl, by decide +kernel, rfl, by decide +kernel, by decide +kernel⟩
def rulesR (C : Addr) (rs : List Rul) : Except Addr PD := match rulesM C rs ([], [0]) with
  | .ok T => .ok (pul T.1 T.2)
  | .error C => .error C
/-- what is no list of rules, and the place that is told of it -/
def BadP (d p : PD) : Prop := (isLst d = false ∧ p = .none) ∨ ∃ xs, d = .list xs ∧ ((12 < xs.length ∧ p = .none) ∨ ∃ i, xs.length ≤ 12 ∧ i < xs.length ∧ (∀ j, j < i → ruleOk (xs.getD j .none) = true) ∧ ruleOk (xs.getD i .none) = false ∧ p = .int (i : Nat))
def frSide (g : PD × PD × Option (List Rul)) : Prop := match g.2.2 with
  | some rs => g.1 = .list (rs.map Rul.d) ∧ rs.length ≤ 12 ∧ ∀ r ∈ rs, r.Ok
  | none => BadP g.1 g.2.1
def frRes (CB CT : Addr) (g : PD × PD × Option (List Rul)) : RI := match g.2.2 with
  | some rs => .of (rulesR CT rs)
  | none => .pl CB g.2.1
def sp_from_rules (K : PySem.W.Frag) (C_BadRule C_TooLong : Addr) : Sp := SpT (SpI K (fun g : PD × PD × Option (List Rul) => [g.1]) frSide (frRes C_BadRule C_TooLong))
theorem can_from_rules {C_BadRule C_TooLong : Addr} (F : Dfn K mg "from_rules" s_from_rules ["rules"]) (bt : Bt mg) (c_never : Can P w K mg base CX0 1 "never" (sp_never K)) (c_from_rule : Can P w K mg base CX0 1 "from_rule" (sp_from_rule K)) (c_either : Can P w K mg base (L2.CX P w) 5 "either" (sp_either K C_TooLong)) (c_is_rule : Can P w K mg base CX0 2 "is_rule" (sp_is_rule K)) (c_fitted : Can P w K mg base (L2.CX P w) 3 "fitted" (sp_fitted K C_TooLong)) (x_BadRule : IniAt P w K mg base "BadRule" C_BadRule) : Can P w K mg base (L2.CX P w) 6 "from_rules" (sp_from_rules K C_BadRule C_TooLong) := by
  refine can_TI F sc_from_rules (fun g => rfl) (fun cdv A outer s H vs Q E f g hr ht hv hs q => ⟨_, ((pss_cons (ps_if (PW.pt (pw_or (pt_not (pt_truthK (K := K) rfl (pe_callB (call_isiK' (K := K) rfl) (by rfl) bt.isinstance (by decide +kernel) (pa_cons (pv 0) (pa_cons (pe_bltn (v := .ty "list") (by rfl) bt.list (by decide +kernel) rfl) pa_nil))) (fun _ => rfl))) (pw_or1 (pt_cmpR op_gt (pe_callB (call_lenK (K := K) rfl) (by rfl) bt.len (by decide +kernel) (pa_cons (pv 0) pa_nil)) pe_int (nomark _))))) (pss_one (px_raiseI x_BadRule rfl (takes_of rfl rfl rfl rfl) hr (by decide) rfl pe_non)) pss_nil)
  (pss_cons (ps_for (passes_of rfl) rfl (pi_enumX (K := K) rfl (by rfl) bt.enumerate (pa_cons (pv 0) pa_nil)) (pg_tupK (K := K) (n := 2) rfl rfl (pgs_cons (pg_name (i := 1) sc_from_rules.nd rfl (Or.inl rfl)) (pgs_cons (pg_name (i := 2) sc_from_rules.nd rfl (Or.inl rfl)) pgs_nil))) (pss_one (ps_if (pt_not (pt_truthK (K := K) rfl (pc c_is_rule hr (by decide) (by rfl) (pa_cons (pv 2) pa_nil)) (fun _ => rfl))) (pss_one (px_raiseI x_BadRule rfl (takes_of rfl rfl rfl rfl) hr (by decide) rfl (pv 1))) pss_nil)))
  (pss_cons (ps_set (i := 3) sc_from_rules.nd rfl (Or.inl rfl) (pc0 c_never hr (by decide) (by rfl)))
  (pss_cons (ps_for (passes_of rfl) rfl (pi_seqK (K := K) rfl (pv 0)) (pg_name (i := 2) sc_from_rules.nd rfl (Or.inl rfl)) (pss_cons (ps_asg (pc c_from_rule hr (by decide) (by rfl) (pa_cons (pv 2) pa_nil)) (pg_tupK (K := K) (n := 2) rfl rfl (pgs_cons (pg_name (i := 4) sc_from_rules.nd rfl (Or.inl rfl)) (pgs_cons (pg_name (i := 5) sc_from_rules.nd rfl (Or.inl rfl)) pgs_nil))))
  (pss_one (ps_set (i := 3) sc_from_rules.nd rfl (Or.inl rfl) (pcX c_either hr (by decide) rfl (passes_call (takes_of rfl rfl rfl rfl) (fun _ _ _ _ h => h)) (pa_cons (pv 3) (pa_cons (pcX c_fitted hr (by decide) rfl (passes_call (takes_of rfl rfl rfl rfl) (fun _ _ _ _ h => h)) (pa_cons (pv 4) (pa_cons (pv 5) pa_nil))) pa_nil)))))))
  (pss_one (ps_ret (pv 3)))))))), ?_⟩)
  try dsimp only [L2.cxOf, L2.Cx.nox, L2.Cx.wish]
  obtain ⟨d, p, w⟩ := g
  obtain ⟨v0, rfl, h0⟩ := dpa1 hv
  cases w with
  | none =>
    have hs' : BadP d p := hs
    have q' : ∀ H' dd v, Ex H H' → H' dd = some (.xd [("at", v)]) → Dp K H' v p → E (.ref C_BadRule) (some dd) H' := q
    have h0' : Dp K H v0 d := h0
    have rais : ∀ {te : TE} {σ : L2.St} {H1 : Hp}, Ex H H1 → EvD K te σ H1 p → tMkO C_BadRule (spInit K) [] (tCons te tNil) σ H1 (fun cls dd H' => E cls dd H') := fun x ha => rd_raiseI x_BadRule.o x_BadRule.n ha fun H' dd v x2 hd hp => q' H' dd v (x.trans x2) hd hp
    rcases hs' with ⟨hl, rfl⟩ | ⟨xs, rfl, hh⟩
    · refine q_when (EvT.to (et_or (b := true) (et_not (et_tru (K := K) (ed_isLst (ed_var rfl h0')))) fun z => ?_) (c := true) ?_) (fun _ H1 x1 => rais x1 ed_cnon) (fun c => by cases c)
      · have z' : (!isLst d) = false := z
        rw [hl] at z'
        cases z'
      · rw [Bool.or_true]
    · rcases hh with ⟨h12, rfl⟩ | ⟨i, h12, hi, hgood, hbad, rfl⟩
      · refine q_when (EvT.to (et_or (et_not (et_tru (K := K) (ed_isLst (ed_var rfl h0')))) fun _ => et_tst (K := K) (ed_gt (ed_lenL (ed_var rfl h0')) ed_cint)) (c := true) ?_) (fun _ H1 x1 => rais x1 ed_cnon) (fun c => by cases c)
        show (false || decide _) = true
        rw [Bool.false_or, decide_eq_true_eq]
        omega
      · refine q_when (EvT.to (et_or (et_not (et_tru (K := K) (ed_isLst (ed_var rfl h0')))) fun _ => et_tst (K := K) (ed_gt (ed_lenL (ed_var rfl h0')) ed_cint)) (c := false) ?_) (fun c => by cases c) (fun _ H1 x1 => ?_)
        · show (false || decide _) = false
          rw [Bool.false_or, decide_eq_false_iff_not]
          omega
        have h01 := dp_ex x1 h0'
        refine q_forI (K := K) (ei_enum (ed_var rfl h01)) (fun Hb j σ' H' => ∃ y z, σ' = [some v0, y, z, none, none, none] ∧ Ex H1 Hb ∧ Ex Hb H' ∧ j ≤ i) (fun H5 x5 => ⟨none, none, rfl, x5, Ex.refl _, Nat.zero_le _⟩) (fun Hb j σ' H' ⟨_, _, _, _, x, _⟩ => x) (fun Hb j x σ' H' Hy hj xb ⟨y, z, e, _, x7, le⟩ x8 hx => ?_) (fun Hb σ' H' xb ⟨y, z, e, _, x7, le⟩ => ?_)
        · subst e
          obtain ⟨a, b, ha, hb, t⟩ := tg_two (K := K) (σ := [some v0, y, z, none, none, none]) (i := 1) (j := 2) hx
          refine t _ ?_
          show tIfS _ _ tNext _ _ _
          refine s_when (et_not (et_tru (K := K) (ed_is_rule (ed_var rfl hb)))) (fun c H9 x9 => ?_) (fun c H9 x9 => ⟨_, _, rfl, xb, (x7.trans x8).trans x9, ?_⟩)
          · have c' : (!ruleOk (xs.getD j .none)) = true := c
            have ej : j = i := by
              rcases Nat.lt_or_ge j i with h | h
              · rw [hgood j h] at c'
                cases c'
              · omega
            subst ej
            exact rais ((x1.trans xb).trans ((x7.trans x8).trans x9)) (ed_var rfl (dp_ex x9 ha))
          · have c' : (!ruleOk (xs.getD j .none)) = false := c
            have ne : j ≠ i := fun e => by
              subst e
              rw [hbad] at c'
              cases c'
            omega
        · exfalso
          omega
  | some rs =>
    obtain ⟨rfl, hl, ok⟩ : d = .list (rs.map Rul.d) ∧ rs.length ≤ 12 ∧ ∀ r ∈ rs, r.Ok := hs
    have q : Out K H Q E (rulesR C_TooLong rs) := OutI.of q
    have h0 : Dp K H v0 (.list (rs.map Rul.d)) := h0
    have dl : (rs.map Rul.d).length = rs.length := List.length_map ..
    refine q_when (EvT.to (et_or (et_not (et_tru (K := K) (ed_isLst (ed_var rfl h0)))) fun _ => et_tst (K := K) (ed_gt (ed_lenL (ed_var rfl h0)) ed_cint)) (c := false) ?_) (fun c => by cases c) (fun _ H1 x1 => ?_)
    · show (false || decide _) = false
      rw [Bool.false_or, decide_eq_false_iff_not, dl]
      omega
    have h01 := dp_ex x1 h0
    refine q_forI (K := K) (ei_enum (ed_var rfl h01)) (fun Hb i σ' H' => ∃ y z, σ' = [some v0, y, z, none, none, none] ∧ Ex H1 Hb ∧ Ex Hb H') (fun H5 x5 => ⟨none, none, rfl, x5, Ex.refl _⟩) (fun Hb i σ' H' ⟨_, _, _, _, x⟩ => x) (fun Hb i x σ' H' Hy hi xb ⟨y, z, e, _, x7⟩ x8 hx => ?_) (fun Hb σ' H' xb ⟨y, z, e, _, x7⟩ => ?_)
    · subst e
      rw [dl] at hi
      obtain ⟨a, b, ha, hb, t⟩ := tg_two (K := K) (σ := [some v0, y, z, none, none, none]) (i := 1) (j := 2) hx
      refine t _ ?_
      have ed : (rs.map Rul.d).getD i .none = (rs[i]).d := by
        rw [List.getD_eq_getElem?_getD, List.getElem?_map, List.getElem?_eq_getElem hi]
        rfl
      rw [ed] at hb
      show tIfS _ _ tNext _ _ _
      exact s_when (EvT.to (et_not (et_tru (K := K) (ed_is_rule (ed_var rfl hb)))) (c := false) (by show (!tru (.bool (ruleOk _))) = false; rw [rule_ok (ok _ (List.getElem_mem hi))]; rfl)) (fun c => by cases c) (fun _ H9 x9 => ⟨_, _, rfl, xb, (x7.trans x8).trans x9⟩)
    · subst e
      have x2 := xb.trans x7
      refine qd_asg (K := K) (d := pul [] [0]) ed_never fun v3 H3 x3 h3 => ?_
      have h03 := dp_ex (x2.trans x3) h01
      have all := (x1.trans x2).trans x3
      refine q_forI (K := K) (EvI.ol (ei_list (K := K) (ed_var rfl h03))) (fun Hb i σ' H' => ∃ a b c e w F, σ' = [some v0, a, b, some w, c, e] ∧ Ex H3 Hb ∧ Ex Hb H' ∧ Dp K H' w (pul F.1 F.2) ∧ rulesM C_TooLong rs ([], [0]) = rulesM C_TooLong (rs.drop i) F ∧ F.2 ≠ [] ∧ F.1.length ≤ 400 ∧ F.2.length ≤ 200)
        (fun H5 x5 => ⟨_, _, _, _, _, ([], [0]), rfl, x5, Ex.refl _, dp_ex x5 h3, rfl, by simp, by decide, by decide⟩) (fun Hb i σ' H' ⟨_, _, _, _, _, _, _, _, x, _⟩ => x) (fun Hc i x σ' H4 Hy hi xc ⟨a, b, c, e, w, F, es, _, x9, hF, eM, f1, f2, f3⟩ x10 hx => ?_) (fun Hc σ' H4 xc ⟨a, b, c, e, w, F, es, _, x9, hF, eM, f1, f2, f3⟩ => ?_)
      · subst es
        rw [dl] at hi
        have ed : (rs.map Rul.d).getD i .none = (rs[i]).d := by
          rw [List.getD_eq_getElem?_getD, List.getElem?_map, List.getElem?_eq_getElem hi]
          rfl
        rw [ed] at hx
        have dr : rs.drop i = rs[i] :: rs.drop (i + 1) := List.drop_eq_getElem_cons hi
        rw [dr] at eM
        have o := ok _ (List.getElem_mem hi)
        generalize rs[i] = r at hx eM o
        have hl2 := Rul.head_len o
        refine gn ?_
        refine qd_two (K := K) (ed_from_rule (ed_var rfl hx) o) fun v4 v5 H5 x5 h4 h5 => ?_
        have hF5 := dp_ex (x10.trans x5) hF
        have xa := all.trans (xc.trans (x9.trans (x10.trans x5)))
        have side : r.bar ≠ [] ∧ r.head.length ≤ 90000 ∧ r.bar.length ≤ 90000 := ⟨r.bar_ne, by omega, by omega⟩
        by_cases c1 : (tightM r.head r.bar).1.length ≤ 400 ∧ (tightM r.head r.bar).2.length ≤ 200
        · have tn := (Rul.pf o).ne
          have side2 : F.2 ≠ [] ∧ (tightM r.head r.bar).2 ≠ [] ∧ F.1.length ≤ 400 ∧ (tightM r.head r.bar).1.length ≤ 400 ∧ F.2.length ≤ 200 ∧ (tightM r.head r.bar).2.length ≤ 200 := ⟨f1, tn, f2, c1.1, f3, c1.2⟩
          by_cases c2 : (stepJ F (tightM r.head r.bar)).1.length ≤ 400 ∧ (stepJ F (tightM r.head r.bar)).2.length ≤ 200
          · refine sd_asg (K := K) (d := pul (stepJ F (tightM r.head r.bar)).1 (stepJ F (tightM r.head r.bar)).2) (ed_callT (F, tightM r.head r.bar) (xa.tb ht) (eds_cons (ed_var rfl hF5) (eds_cons (ed_fittedLL (ed_var rfl h4) (ed_var rfl h5) side c1) eds_nil)) side2 (if_pos c2)) fun w2 H6 x6 hw2 => ?_
            refine ⟨_, _, _, _, w2, stepJ F (tightM r.head r.bar), rfl, xc, x9.trans (x10.trans (x5.trans x6)), hw2, ?_, ?_, c2.1, c2.2⟩
            · exact eM.trans (by rw [rulesM, if_pos c1, if_pos c2])
            · have jl := joinL_len (P := F) (S := tightM r.head r.bar) (g := gF_either)
              have l0 : 0 < Nat.lcm F.2.length (tightM r.head r.bar).2.length := Nat.lcm_pos (List.length_pos_iff.mpr f1) (List.length_pos_iff.mpr tn)
              refine tight_ne fun z => ?_
              have := congrArg List.length z
              rw [List.length_drop, List.length_nil] at this
              omega
          · refine sx_asg (er_callT (C := C_TooLong) (F, tightM r.head r.bar) (xa.tb ht) (eds_cons (ed_var rfl hF5) (eds_cons (ed_fittedLL (ed_var rfl h4) (ed_var rfl h5) side c1) eds_nil)) side2 (if_neg c2) fun H6 x6 => q.er (C := C_TooLong) ?_ H6 (xa.trans x6))
            unfold rulesR
            rw [eM.trans (by rw [rulesM, if_pos c1, if_neg c2] : _ = Except.error C_TooLong)]
        · refine sx_asg (er_call (er_cons2 (ed_var rfl hF5) (er_cons1 (er_fittedLL (ed_var rfl h4) (ed_var rfl h5) side c1 fun H6 x6 => q.er (C := C_TooLong) ?_ H6 (xa.trans x6)))))
          unfold rulesR
          rw [eM.trans (by rw [rulesM, if_neg c1] : _ = Except.error C_TooLong)]
      · subst es
        rw [dl, List.drop_length] at eM
        refine sd_ret (K := K) (ed_var rfl hF) fun v H6 x6 hv => q.ok (d := pul F.1 F.2) ?_ v H6 (all.trans (xc.trans (x9.trans x6))) hv
        unfold rulesR
        rw [eM]
        rfl
/-! ### _law_told -/
abbrev s_law_told : Stmt := topS 28
theorem sc_law_told : FnScope ["_law_rules_here", "_law_at", "_law_found", "e"] ["_law_rules_here"] (defScope s_law_told) := ⟨rfl, rfl, rfl, by decide +kernel, rfl, by decide +kernel, by decide +kernel⟩
def tdSide (g : PD × PD × Option (List Rul × Bool)) : Prop := match g.2.2 with
  | some (rs, b) => (g.1 = .list (rs.map Rul.d) ∧ rs.length ≤ 12 ∧ ∀ r ∈ rs, r.Ok) ∧ if b = true then ∀ C, ∃ T, rulesM C rs ([], [0]) = .ok T else ∀ C, rulesM C rs ([], [0]) = .error C
  | none => BadP g.1 g.2.1
def tdRes (g : PD × PD × Option (List Rul × Bool)) : PD := match g.2.2 with
  | some (_, true) => .tuple [.list [], .int (-1)]
  | some (_, false) => .tuple [.list [.bool false, .bool true, .bool true], .int (-1)]
  | none => .tuple [.list [.bool true, .bool true, .bool true], g.2.1]
def sp_law_told (K : PySem.W.Frag) : Sp := SpT (SpD K (fun g : PD × PD × Option (List Rul × Bool) => [g.1]) tdSide tdRes)
theorem can_law_told {C_BadRule C_PulseError C_TooLong : Addr} (F : Dfn K mg "_law_told" s_law_told ["_law_rules_here"]) (bt : Bt mg) (c_from_rules : Can P w K mg base (L2.CX P w) 6 "from_rules" (sp_from_rules K C_BadRule C_TooLong)) (x_BadRule : IniAt P w K mg base "BadRule" C_BadRule) (x_PulseError : ExcAt K mg "PulseError" C_PulseError) (x_TooLong : ExcAt K mg "TooLong" C_TooLong) (r_BadRule_BadRule : Rel K C_BadRule C_BadRule true) (r_BadRule_PulseError : Rel K C_BadRule C_PulseError true) (r_BadRule_TooLong : Rel K C_BadRule C_TooLong false) (r_TooLong_BadRule : Rel K C_TooLong C_BadRule false) (r_TooLong_PulseError : Rel K C_TooLong C_PulseError true) (r_TooLong_TooLong : Rel K C_TooLong C_TooLong true) : Can P w K mg base CX0 7 "_law_told" (sp_law_told K) := by
  refine can_TD F sc_law_told (fun g => rfl) (fun cdv A outer s H vs Q E f g hr ht hv hs q => ⟨_, ((pss_cons (ps_set (i := 1) sc_law_told.nd rfl (Or.inl rfl) (pe_un un_neg pe_int))
  (pss_cons (ps_set (i := 2) sc_law_told.nd rfl (Or.inl rfl) (pe_lst pa_nil))
  (pss_cons (ps_try_hds rfl rfl (fun W pn xe tk _ => (pss_one (ps_expr (pcS c_from_rules hr (by decide) rfl tk (pa_cons (pv 0) pa_nil))))) (hds_as (i := 3) rfl sc_law_told.nd rfl rfl ⟨rfl, by decide, .inl x_BadRule.g⟩ (fun a oe cls d pn hz hf => (pss_exG (p := fun S : Addr × Addr => cls = .ref S.1 ∧ d = some S.2 ∧ ExcC K S.1 ∧ XfC K S.1 ∧ PySem.W.findIn K (.ref S.1) "at" = some none) (fun S hp => (pss_cons (ps_set (i := 1) sc_law_told.nd rfl (Or.inl rfl) (pe_xfK (K := K) rfl hp.2.2.2.1 hp.2.2.2.2 hz hf (pv 3)))
  (pss_one (ps_set (i := 2) sc_law_told.nd rfl (Or.inl rfl) (pe_lst (pa_cons pe_bl (pa_cons (pe_callB (call_isD (K := K) rfl ⟨hp.1, hp.2.1, hp.2.2.1⟩ hz hf) (by rfl) bt.isinstance (by decide +kernel) (pa_cons (pv 3) (pa_cons (pe_bltn (v := .ty "ValueError") (by rfl) bt.ValueError (by decide +kernel) rfl) pa_nil))) (pa_cons (pe_callB (call_isD (K := K) rfl ⟨hp.1, hp.2.1, hp.2.2.1⟩ hz hf) (by rfl) bt.isinstance (by decide +kernel) (pa_cons (pv 3) (pa_cons (pe_glob (v := .ref C_PulseError) rfl x_PulseError.g rfl) pa_nil))) pa_nil)))))))))) (hds_as (i := 3) rfl sc_law_told.nd rfl rfl ⟨rfl, by decide, .inl x_TooLong.g⟩ (fun a oe cls d pn hz hf => (pss_exD (p := fun D0 => cls = .ref D0 ∧ d = none ∧ ExcC K D0) (fun D0 hp => (pss_one (ps_set (i := 2) sc_law_told.nd rfl (Or.inl rfl) (pe_lst (pa_cons pe_bl (pa_cons (pe_callB (call_isEK (K := K) rfl hp hz hf) (by rfl) bt.isinstance (by decide +kernel) (pa_cons (pv 3) (pa_cons (pe_bltn (v := .ty "ValueError") (by rfl) bt.ValueError (by decide +kernel) rfl) pa_nil))) (pa_cons (pe_callB (call_isEK (K := K) rfl hp hz hf) (by rfl) bt.isinstance (by decide +kernel) (pa_cons (pv 3) (pa_cons (pe_glob (v := .ref C_PulseError) rfl x_PulseError.g rfl) pa_nil))) pa_nil))))))))) (hds_nil rfl rfl takes0))))
  (pss_one (ps_ret (pe_tup (pa_cons (pv 2) (pa_cons (pv 1) pa_nil))))))))), ?_⟩)
  try dsimp only [L2.cxOf, L2.Cx.nox, L2.Cx.wish]
  obtain ⟨d, p, w⟩ := g
  obtain ⟨v0, rfl, h0⟩ := dpa1 hv
  have h0 : Dp K H v0 d := h0
  refine qd_asgI (K := K) (j := -1) (ed_neg ed_cint) fun H1 x1 => ?_
  refine qd_asg (K := K) (d := .list []) (ed_lst eds_nil (by simp)) fun v2 H2 x2 h2 => ?_
  have x12 := x1.trans x2
  have h02 := dp_ex x12 h0
  refine q_seq ?_
  cases w with
  | none =>
    refine sd_dropTI (K := K) (d, p, none) (x12.tb ht) (eds_cons (ed_var rfl h02) eds_nil) hs ?_
    intro H5 dd v x5 hd hp
    refine ⟨true, r_BadRule_BadRule.m, fun _ a na => ?_, fun z => by cases z⟩
    refine ⟨(C_BadRule, dd), ⟨rfl, rfl, x_BadRule.e, x_BadRule.xf, x_BadRule.n⟩, ?_⟩
    refine qd_asg (K := K) (d := p) (ed_xf hd hp rfl) fun v1 H6 x6 h6 => ?_
    refine sd_asg (K := K) (d := .list [.bool true, .bool true, .bool true]) (ed_lst (eds_cons ed_cbl (eds_cons (ed_isDV (x6 _ _ hd) rfl (kit_val x_BadRule.v)) (eds_cons (ed_isD (x6 _ _ hd) rfl r_BadRule_PulseError.i) eds_nil))) (by simp)) fun v7 H7 x7 h7 => ?_
    exact sd_ret (K := K) (ed_tup (eds_cons (ed_var rfl h7) (eds_cons (ed_var rfl (dp_ex x7 h6)) eds_nil)) (by simp)) fun v8 H8 x8 hv8 => q v8 H8 (x12.trans (x5.trans (x6.trans (x7.trans x8)))) hv8
  | some w =>
    obtain ⟨rs, b⟩ := w
    obtain ⟨side, er⟩ : (d = .list (rs.map Rul.d) ∧ rs.length ≤ 12 ∧ ∀ r ∈ rs, r.Ok) ∧ if b = true then ∀ C, ∃ T, rulesM C rs ([], [0]) = .ok T else ∀ C, rulesM C rs ([], [0]) = .error C := hs
    refine sd_dropTI (K := K) (d, p, some rs) (x12.tb ht) (eds_cons (ed_var rfl h02) eds_nil) side ?_
    show OutI _ _ _ _ (RI.of (rulesR C_TooLong rs))
    cases b with
    | true =>
      have er' : ∀ C, ∃ T, rulesM C rs ([], [0]) = .ok T := er
      obtain ⟨T, eT⟩ := er' C_TooLong
      have e : rulesR C_TooLong rs = .ok (pul T.1 T.2) := by unfold rulesR; rw [eT]
      rw [e]
      intro v5 H5 x5 _
      exact sd_ret (K := K) (ed_tup (eds_cons (ed_var rfl (dp_ex x5 h2)) (eds_cons (ed_var rfl (.int _)) eds_nil)) (by simp)) fun v8 H8 x8 hv8 => q v8 H8 (x12.trans (x5.trans x8)) hv8
    | false =>
      have er' : ∀ C, rulesM C rs ([], [0]) = .error C := er
      have e : rulesR C_TooLong rs = .error C_TooLong := by unfold rulesR; rw [er' C_TooLong]
      rw [e]
      intro H5 x5
      refine ⟨false, r_TooLong_BadRule.m, (fun (z : false = true) => by cases z), fun _ => ⟨true, r_TooLong_TooLong.m, fun _ a na => ⟨C_TooLong, ⟨rfl, rfl, x_TooLong.e⟩, ?_⟩, fun z => by cases z⟩⟩
      refine sd_asg (K := K) (d := .list [.bool false, .bool true, .bool true]) (ed_lst (eds_cons ed_cbl (eds_cons (ed_isEV rfl (kit_val x_TooLong.v)) (eds_cons (ed_isE rfl r_TooLong_PulseError.i) eds_nil))) (by simp)) fun v7 H7 x7 h7 => ?_
      exact sd_ret (K := K) (ed_tup (eds_cons (ed_var rfl h7) (eds_cons (ed_var rfl (.int _)) eds_nil)) (by simp)) fun v8 H8 x8 hv8 => q v8 H8 (x12.trans (x5.trans (x7.trans x8))) hv8
/-! ### law -/
abbrev s_law : Stmt := topS 31
theorem sc_law : FnScope ["_law_script", "_law_rules_here", "_law_way", "_law_at", "_law_bad", "_law_found", "_law_place"] ["_law_script"] (defScope s_law) := ⟨rfl, rfl, rfl, by decide +kernel, rfl, by decide +kernel, by decide +kernel⟩
theorem ed_law_told {K : PySem.W.Frag} {σ : L2.St} {H : Hp} {ta : TE} {E : XK} (g : PD × PD × Option (List Rul × Bool)) (ht : LamX.Tabs Evn.Tbs.T H) (ha : EvD K ta σ H g.1) (hs : tdSide g) : EvD K (tCall (sp_law_told K) [] E (tCons ta tNil)) σ H (tdRes g) :=
  ed_callTD g ht (eds_cons ha eds_nil) hs
/-! two lists of rules -/
theorem strip_one {l : List Int} (h : l.getLast? = some 1) : strip l.reverse [0] = (l.reverse, [0]) := by
  have e : l.reverse.head? = some 1 := by rw [List.head?_reverse]; exact h
  cases hl : l.reverse with
  | nil => rw [hl] at e; cases e
  | cons x r =>
    rw [hl] at e
    have ex := Option.some.inj e
    subst ex
    unfold strip
    rw [if_neg (by decide)]
theorem way_0 (C : Addr) : rulesM C [⟨0, 200, some 400⟩] ([], [0]) = .error C := by
  have h : (hedR 0 200 400 400).getLast? = some 1 := by
    unfold hedR
    rw [show lenR 0 200 400 = 79800 + 1 from rfl, List.range_succ, List.map_append, List.map_singleton, List.getLast?_append]
    rfl
  have t : tightM (hedR 0 200 400 400) [0] = (hedR 0 200 400 400, [0]) := by
    unfold tightM
    rw [show ([0] : List Int).take (per [0]) = [0] from rfl, strip_one h, List.reverse_reverse]
  unfold rulesM
  refine if_neg fun z => ?_
  have z1 : (tightM (hedR 0 200 400 400) [0]).1.length ≤ 400 := z.1
  rw [t, hedR_len] at z1
  revert z1
  decide
def way1R : List Rul := [⟨399, 200, some 1⟩, ⟨400, 1, none⟩, ⟨0, 1, some 400⟩, ⟨0, 200, some 1⟩]
theorem way1_ok : ∀ r ∈ way1R, r.Ok ∧ r.head.length ≤ 400 ∧ r.bar.length ∣ 1 := by
  intro r hr
  have o : ∀ {s p : Nat} {t : Option Nat}, s ≤ 400 → 1 ≤ p → p ≤ 200 → (∀ x, t = some x → 1 ≤ x ∧ x ≤ 400) → (⟨s, p, t⟩ : Rul).Ok := fun a b c d => ⟨a, b, c, d⟩
  have so : ∀ {n : Nat}, 1 ≤ n ∧ n ≤ 400 → ∀ x, some n = some x → 1 ≤ x ∧ x ≤ 400 := fun h x e => by
    have := Option.some.inj e
    subst this
    exact h
  simp only [way1R, List.mem_cons, List.not_mem_nil, or_false] at hr
  rcases hr with e | e | e | e <;> subst e
  · exact ⟨o (by decide) (by decide) (by decide) (so (by decide)), by show (hedR 399 200 1 1).length ≤ 400; rw [hedR_len]; decide, by decide⟩
  · exact ⟨o (by decide) (by decide) (by decide) (fun x e => by cases e), by show (List.replicate 400 (0 : Int)).length ≤ 400; rw [List.length_replicate]; decide, by decide⟩
  · exact ⟨o (by decide) (by decide) (by decide) (so (by decide)), by show (hedR 0 1 400 400).length ≤ 400; rw [hedR_len]; decide, by decide⟩
  · exact ⟨o (by decide) (by decide) (by decide) (so (by decide)), by show (hedR 0 200 1 1).length ≤ 400; rw [hedR_len]; decide, by decide⟩
theorem way_1 (C : Addr) : ∃ T, rulesM C way1R ([], [0]) = .ok T := by
  obtain ⟨T, e, _⟩ := rules_pf (C := C) (n := 400) (M := 1) (by decide) (by decide) (never_pf (n := 400) (by decide)) (by decide) way1_ok
  exact ⟨T, e⟩
/-! a list of rules with what is no rule in it, changed -/
def okE (d : PD) : Prop := (noL d = true ∨ d = .list [.int 0, .int 1, .int 1]) ∧ isInt d = false
theorem ok_rul (r : Rul) : okE r.d := ⟨.inl (noL_rule r), rfl⟩
theorem ok_odd {d : PD} (h : d ∈ oddL) : okE d ∧ ruleOk d = false := by
  simp only [oddL, List.mem_cons, List.not_mem_nil, or_false] at h
  rcases h with e | e | e | e | e | e | e | e | e | e | e | e | e | e | e <;> subst e <;> first | exact ⟨⟨.inl rfl, rfl⟩, rfl⟩ | exact ⟨⟨.inr rfl, rfl⟩, rfl⟩ | exact ⟨⟨.inl rfl, rfl⟩, by decide +kernel⟩
theorem dp_updF {K : PySem.W.Frag} {H : Hp} {p : Addr} {xs : List V} {o : HO} {v : V} {d : PD} (hp : H p = some (.lst xs)) (hx : xs ≠ [.int 0, .int 1, .int 1]) (h : Dp K H v d) (hd : okE d) : Dp K (upd H p o) v d := by
  rcases hd.1 with n | e
  · exact dp_upd hp h n
  · subst e
    obtain ⟨a, ys, rfl, hs, ha⟩ := dp_lst h
    have ey := dpa_ints (ns := [0, 1, 1]) ha
    subst ey
    rcases hs with (r | ⟨u, r⟩) | r
    · have ne : a ≠ p := fun e => by
        subst e
        rw [hp] at r
        have := Option.some.inj r
        injection this with e2
        exact hx e2
      exact .lst (.inl (.inl (by rw [upd_ne ne]; exact r))) (dpa_of_ints (ns := [0, 1, 1]))
    · have ne : a ≠ p := fun e => by
        subst e
        rw [hp] at r
        cases r
      exact .lst (.inl (.inr ⟨u, by rw [upd_ne ne]; exact r⟩)) (dpa_of_ints (ns := [0, 1, 1]))
    · exact .lst (.inr r) (dpa_of_ints (ns := [0, 1, 1]))
theorem dpa_allF {K : PySem.W.Frag} {H G : Hp} (k : ∀ {v d}, okE d → Dp K H v d → Dp K G v d) : ∀ {xs : List V} {L : List PD}, DpAll K H xs L → (∀ e ∈ L, okE e) → DpAll K G xs L
  | _, _, .nil, _ => .nil
  | _ :: _, _ :: _, .cons h t, hL => .cons (k (hL _ List.mem_cons_self) h) (dpa_allF k t fun e he => hL e (List.mem_cons_of_mem _ he))
theorem dpa_setF {K : PySem.W.Frag} {H G : Hp} (k : ∀ {v d}, okE d → Dp K H v d → Dp K G v d) : ∀ {xs : List V} {L : List PD} {w : V} {d : PD} (j : Nat), DpAll K H xs L → (∀ e ∈ L, okE e) → Dp K G w d → DpAll K G (xs.set j w) (L.set j d)
  | _, _, _, _, _, .nil, _, _ => .nil
  | _ :: _, _ :: _, _, _, 0, .cons _ t, hL, hw => .cons hw (dpa_allF k t fun e he => hL e (List.mem_cons_of_mem _ he))
  | _ :: _, _ :: _, _, _, j + 1, .cons h t, hL, hw => .cons (k (hL _ List.mem_cons_self) h) (dpa_setF k j t (fun e he => hL e (List.mem_cons_of_mem _ he)) hw)
theorem not_ints {K : PySem.W.Frag} {H : Hp} {xs : List V} {L : List PD} (h : DpAll K H xs L) (hL : ∀ e ∈ L, okE e) : xs ≠ [.int 0, .int 1, .int 1] := by
  intro e
  subst e
  cases h with
  | cons a t =>
    have := (hL _ List.mem_cons_self).2
    cases a
    cases this
/-- what the list is like: a wrong one at A, rules ahead of it -/
structure GoodL (A : Nat) (L : List PD) : Prop where
  e : ∀ d ∈ L, okE d
  l : L.length ≤ 12
  a : A < L.length
  r : ∀ j, j < A → ruleOk (L.getD j .none) = true
  o : ruleOk (L.getD A .none) = false
theorem GoodL.set {A j : Nat} {L : List PD} {d : PD} (h : GoodL A L) (hj : A < j) (hd : d ∈ oddL) : GoodL A (L.set j d) := by
  have ne : ∀ i, i ≤ A → (L.set j d).getD i .none = L.getD i .none := fun i hi => by
    rw [List.getD_eq_getElem?_getD, List.getD_eq_getElem?_getD, List.getElem?_set_ne (by omega)]
  refine ⟨fun x hx => ?_, by rw [List.length_set]; exact h.l, by rw [List.length_set]; exact h.a, fun i hi => by rw [ne i (by omega)]; exact h.r i hi, by rw [ne A (Nat.le_refl _)]; exact h.o⟩
  rcases List.mem_or_eq_of_mem_set hx with m | m
  · exact h.e x m
  · rw [m]
    exact (ok_odd hd).1
theorem GoodL.bad {A : Nat} {L : List PD} (h : GoodL A L) : BadP (.list L) (.int (A : Nat)) := .inr ⟨L, rfl, .inr ⟨A, h.l, h.a, h.r, h.o, rfl⟩⟩
theorem rule_at {rs : List Rul} (ro : ∀ r ∈ rs, r.Ok) {j : Nat} (hj : j < rs.length) : ruleOk ((rs.map Rul.d).getD j .none) = true := by
  rw [List.getD_eq_getElem?_getD, List.getElem?_map, List.getElem?_eq_getElem hj]
  exact rule_ok (ro _ (List.getElem_mem hj))
def insL (rs : List Rul) (A : Nat) (d : PD) : List PD := (((rs.map Rul.d).take A ++ [d]) ++ (rs.map Rul.d).drop A).take 12
theorem ins_mem {rs : List Rul} {A : Nat} {d : PD} (hd : d ∈ oddL) : ∀ x ∈ insL rs A d, okE x := fun x hx => by
  have := List.mem_of_mem_take hx
  rcases List.mem_append.mp this with h | h
  · rcases List.mem_append.mp h with h | h
    · obtain ⟨r, _, e⟩ := List.mem_map.mp (List.mem_of_mem_take h)
      rw [← e]
      exact ok_rul r
    · rw [List.mem_singleton] at h
      rw [h]
      exact (ok_odd hd).1
  · obtain ⟨r, _, e⟩ := List.mem_map.mp (List.mem_of_mem_drop h)
    rw [← e]
    exact ok_rul r
theorem ins_len {rs : List Rul} {A : Nat} {d : PD} (hA : A ≤ rs.length) : (insL rs A d).length = min 12 (rs.length + 1) := by
  unfold insL
  rw [List.length_take, List.length_append, List.length_append, List.length_take, List.length_drop, List.length_map, List.length_singleton]
  omega
theorem ins_lo {rs : List Rul} {A : Nat} {d : PD} (hA : A ≤ rs.length) {j : Nat} (hj : j < A) (h12 : j < 12) : (insL rs A d).getD j .none = (rs.map Rul.d).getD j .none := by
  unfold insL
  have l1 : j < ((rs.map Rul.d).take A).length := by rw [List.length_take, List.length_map]; omega
  rw [List.getD_eq_getElem?_getD, List.getD_eq_getElem?_getD, List.getElem?_take, if_pos h12, List.getElem?_append_left (by rw [List.length_append]; omega), List.getElem?_append_left l1, List.getElem?_take, if_pos hj]
theorem ins_at {rs : List Rul} {A : Nat} {d : PD} (hA : A ≤ rs.length) (h12 : A < 12) : (insL rs A d).getD A .none = d := by
  unfold insL
  have l1 : ((rs.map Rul.d).take A).length = A := by rw [List.length_take, List.length_map]; omega
  rw [List.getD_eq_getElem?_getD, List.getElem?_take, if_pos h12, List.getElem?_append_left (by rw [List.length_append, l1, List.length_singleton]; omega), List.getElem?_append_right (by omega), l1, Nat.sub_self]
  rfl
theorem ins_good {rs : List Rul} (ro : ∀ r ∈ rs, r.Ok) {A : Nat} {d : PD} (hd : d ∈ oddL) (hA : A ≤ rs.length) (h12 : A < 12) : GoodL A (insL rs A d) :=
  ⟨ins_mem hd, by rw [ins_len hA]; omega, by rw [ins_len hA]; omega, fun j hj => by rw [ins_lo hA hj (by omega)]; exact rule_at ro (by omega), by rw [ins_at hA h12]; exact (ok_odd hd).2⟩
theorem ins_good12 {rs : List Rul} (ro : ∀ r ∈ rs, r.Ok) {d : PD} (hd : d ∈ oddL) (hA : 12 ≤ rs.length) : GoodL 11 ((insL rs 12 d).set 11 d) := by
  have ll : (insL rs 12 d).length = 12 := by rw [ins_len hA]; omega
  refine ⟨fun x hx => ?_, by rw [List.length_set, ll]; decide, by rw [List.length_set, ll]; decide, fun j hj => ?_, ?_⟩
  · rcases List.mem_or_eq_of_mem_set hx with m | m
    · exact ins_mem hd x m
    · rw [m]
      exact (ok_odd hd).1
  · rw [List.getD_eq_getElem?_getD, List.getElem?_set_ne (by omega), ← List.getD_eq_getElem?_getD, ins_lo hA (by omega) (by omega)]
    exact rule_at ro (by omega)
  · rw [List.getD_eq_getElem?_getD, List.getElem?_set_self (by omega)]
    exact (ok_odd hd).2
theorem ixN_last {n : Nat} (h : 0 < n) : ixN n (-1) = some (n - 1) := by
  unfold ixN
  rw [if_neg (by omega)]
  first | rw [if_pos (by omega)] | skip
  first | (congr 1; omega) | (simp; omega)
def fiveL (rs : List Rul) : List PD := [.tuple (rs.map Rul.d), .none, .list (List.replicate (13 : Int).toNat [PyData.tuple [.int 0, .int 1, .int 1]]).flatten, .int 5, .str ((("rules" : String)) : Str)]
theorem five_bad {rs : List Rul} {i : Nat} (hi : i < 5) : BadP ((fiveL rs).getD i .none) .none := by
  match i, hi with
  | 0, _ => exact .inl ⟨rfl, rfl⟩
  | 1, _ => exact .inl ⟨rfl, rfl⟩
  | 2, _ => exact .inr ⟨_, rfl, .inl ⟨by decide, rfl⟩⟩
  | 3, _ => exact .inl ⟨rfl, rfl⟩
  | 4, _ => exact .inl ⟨rfl, rfl⟩
local macro_rules | `(tactic| walk_at "ed") => `(tactic| ((with_reducible apply ed_law_told) <;> walk_at "ed"))
theorem can_law {fa : Addr} {fd : FuncData} (F : L2.Fun K "law" "law" s_law fa fd) (bt : Bt mg) (c_law_rules : Can P w K mg base CX0 3 "_law_rules" (sp_law_rules K)) (c_law_told : Can P w K mg base CX0 7 "_law_told" (sp_law_told K)) (c_law_cell : Can P w K mg base CX0 1 "_law_cell" (sp_law_cell K)) (c_law_same : Can P w K mg base CX0 1 "_law_same" (sp_law_same K)) (c_law_odd : Can P w K mg base CX0 1 "_law_odd" (sp_law_odd K)) : FnOk P w K mg base CX0 8 fa fd ["_law_script"] (sp_lawT K) := by
  refine fn_TD F sc_law (fun g => rfl) (fun cdv A outer s H vs Q E f g hr ht hv hs q => ⟨_, ((pss_cons (ps_set (i := 1) sc_law.nd rfl (Or.inl rfl) (pc c_law_rules hr (by decide) (by rfl) (pa_cons (pv 0) pa_nil)))
  (pss_cons (ps_set (i := 2) sc_law.nd rfl (Or.inl rfl) (pe_op op_mod (pc c_law_cell hr (by decide) (by rfl) (pa_cons (pv 0) (pa_cons pe_int pa_nil))) pe_int))
  (pss_cons (ps_if (pt_cmpR (op_eqDK (K := K) rfl hr.units) (pv 2) pe_int (nomark _)) (pss_one (ps_ret (pe_cmpR (op_eqDK (K := K) rfl hr.units) (pc c_law_told hr (by decide) (by rfl) (pa_cons (pe_lst (pa_cons (pe_tup (pa_cons pe_int (pa_cons pe_int (pa_cons pe_int pa_nil)))) pa_nil)) pa_nil)) (pe_tup (pa_cons (pe_lst (pa_cons pe_bl (pa_cons pe_bl (pa_cons pe_bl pa_nil)))) (pa_cons (pe_un un_neg pe_int) pa_nil))) (nomark _)))) pss_nil)
  (pss_cons (ps_if (pt_cmpR (op_eqDK (K := K) rfl hr.units) (pv 2) pe_int (nomark _)) (pss_one (ps_ret (pe_cmpR (op_eqDK (K := K) rfl hr.units) (pc c_law_told hr (by decide) (by rfl) (pa_cons (pe_lst (pa_cons (pe_tup (pa_cons pe_int (pa_cons pe_int (pa_cons pe_int pa_nil)))) (pa_cons (pe_tup (pa_cons pe_int (pa_cons pe_int (pa_cons pe_non pa_nil)))) (pa_cons (pe_tup (pa_cons pe_int (pa_cons pe_int (pa_cons pe_int pa_nil)))) (pa_cons (pe_tup (pa_cons pe_int (pa_cons pe_int (pa_cons pe_int pa_nil)))) pa_nil))))) pa_nil)) (pe_tup (pa_cons (pe_lst pa_nil) (pa_cons (pe_un un_neg pe_int) pa_nil))) (nomark _)))) pss_nil)
  (pss_cons (ps_set (i := 3) sc_law.nd rfl (Or.inl rfl) pe_non)
  (pss_cons (ps_if (pt_cmpR (op_eqDK (K := K) rfl hr.units) (pv 2) pe_int (nomark _)) (pss_one (ps_set (i := 4) sc_law.nd rfl (Or.inl rfl) (pe_ix (ix_K (K := K) rfl) (pe_lst (pa_cons (pe_callTy (call_tupleK (K := K) rfl) (by rfl) bt.tuple (by decide +kernel) (pa_cons (pv 1) pa_nil)) (pa_cons pe_non (pa_cons (pe_op (op_mulK (K := K) rfl) (pe_lst (pa_cons (pe_tup (pa_cons pe_int (pa_cons pe_int (pa_cons pe_int pa_nil)))) pa_nil)) pe_int) (pa_cons pe_int (pa_cons pe_str pa_nil)))))) (pe_op op_mod (pc c_law_cell hr (by decide) (by rfl) (pa_cons (pv 0) (pa_cons pe_int pa_nil))) pe_int) (fun _ _ => rfl)))) (pss_cons (ps_set (i := 3) sc_law.nd rfl (Or.inl rfl) (pe_op op_mod (pc c_law_cell hr (by decide) (by rfl) (pa_cons (pv 0) (pa_cons pe_int pa_nil))) (pe_op (op_addK (K := K) rfl) (pe_callB (call_lenK (K := K) rfl) (by rfl) bt.len (by decide +kernel) (pa_cons (pv 1) pa_nil)) pe_int)))
  (pss_cons (ps_set (i := 4) sc_law.nd rfl (Or.inl rfl) (pe_op (op_addK (K := K) rfl) (pe_op (op_addK (K := K) rfl) (pe_slice (sl_K (K := K) rfl) (pv 1) po_none (po_some (pv 3))) (pe_lst (pa_cons (pc c_law_odd hr (by decide) (by rfl) (pa_cons (pc c_law_cell hr (by decide) (by rfl) (pa_cons (pv 0) (pa_cons pe_int pa_nil))) pa_nil)) pa_nil))) (pe_slice (sl_K (K := K) rfl) (pv 1) (po_some (pv 3)) po_none)))
  (pss_cons (ps_set (i := 4) sc_law.nd rfl (Or.inl rfl) (pe_slice (sl_K (K := K) rfl) (pv 4) po_none (po_some pe_int)))
  (pss_cons (ps_if (pt_cmpR (op_eqDK (K := K) rfl hr.units) (pv 3) pe_int (nomark _)) (pss_cons (ps_set (i := 3) sc_law.nd rfl (Or.inl rfl) pe_int)
  (pss_one (ps_asg (pc c_law_odd hr (by decide) (by rfl) (pa_cons (pc c_law_cell hr (by decide) (by rfl) (pa_cons (pv 0) (pa_cons pe_int pa_nil))) pa_nil)) (pg_sub (pv 4) pe_int set_list)))) pss_nil)
  (pss_one (ps_if (PW.pt (pw_and (pt_cmpR (op_eqDK (K := K) rfl hr.units) (pv 2) pe_int (nomark _)) (pw_and1 (pt_cmpR op_lt (pe_op (op_addK (K := K) rfl) (pv 3) pe_int) (pe_callB (call_lenK (K := K) rfl) (by rfl) bt.len (by decide +kernel) (pa_cons (pv 4) pa_nil)) (nomark _))))) (pss_one (ps_asg (pc c_law_odd hr (by decide) (by rfl) (pa_cons (pc c_law_cell hr (by decide) (by rfl) (pa_cons (pv 0) (pa_cons pe_int pa_nil))) pa_nil)) (pg_sub (pv 4) (pe_un un_neg pe_int) set_list))) pss_nil)))))))
  (pss_cons (ps_asg (pc c_law_told hr (by decide) (by rfl) (pa_cons (pv 4) pa_nil)) (pg_tupK (K := K) (n := 2) rfl rfl (pgs_cons (pg_name (i := 5) sc_law.nd rfl (Or.inl rfl)) (pgs_cons (pg_name (i := 6) sc_law.nd rfl (Or.inl rfl)) pgs_nil))))
  (pss_one (ps_ret (pe_and (pe_cmpR (op_eqDK (K := K) rfl hr.units) (pv 5) (pe_lst (pa_cons pe_bl (pa_cons pe_bl (pa_cons pe_bl pa_nil)))) (nomark _)) (pe_one (pc c_law_same hr (by decide) (by rfl) (pa_cons (pv 6) (pa_cons (pv 3) pa_nil))))))))))))))), ?_⟩)
  try dsimp only [L2.cxOf, L2.Cx.nox, L2.Cx.wish]
  obtain ⟨v0, rfl, h0⟩ := dpa1 hv
  have rl := rulesL_len g
  have ro : ∀ r ∈ rulesL g, r.Ok := fun r h => (rulesL_ok h).1
  have t3 : ∀ {σ : L2.St} {H : Hp} {a b c : TE} {x y z : PD}, EvD K a σ H x → EvD K b σ H y → EvD K c σ H z → EvD K (tTup (tCons a (tCons b (tCons c tNil)))) σ H (.tuple [x, y, z]) := fun ha hb hc => ed_tup (eds_cons ha (eds_cons hb (eds_cons hc eds_nil))) (by simp)
  refine qd_asg (K := K) (d := .list ((rulesL g).map Rul.d)) (ed_law_rules (ed_var rfl h0) hs) fun v1 H1 x1 h1 => ?_
  generalize rulesL g = rs at h1 rl ro
  refine qd_asgI (K := K) (j := cellM g 1 % 6) (EvD.to (ed_mod (ed_law_cell (ed_var rfl (dp_ex x1 h0)) ed_cint (by decide)) ed_cint (by decide)) rfl) fun H2 x2 => ?_
  generalize cellM g 1 % 6 = w
  have x12 := x1.trans x2
  have t : ∀ {H' : Hp} {a b c d e f : Option V} (k : Int), EvT (tTest (tOp (rEqD K) (tVar 2) (tC (.int k)))) [a, b, some (.int w), c, d, e, f] H' (decide (w = k)) := fun {H' a b c d e f} k => EvT.to (et_tst (K := K) (ed_eqI (ed_var rfl (.int _)) ed_cint)) (by rw [Bool.eq_iff_iff, beq_iff_eq, decide_eq_true_eq])
  refine q_when (t 0) (fun _ H3 x3 => ?_) (fun _ H3 x3 => ?_)
  · refine sd_ret (K := K) (d := .bool true) (EvD.to (ed_eq (ed_law_told (.list [.tuple [.int 0, .int 200, .int 400]], .none, some ([⟨0, 200, some 400⟩], false)) ((x12.trans x3).tb ht) (ed_lst (eds_cons (t3 ed_cint ed_cint ed_cint) eds_nil) (by show 1 ≤ 100000; decide)) ⟨⟨rfl, by decide, fun r hr => by
        rw [List.mem_singleton] at hr
        subst hr
        exact ⟨by decide, by decide, by decide, fun x e => by
          have := Option.some.inj e
          subst this
          decide⟩⟩, way_0⟩) (ed_tup (eds_cons (ed_lst (eds_cons ed_cbl (eds_cons ed_cbl (eds_cons ed_cbl eds_nil))) (by show 3 ≤ 100000; decide)) (eds_cons (ed_neg ed_cint) eds_nil)) (by show 2 ≤ 100000; decide)) (by decide +kernel) (by decide +kernel)) (congrArg PyData.bool (show PyData.eqv _ _ = true by decide +kernel))) fun v4 H4 x4 h4 => q v4 H4 (x12.trans (x3.trans x4)) h4
  refine q_when (t 1) (fun _ H4 x4 => ?_) (fun _ H4 x4 => ?_)
  · refine sd_ret (K := K) (d := .bool true) (EvD.to (ed_eq (ed_law_told (.list [.tuple [.int 399, .int 200, .int 1], .tuple [.int 400, .int 1, .none], .tuple [.int 0, .int 1, .int 400], .tuple [.int 0, .int 200, .int 1]], .none, some (way1R, true)) ((x12.trans (x3.trans x4)).tb ht) (ed_lst (eds_cons (t3 ed_cint ed_cint ed_cint) (eds_cons (t3 ed_cint ed_cint ed_cnon) (eds_cons (t3 ed_cint ed_cint ed_cint) (eds_cons (t3 ed_cint ed_cint ed_cint) eds_nil)))) (by show 4 ≤ 100000; decide)) ⟨⟨rfl, by decide, fun r hr => (way1_ok r hr).1⟩, way_1⟩) (ed_tup (eds_cons (ed_lst eds_nil (by show 0 ≤ 100000; decide)) (eds_cons (ed_neg ed_cint) eds_nil)) (by show 2 ≤ 100000; decide)) (by decide +kernel) (by decide +kernel)) (congrArg PyData.bool (show PyData.eqv _ _ = true by decide +kernel))) fun v5 H5 x5 h5 => q v5 H5 (x12.trans (x3.trans (x4.trans x5))) h5
  refine qd_asg (K := K) (d := .none) ed_cnon fun v3 H5 x5 h3 => ?_
  have x15 := x12.trans (x3.trans (x4.trans x5))
  have h05 := dp_ex x15 h0
  have h15 := dp_ex (x2.trans (x3.trans (x4.trans x5))) h1
  refine q_ifE (fun σ' H' => ∃ (u3 u4 : V) (D p : PD), σ' = [some v0, some v1, some (.int w), some u3, some u4, none, none] ∧ Ex H5 H' ∧ Dp K H' u4 D ∧ Dp K H' u3 p ∧ BadP D p ∧ (p = .none ∨ ∃ i : Int, p = .int i)) (t 2) (fun kk _ H6 x6 => ?_) (fun kk _ H6 x6 => ?_) (fun σ' H6 hM => ?_)
  · have i5 : (cellM g 2 % 5).toNat < 5 := by omega
    have hm : atI (fiveL rs) (cellM g 2 % 5) = some ((fiveL rs).getD (cellM g 2 % 5).toNat .none) := by
      have : cellM g 2 % 5 = 0 ∨ cellM g 2 % 5 = 1 ∨ cellM g 2 % 5 = 2 ∨ cellM g 2 % 5 = 3 ∨ cellM g 2 % 5 = 4 := by omega
      rcases this with e | e | e | e | e <;> rw [e] <;> rfl
    refine sd_asg (K := K) (d := (fiveL rs).getD (cellM g 2 % 5).toNat .none) (ed_ixL (ds := fiveL rs) (ed_lst (eds_cons (ed_tupL (ed_var rfl (dp_ex x6 h15))) (eds_cons ed_cnon (eds_cons (ed_repL (ed_lst (eds_cons (t3 ed_cint ed_cint ed_cint) eds_nil) (by show 1 ≤ 100000; decide)) ed_cint (by decide) (by show 1 * 13 ≤ 100000; decide)) (eds_cons ed_cint (eds_cons ed_cstr eds_nil))))) (by show 5 ≤ 100000; decide)) (EvD.to (ed_mod (ed_law_cell (ed_var rfl (dp_ex x6 h05)) ed_cint (by decide)) ed_cint (by decide)) rfl) hm) fun v4 H7 x7 h7 => ?_
    exact kk _ _ ⟨v3, v4, _, .none, rfl, x6.trans x7, h7, dp_ex (x6.trans x7) h3, five_bad i5, .inl rfl⟩
  · have A0 : (0 : Int) ≤ cellM g 3 % ((rs.length : Int) + 1) := Int.emod_nonneg _ (by omega)
    have A1 : cellM g 3 % ((rs.length : Int) + 1) < (rs.length : Int) + 1 := Int.emod_lt_of_pos _ (by omega)
    refine qd_asgI (K := K) (j := ((cellM g 3 % ((rs.length : Int) + 1)).toNat : Int)) (EvD.to (ed_mod (ed_law_cell (ed_var rfl (dp_ex x6 h05)) ed_cint (by decide)) (ed_add (ed_lenL (ed_var rfl (dp_ex x6 h15))) ed_cint) (by rw [List.length_map]; omega)) (by
      rw [List.length_map, Int.toNat_of_nonneg A0]
      rfl)) fun H7 x7 => ?_
    have hA : (cellM g 3 % ((rs.length : Int) + 1)).toNat ≤ rs.length := by omega
    generalize (cellM g 3 % ((rs.length : Int) + 1)).toNat = A at hA
    have x57 := x6.trans x7
    have h07 := dp_ex x57 h05
    have h17 := dp_ex x57 h15
    have od := odd_in (cellM g 2)
    refine qd_asg (K := K) (d := .list (((rs.map Rul.d).take A ++ [oddM (cellM g 2)]) ++ (rs.map Rul.d).drop A)) (EvD.to (ed_catL (ed_catL (ed_slL (ed_var rfl h17) eo_none (eo_int (K := K) (ed_var rfl (.int (A : Int))))) (ed_lst (eds_cons (ed_law_odd (ed_law_cell (ed_var rfl h07) ed_cint (by decide))) eds_nil) (by show 1 ≤ 100000; decide)) (by rw [cutD_to, List.length_take, List.length_map, List.length_singleton]; omega)) (ed_slL (ed_var rfl h17) (eo_int (K := K) (ed_var rfl (.int (A : Int)))) eo_none) (by rw [cutD_to, cutD_from, List.length_append, List.length_take, List.length_drop, List.length_map, List.length_singleton]; omega)) (by rw [cutD_to, cutD_from]; rfl)) fun v4 H8 x8 h8 => ?_
    refine qd_asgN (K := K) (ds := insL rs A (oddM (cellM g 2))) (EvN.to (en_slL (ed_var rfl h8) eo_none (eo_int (K := K) (i := ((12 : Nat) : Int)) ed_cint)) (by rw [cutD_to]; rfl)) fun p H9 xs np x9 ep hx => ?_
    have x58 := x57.trans x8
    have h08 := dp_ex x8 h07
    refine q_ifM (fun σ' H' => ∃ (A' : Nat) (ys : List V) (L : List PD), σ' = [some v0, some v1, some (.int w), some (.int (A' : Int)), some (.ref p), none, none] ∧ Ex H8 H' ∧ H' p = some (.lst ys) ∧ DpAll K H' ys L ∧ GoodL A' L) (EvT.to (et_tst (K := K) (ed_eqI (ed_var rfl (.int (A : Int))) ed_cint)) (c := decide (A = 12)) (by rw [Bool.eq_iff_iff, beq_iff_eq, decide_eq_true_eq]; omega)) (fun k2 c Ha xa => ?_) (fun c Ha xa => ?_) (fun σ' Ha hM => ?_)
    · have c' : A = 12 := of_decide_eq_true c
      subst c'
      refine qd_asgI (K := K) (j := ((11 : Nat) : Int)) ed_cint fun Hb xb => ?_
      have ll : (insL rs 12 (oddM (cellM g 2))).length = 12 := by rw [ins_len hA]; omega
      have epb := xb _ _ (xa _ _ ep)
      have hxb := dpa_ex (xa.trans xb) hx
      refine sd_setI (K := K) (k := ((11 : Nat) : Int)) (j := 11) rfl epb ed_cint (ed_law_odd (ed_law_cell (ed_var rfl (dp_ex (x9.trans (xa.trans xb)) h08)) ed_cint (by decide))) (by rw [dpa_len hx, ll]; rfl) fun u Hc xc hu => ?_
      have ne := not_ints hx (ins_mem od)
      have hpc := xc _ _ epb
      refine k2 _ _ ⟨11, xs.set 11 u, (insL rs 12 (oddM (cellM g 2))).set 11 (oddM (cellM g 2)), rfl, Ex.mut (x9.trans (xa.trans (xb.trans xc))) np hpc, upd_same, dpa_setF (fun hd h => dp_updF hpc ne h hd) 11 (dpa_ex xc hxb) (ins_mem od) (dp_updF hpc ne hu (ok_odd od).1), ins_good12 ro od hA⟩
    · have c' : A < 12 := by have := of_decide_eq_false c; omega
      exact ⟨A, xs, insL rs A (oddM (cellM g 2)), rfl, x9.trans xa, xa _ _ ep, dpa_ex xa hx, ins_good ro od hA c'⟩
    · obtain ⟨A', ys, L, rfl, xx, ep2, hy, gl⟩ := hM
      have od3 := odd_in (cellM g 3)
      have fin : ∀ {H' : Hp} {zs : List V} {L' : List PD}, Ex H8 H' → H' p = some (.lst zs) → DpAll K H' zs L' → GoodL A' L' → ∃ (u3 u4 : V) (D p' : PD), ([some v0, some v1, some (.int w), some (.int (A' : Int)), some (.ref p), none, none] : L2.St) = [some v0, some v1, some (.int w), some u3, some u4, none, none] ∧ Ex H5 H' ∧ Dp K H' u4 D ∧ Dp K H' u3 p' ∧ BadP D p' ∧ (p' = .none ∨ ∃ i : Int, p' = .int i) := fun {H' zs L'} x e h g' => ⟨_, _, .list L', .int (A' : Int), rfl, x58.trans x, .lst (sq_of e) h, .int _, g'.bad, .inr ⟨_, rfl⟩⟩
      refine s_when (et_and (t 3) fun _ => et_tst (K := K) (ed_lt (ed_add (ed_var rfl (.int (A' : Int))) ed_cint) (ed_lenL (ed_var rfl (.lst (sq_of ep2) hy))))) (fun c Hb xb => ?_) (fun c Hb xb => kk _ _ (fin (xx.trans xb) (xb _ _ ep2) (dpa_ex xb hy) gl))
      have c' : (A' : Int) + 1 < (L.length : Int) := by
        rw [Bool.and_eq_true] at c
        exact of_decide_eq_true c.2
      have epb := xb _ _ ep2
      refine sd_setI (K := K) (k := -1) (j := L.length - 1) rfl epb (ed_neg ed_cint) (ed_law_odd (ed_law_cell (ed_var rfl (dp_ex (xx.trans xb) h08)) ed_cint (by decide))) (by rw [dpa_len hy]; exact ixN_last (by omega)) fun u Hc xc hu => ?_
      have ne := not_ints hy gl.e
      have hpc := xc _ _ epb
      exact kk _ _ (fin (Ex.mut (xx.trans (xb.trans xc)) np hpc) upd_same (dpa_setF (fun hd h => dp_updF hpc ne h hd) (L.length - 1) (dpa_ex (xb.trans xc) hy) gl.e (dp_updF hpc ne hu (ok_odd od3).1)) (gl.set (by omega) od3))
  · obtain ⟨u3, u4, D, p, rfl, x6, hD, hp, bp, ip⟩ := hM
    have x16 := x15.trans x6
    refine qd_two (K := K) (d1 := .list [.bool true, .bool true, .bool true]) (d2 := p) (ed_law_told (D, p, none) (x16.tb ht) (ed_var rfl hD) bp) fun a b H7 x7 ha hb => ?_
    refine sd_ret (K := K) (d := .bool true) (EvD.to (ed_and (ed_eq (ed_var rfl ha) (ed_lst (eds_cons ed_cbl (eds_cons ed_cbl (eds_cons ed_cbl eds_nil))) (by show 3 ≤ 100000; decide)) (by decide +kernel) (by decide +kernel)) fun _ => ed_law_same (ed_var rfl hb) (ed_var rfl (dp_ex x7 hp)) ip) (congrArg PyData.bool (show (PyData.eqv _ _ && true) = true by decide +kernel))) fun v8 H8 x8 h8 => q v8 H8 (x16.trans (x7.trans x8)) h8
end
end Pb
namespace Pb
open PySem PySem.Spec PyProof.Rows L2 Evn
theorem all_mk {l : PySem.W.OpenLaw} {w : World} {K : PySem.W.Frag} {h : Heap} {mg : Str → Option Value} {fa f0 f1 f2 f3 f4 f5 f6 f7 f8 f9 f10 f11 f12 f13 f14 f15 f16 f17 f18 f19 f20 : Addr} (X : K.In h) (G : h.Ns mainGlobals mg) (hfa : mg "law" = some (.ref fa)) (TT : AllTab K mg ["either"] h)
    {C_either P_either : Addr} {e_either : Value} {dd_either : Option Addr} {vs_either : Array Value} {so_either : Array (Option Value)}
    {od0 an0 od1 an1 od2 an2 od3 an3 od4 an4 od5 an5 od6 an6 od7 an7 od8 an8 od9 an9 od10 an10 od11 an11 od12 an12 od13 an13 od14 an14 od15 an15 od16 an16 od17 an17 od18 an18 od19 an19 od20 an20 : Option Addr} {sl0 sl1 sl2 sl3 sl4 sl5 sl6 sl7 sl8 sl9 sl10 sl11 sl12 sl13 sl14 sl15 sl16 sl17 sl18 sl19 sl20 : Array (Option Value)} {oc0 kV0 dc0 pm0 ct0 cd0 oc1 kV1 dc1 pm1 ct1 cd1 oc2 kV2 dc2 pm2 ct2 cd2 oc3 kV3 dc3 pm3 ct3 cd3 oc4 kV4 dc4 pm4 ct4 cd4 oc5 kV5 dc5 pm5 ct5 cd5 oc6 kV6 dc6 pm6 ct6 cd6 oc7 kV7 dc7 pm7 ct7 cd7 oc8 kV8 dc8 pm8 ct8 cd8 oc9 kV9 dc9 pm9 ct9 oc10 kV10 dc10 pm10 ct10 cd10 oc11 kV11 dc11 pm11 ct11 cd11 oc12 kV12 dc12 pm12 ct12 cd12 oc13 kV13 dc13 pm13 ct13 cd13 oc14 kV14 dc14 pm14 ct14 cd14 oc15 kV15 dc15 pm15 ct15 cd15 oc16 kV16 dc16 pm16 ct16 cd16 oc17 kV17 dc17 pm17 ct17 cd17 oc18 kV18 dc18 pm18 ct18 cd18 oc19 kV19 dc19 pm19 ct19 cd19 oc20 kV20 dc20 pm20 ct20 cd20 : Value}
    (a0 : PySem.W.nsIn K mainGlobals "is_within" = some (some (.ref f0))) (l0 : K.lookup f0 = some ⟨oc0, od0, .func (PySem.W.fnOf "is_within" "is_within" (defArgs s_is_within) (defBody s_is_within) (defScope s_is_within) .none kV0 dc0 pm0 an0 cd0 ct0), sl0⟩) (c0 : PySem.W.codeIn K cd0 "is_within" = true) (k0 : PySem.W.keepIn K (.ref f0) = true)
    (a1 : PySem.W.nsIn K mainGlobals "divisor" = some (some (.ref f1))) (l1 : K.lookup f1 = some ⟨oc1, od1, .func (PySem.W.fnOf "divisor" "divisor" (defArgs s_divisor) (defBody s_divisor) (defScope s_divisor) .none kV1 dc1 pm1 an1 cd1 ct1), sl1⟩) (c1 : PySem.W.codeIn K cd1 "divisor" = true) (k1 : PySem.W.keepIn K (.ref f1) = true)
    (a2 : PySem.W.nsIn K mainGlobals "multiple" = some (some (.ref f2))) (l2 : K.lookup f2 = some ⟨oc2, od2, .func (PySem.W.fnOf "multiple" "multiple" (defArgs s_multiple) (defBody s_multiple) (defScope s_multiple) .none kV2 dc2 pm2 an2 cd2 ct2), sl2⟩) (c2 : PySem.W.codeIn K cd2 "multiple" = true) (k2 : PySem.W.keepIn K (.ref f2) = true)
    (a3 : PySem.W.nsIn K mainGlobals "shortest_bar" = some (some (.ref f3))) (l3 : K.lookup f3 = some ⟨oc3, od3, .func (PySem.W.fnOf "shortest_bar" "shortest_bar" (defArgs s_shortest_bar) (defBody s_shortest_bar) (defScope s_shortest_bar) .none kV3 dc3 pm3 an3 cd3 ct3), sl3⟩) (c3 : PySem.W.codeIn K cd3 "shortest_bar" = true) (k3 : PySem.W.keepIn K (.ref f3) = true)
    (a4 : PySem.W.nsIn K mainGlobals "tight" = some (some (.ref f4))) (l4 : K.lookup f4 = some ⟨oc4, od4, .func (PySem.W.fnOf "tight" "tight" (defArgs s_tight) (defBody s_tight) (defScope s_tight) .none kV4 dc4 pm4 an4 cd4 ct4), sl4⟩) (c4 : PySem.W.codeIn K cd4 "tight" = true) (k4 : PySem.W.keepIn K (.ref f4) = true)
    (a5 : PySem.W.nsIn K mainGlobals "fitted" = some (some (.ref f5))) (l5 : K.lookup f5 = some ⟨oc5, od5, .func (PySem.W.fnOf "fitted" "fitted" (defArgs s_fitted) (defBody s_fitted) (defScope s_fitted) .none kV5 dc5 pm5 an5 cd5 ct5), sl5⟩) (c5 : PySem.W.codeIn K cd5 "fitted" = true) (k5 : PySem.W.keepIn K (.ref f5) = true)
    (a6 : PySem.W.nsIn K mainGlobals "has" = some (some (.ref f6))) (l6 : K.lookup f6 = some ⟨oc6, od6, .func (PySem.W.fnOf "has" "has" (defArgs s_has) (defBody s_has) (defScope s_has) .none kV6 dc6 pm6 an6 cd6 ct6), sl6⟩) (c6 : PySem.W.codeIn K cd6 "has" = true) (k6 : PySem.W.keepIn K (.ref f6) = true)
    (a7 : PySem.W.nsIn K mainGlobals "never" = some (some (.ref f7))) (l7 : K.lookup f7 = some ⟨oc7, od7, .func (PySem.W.fnOf "never" "never" (defArgs s_never) (defBody s_never) (defScope s_never) .none kV7 dc7 pm7 an7 cd7 ct7), sl7⟩) (c7 : PySem.W.codeIn K cd7 "never" = true) (k7 : PySem.W.keepIn K (.ref f7) = true)
    (a8 : PySem.W.nsIn K mainGlobals "joined" = some (some (.ref f8))) (l8 : K.lookup f8 = some ⟨oc8, od8, .func (PySem.W.fnOf "joined" "joined" (defArgs s_joined) (defBody s_joined) (defScope s_joined) .none kV8 dc8 pm8 an8 cd8 ct8), sl8⟩) (c8 : PySem.W.codeIn K cd8 "joined" = true) (k8 : PySem.W.keepIn K (.ref f8) = true)
    (a9 : PySem.W.nsIn K mainGlobals "either" = some (some (.ref f9))) (l9 : K.lookup f9 = some ⟨oc9, od9, .func (PySem.W.fnOf "either" "either" (defArgs s_either) (defBody s_either) (defScope s_either) .none kV9 dc9 pm9 an9 (.ref C_either) ct9), sl9⟩) (c9 : PySem.W.codeIn K (.ref C_either) "either" = true) (k9 : PySem.W.keepIn K (.ref f9) = true)
    (lc_either : K.lookup C_either = some ⟨e_either, dd_either, .fields vs_either, so_either⟩) (pv_either : vs_either[11]? = some (.ref P_either)) (nt_either : K.lookup P_either = none)
    (a10 : PySem.W.nsIn K mainGlobals "is_rule" = some (some (.ref f10))) (l10 : K.lookup f10 = some ⟨oc10, od10, .func (PySem.W.fnOf "is_rule" "is_rule" (defArgs s_is_rule) (defBody s_is_rule) (defScope s_is_rule) .none kV10 dc10 pm10 an10 cd10 ct10), sl10⟩) (c10 : PySem.W.codeIn K cd10 "is_rule" = true) (k10 : PySem.W.keepIn K (.ref f10) = true)
    (a11 : PySem.W.nsIn K mainGlobals "from_rule" = some (some (.ref f11))) (l11 : K.lookup f11 = some ⟨oc11, od11, .func (PySem.W.fnOf "from_rule" "from_rule" (defArgs s_from_rule) (defBody s_from_rule) (defScope s_from_rule) .none kV11 dc11 pm11 an11 cd11 ct11), sl11⟩) (c11 : PySem.W.codeIn K cd11 "from_rule" = true) (k11 : PySem.W.keepIn K (.ref f11) = true)
    (a12 : PySem.W.nsIn K mainGlobals "from_rules" = some (some (.ref f12))) (l12 : K.lookup f12 = some ⟨oc12, od12, .func (PySem.W.fnOf "from_rules" "from_rules" (defArgs s_from_rules) (defBody s_from_rules) (defScope s_from_rules) .none kV12 dc12 pm12 an12 cd12 ct12), sl12⟩) (c12 : PySem.W.codeIn K cd12 "from_rules" = true) (k12 : PySem.W.keepIn K (.ref f12) = true)
    (a13 : PySem.W.nsIn K mainGlobals "_law_cell" = some (some (.ref f13))) (l13 : K.lookup f13 = some ⟨oc13, od13, .func (PySem.W.fnOf "_law_cell" "_law_cell" (defArgs s_law_cell) (defBody s_law_cell) (defScope s_law_cell) .none kV13 dc13 pm13 an13 cd13 ct13), sl13⟩) (c13 : PySem.W.codeIn K cd13 "_law_cell" = true) (k13 : PySem.W.keepIn K (.ref f13) = true)
    (a14 : PySem.W.nsIn K mainGlobals "_law_mix" = some (some (.ref f14))) (l14 : K.lookup f14 = some ⟨oc14, od14, .func (PySem.W.fnOf "_law_mix" "_law_mix" (defArgs s_law_mix) (defBody s_law_mix) (defScope s_law_mix) .none kV14 dc14 pm14 an14 cd14 ct14), sl14⟩) (c14 : PySem.W.codeIn K cd14 "_law_mix" = true) (k14 : PySem.W.keepIn K (.ref f14) = true)
    (a15 : PySem.W.nsIn K mainGlobals "_law_rule" = some (some (.ref f15))) (l15 : K.lookup f15 = some ⟨oc15, od15, .func (PySem.W.fnOf "_law_rule" "_law_rule" (defArgs s_law_rule) (defBody s_law_rule) (defScope s_law_rule) .none kV15 dc15 pm15 an15 cd15 ct15), sl15⟩) (c15 : PySem.W.codeIn K cd15 "_law_rule" = true) (k15 : PySem.W.keepIn K (.ref f15) = true)
    (a16 : PySem.W.nsIn K mainGlobals "_law_rules" = some (some (.ref f16))) (l16 : K.lookup f16 = some ⟨oc16, od16, .func (PySem.W.fnOf "_law_rules" "_law_rules" (defArgs s_law_rules) (defBody s_law_rules) (defScope s_law_rules) .none kV16 dc16 pm16 an16 cd16 ct16), sl16⟩) (c16 : PySem.W.codeIn K cd16 "_law_rules" = true) (k16 : PySem.W.keepIn K (.ref f16) = true)
    (a17 : PySem.W.nsIn K mainGlobals "_law_told" = some (some (.ref f17))) (l17 : K.lookup f17 = some ⟨oc17, od17, .func (PySem.W.fnOf "_law_told" "_law_told" (defArgs s_law_told) (defBody s_law_told) (defScope s_law_told) .none kV17 dc17 pm17 an17 cd17 ct17), sl17⟩) (c17 : PySem.W.codeIn K cd17 "_law_told" = true) (k17 : PySem.W.keepIn K (.ref f17) = true)
    (a18 : PySem.W.nsIn K mainGlobals "_law_odd" = some (some (.ref f18))) (l18 : K.lookup f18 = some ⟨oc18, od18, .func (PySem.W.fnOf "_law_odd" "_law_odd" (defArgs s_law_odd) (defBody s_law_odd) (defScope s_law_odd) .none kV18 dc18 pm18 an18 cd18 ct18), sl18⟩) (c18 : PySem.W.codeIn K cd18 "_law_odd" = true) (k18 : PySem.W.keepIn K (.ref f18) = true)
    (a19 : PySem.W.nsIn K mainGlobals "_law_same" = some (some (.ref f19))) (l19 : K.lookup f19 = some ⟨oc19, od19, .func (PySem.W.fnOf "_law_same" "_law_same" (defArgs s_law_same) (defBody s_law_same) (defScope s_law_same) .none kV19 dc19 pm19 an19 cd19 ct19), sl19⟩) (c19 : PySem.W.codeIn K cd19 "_law_same" = true) (k19 : PySem.W.keepIn K (.ref f19) = true)
    (a20 : PySem.W.nsIn K mainGlobals "law" = some (some (.ref f20))) (l20 : K.lookup f20 = some ⟨oc20, od20, .func (PySem.W.fnOf "law" "law" (defArgs s_law) (defBody s_law) (defScope s_law) .none kV20 dc20 pm20 an20 cd20 ct20), sl20⟩) (c20 : PySem.W.codeIn K cd20 "law" = true) (k20 : PySem.W.keepIn K (.ref f20) = true)
    (nd_ : ([P_either] : List Nat).Nodup)
    (z_len : PySem.W.nsIn K mainGlobals "len" = some none)
    (z_range : PySem.W.nsIn K mainGlobals "range" = some none)
    (z_int : PySem.W.nsIn K mainGlobals "int" = some none)
    (z_list : PySem.W.nsIn K mainGlobals "list" = some none)
    (z_tuple : PySem.W.nsIn K mainGlobals "tuple" = some none)
    (z_max : PySem.W.nsIn K mainGlobals "max" = some none)
    (z_min : PySem.W.nsIn K mainGlobals "min" = some none)
    (z_isinstance : PySem.W.nsIn K mainGlobals "isinstance" = some none)
    (z_bool : PySem.W.nsIn K mainGlobals "bool" = some none)
    (z_str : PySem.W.nsIn K mainGlobals "str" = some none)
    (z_sum : PySem.W.nsIn K mainGlobals "sum" = some none)
    (z_sorted : PySem.W.nsIn K mainGlobals "sorted" = some none)
    (z_any : PySem.W.nsIn K mainGlobals "any" = some none)
    (z_enumerate : PySem.W.nsIn K mainGlobals "enumerate" = some none)
    (z_ValueError : PySem.W.nsIn K mainGlobals "ValueError" = some none)
    {t_MOST_HEAD : Tok} (v_MOST_HEAD : PySem.W.nsIn K mainGlobals "MOST_HEAD" = some (some (.int 400 t_MOST_HEAD)))
    {t_MOST_BAR : Tok} (v_MOST_BAR : PySem.W.nsIn K mainGlobals "MOST_BAR" = some (some (.int 200 t_MOST_BAR)))
    {C_BadRule C_PulseError C_TooLong : Addr}
    (hn_x : PySem.W.specialIn K (.builtin "object.__class__") "__get__" = some (some (.builtin "getset_descriptor.__get__")))
    (ht_x : PySem.W.takesIn K (.builtin "object.__class__") = some true)
    (cg_BadRule : PySem.W.nsIn K mainGlobals "BadRule" = some (some (.ref C_BadRule)))
    (ck_BadRule : PySem.W.keepIn K (.ref C_BadRule) = true)
    (cb_BadRule : PySem.W.subIn K (.ref C_BadRule) (.type "BaseException") = some true)
    (ct_BadRule : PySem.W.typeIn K (.ref C_BadRule) = some (.type "type"))
    (ci_BadRule : PySem.W.isClsIn K C_BadRule = true)
    (cv_BadRule : PySem.W.subIn K (.ref C_BadRule) (.type "ValueError") = some true)
    (cs_BadRule : PySem.W.subIn K (.ref C_BadRule) (.ref C_BadRule) = some true)
    (ca_BadRule : PySem.W.findIn K (.ref C_BadRule) "__getattribute__" = some (some (.builtin "BaseException.__getattribute__")))
    (cr_BadRule : PySem.W.findIn K (.ref C_BadRule) "__getattr__" = some none)
    (cd_BadRule : PySem.W.hasDictIn K C_BadRule = true)
    (cl_BadRule : PySem.W.findIn K (.ref C_BadRule) "__class__" = some (some (.builtin "object.__class__")))
    (cm_BadRule : PySem.W.mroIn K C_BadRule (.type "object") = some true)
    (cg_PulseError : PySem.W.nsIn K mainGlobals "PulseError" = some (some (.ref C_PulseError)))
    (cx_PulseError : PySem.W.excIn K C_PulseError [.type "ValueError", .type "Exception", .type "BaseException", .type "object"] "ValueError.__new__" = true)
    (ck_PulseError : PySem.W.keepIn K (.ref C_PulseError) = true)
    (cb_PulseError : PySem.W.subIn K (.ref C_PulseError) (.type "BaseException") = some true)
    (ct_PulseError : PySem.W.typeIn K (.ref C_PulseError) = some (.type "type"))
    (ci_PulseError : PySem.W.isClsIn K C_PulseError = true)
    (cv_PulseError : PySem.W.subIn K (.ref C_PulseError) (.type "ValueError") = some true)
    (cs_PulseError : PySem.W.subIn K (.ref C_PulseError) (.ref C_PulseError) = some true)
    (ca_PulseError : PySem.W.findIn K (.ref C_PulseError) "__getattribute__" = some (some (.builtin "BaseException.__getattribute__")))
    (cr_PulseError : PySem.W.findIn K (.ref C_PulseError) "__getattr__" = some none)
    (cd_PulseError : PySem.W.hasDictIn K C_PulseError = true)
    (cl_PulseError : PySem.W.findIn K (.ref C_PulseError) "__class__" = some (some (.builtin "object.__class__")))
    (cm_PulseError : PySem.W.mroIn K C_PulseError (.type "object") = some true)
    (cg_TooLong : PySem.W.nsIn K mainGlobals "TooLong" = some (some (.ref C_TooLong)))
    (cx_TooLong : PySem.W.excIn K C_TooLong [.type "ValueError", .type "Exception", .type "BaseException", .type "object"] "ValueError.__new__" = true)
    (ck_TooLong : PySem.W.keepIn K (.ref C_TooLong) = true)
    (cb_TooLong : PySem.W.subIn K (.ref C_TooLong) (.type "BaseException") = some true)
    (ct_TooLong : PySem.W.typeIn K (.ref C_TooLong) = some (.type "type"))
    (ci_TooLong : PySem.W.isClsIn K C_TooLong = true)
    (cv_TooLong : PySem.W.subIn K (.ref C_TooLong) (.type "ValueError") = some true)
    (cs_TooLong : PySem.W.subIn K (.ref C_TooLong) (.ref C_TooLong) = some true)
    (ca_TooLong : PySem.W.findIn K (.ref C_TooLong) "__getattribute__" = some (some (.builtin "BaseException.__getattribute__")))
    (cr_TooLong : PySem.W.findIn K (.ref C_TooLong) "__getattr__" = some none)
    (cd_TooLong : PySem.W.hasDictIn K C_TooLong = true)
    (cl_TooLong : PySem.W.findIn K (.ref C_TooLong) "__class__" = some (some (.builtin "object.__class__")))
    (cm_TooLong : PySem.W.mroIn K C_TooLong (.type "object") = some true)
    (cs_BadRule_PulseError : PySem.W.subIn K (.ref C_BadRule) (.ref C_PulseError) = some true)
    (cs_BadRule_TooLong : PySem.W.subIn K (.ref C_BadRule) (.ref C_TooLong) = some false)
    (cs_TooLong_BadRule : PySem.W.subIn K (.ref C_TooLong) (.ref C_BadRule) = some false)
    (cs_TooLong_PulseError : PySem.W.subIn K (.ref C_TooLong) (.ref C_PulseError) = some true)
    {f_init N_i : Addr} {nm_i q_i : Str} {bs_i sub_i : List Value} {sn_i : List Str} {ab_i : Bool} {col_i : Option Bool} {dd_i od_i an_i : Option Addr} {m0_i m1_i m2_i m3_i m5_i : Option Value} {oc_i kV_i dc_i pm_i cd_i ct_i : Value} {sl_i : Array (Option Value)}
    (ix_i : K.lookup C_BadRule = some (excClassObj nm_i q_i C_BadRule N_i bs_i [.ref C_PulseError, .type "ValueError", .type "Exception", .type "BaseException", .type "object"] true sn_i sub_i ab_i col_i dd_i m0_i m1_i m2_i m3_i m5_i "ValueError.__new__"))
    (is_i : PySem.W.findIn K (.ref C_BadRule) "__setattr__" = some (some (.builtin "object.__setattr__")))
    (ia_i : PySem.W.findIn K (.ref C_BadRule) "at" = some none)
    (ii_i : PySem.W.findIn K (.ref C_BadRule) "__init__" = some (some (.ref f_init)))
    (it_i : PySem.W.typeIn K (.ref f_init) = some (.type "function"))
    (il_i : K.lookup f_init = some ⟨oc_i, od_i, .func (PySem.W.fnOf "__init__" "BadRule.__init__" (defArgs s_init) (defBody s_init) (defScope s_init) .none kV_i dc_i pm_i an_i cd_i ct_i), sl_i⟩)
    (ic_i : PySem.W.codeIn K cd_i "BadRule.__init__" = true)
    (ik_i : PySem.W.keepIn K (.ref f_init) = true)
    (bs_b : PySem.W.specialIn K (.ref C_PulseError) "__getattribute__" = some (some (.builtin "type.__getattribute__")))
    (br_b : PySem.W.readsIn K C_PulseError (.type "type") = true)
    (bf_b : PySem.W.findCls K (.ref C_PulseError) (.type "type") "__init__" = some (.val (.builtin "ValueError.__init__")))
    : LamX.LawAtS l w K CX0 8 63 "_law_script" mg fa h := by
  have e := hfa.symm.trans (PySem.W.mg_of X G a20)
  cases e
  have bt : Bt mg := ⟨PySem.W.mg_none_of X G z_len, PySem.W.mg_none_of X G z_range, PySem.W.mg_none_of X G z_int, PySem.W.mg_none_of X G z_list, PySem.W.mg_none_of X G z_tuple, PySem.W.mg_none_of X G z_max, PySem.W.mg_none_of X G z_min, PySem.W.mg_none_of X G z_isinstance, PySem.W.mg_none_of X G z_bool, PySem.W.mg_none_of X G z_str, PySem.W.mg_none_of X G z_sum, PySem.W.mg_none_of X G z_sorted, PySem.W.mg_none_of X G z_any, PySem.W.mg_none_of X G z_enumerate, PySem.W.mg_none_of X G z_ValueError⟩
  have g_MOST_HEAD : ∃ t, mg "MOST_HEAD" = some (.int 400 t) := ⟨_, PySem.W.mg_of X G v_MOST_HEAD⟩
  have g_MOST_BAR : ∃ t, mg "MOST_BAR" = some (.int 200 t) := ⟨_, PySem.W.mg_of X G v_MOST_BAR⟩
  letI TI : Evn.Tbs := ⟨[(P_either, ((("either" : Str) ++ ".<locals>.") ++ "<lambda>" : Str))]⟩
  have x_PulseError : ExcAt K mg "PulseError" C_PulseError := ⟨PySem.W.mg_of X G cg_PulseError, cx_PulseError, ck_PulseError, cb_PulseError, ct_PulseError, ci_PulseError, cv_PulseError, ⟨ca_PulseError, cr_PulseError, cb_PulseError, cd_PulseError, cl_PulseError, hn_x, ht_x, cm_PulseError⟩⟩
  have x_TooLong : ExcAt K mg "TooLong" C_TooLong := ⟨PySem.W.mg_of X G cg_TooLong, cx_TooLong, ck_TooLong, cb_TooLong, ct_TooLong, ci_TooLong, cv_TooLong, ⟨ca_TooLong, cr_TooLong, cb_TooLong, cd_TooLong, cl_TooLong, hn_x, ht_x, cm_TooLong⟩⟩
  have r_BadRule_BadRule : Rel K C_BadRule C_BadRule true := ⟨exm_of cb_BadRule ci_BadRule ct_BadRule cs_BadRule, kit_of ci_BadRule ct_BadRule cs_BadRule cs_BadRule⟩
  have r_BadRule_PulseError : Rel K C_BadRule C_PulseError true := ⟨exm_of cb_PulseError ci_PulseError ct_PulseError cs_BadRule_PulseError, kit_of ci_PulseError ct_PulseError cs_BadRule_PulseError cs_PulseError⟩
  have r_BadRule_TooLong : Rel K C_BadRule C_TooLong false := ⟨exm_of cb_TooLong ci_TooLong ct_TooLong cs_BadRule_TooLong, kit_of ci_TooLong ct_TooLong cs_BadRule_TooLong cs_TooLong⟩
  have r_TooLong_BadRule : Rel K C_TooLong C_BadRule false := ⟨exm_of cb_BadRule ci_BadRule ct_BadRule cs_TooLong_BadRule, kit_of ci_BadRule ct_BadRule cs_TooLong_BadRule cs_BadRule⟩
  have r_TooLong_PulseError : Rel K C_TooLong C_PulseError true := ⟨exm_of cb_PulseError ci_PulseError ct_PulseError cs_TooLong_PulseError, kit_of ci_PulseError ct_PulseError cs_TooLong_PulseError cs_PulseError⟩
  have r_TooLong_TooLong : Rel K C_TooLong C_TooLong true := ⟨exm_of cb_TooLong ci_TooLong ct_TooLong cs_TooLong, kit_of ci_TooLong ct_TooLong cs_TooLong cs_TooLong⟩
  have tt_either := TT "either" (by decide) f9 C_either P_either _ _ _ _ _ _ (PySem.W.mg_of X G a9) l9 rfl rfl lc_either pv_either
  have tM_either : (P_either, ((("either" : Str) ++ ".<locals>.") ++ "<lambda>" : Str)) ∈ Evn.Tbs.T := (.head _)
  have tU_either : ∀ p ∈ Evn.Tbs.T, p.1 = P_either → p.2 = ((("either" : Str) ++ ".<locals>.") ++ "<lambda>" : Str) := tu_of (T := Evn.Tbs.T) nd_ tM_either
  have F0 := fun_mk (st := s_is_within) l0 c0 k0
  have d_is_within : Dfn K mg "is_within" s_is_within ["thing", "low", "high"] := ⟨_, _, F0, PySem.W.mg_of X G a0, F0.binds fun _ _ _ _ _ _ us hl => match us, hl with | [_, _, _], _ => rfl⟩
  have F1 := fun_mk (st := s_divisor) l1 c1 k1
  have d_divisor : Dfn K mg "divisor" s_divisor ["a", "b"] := ⟨_, _, F1, PySem.W.mg_of X G a1, F1.binds fun _ _ _ _ _ _ us hl => match us, hl with | [_, _], _ => rfl⟩
  have F2 := fun_mk (st := s_multiple) l2 c2 k2
  have d_multiple : Dfn K mg "multiple" s_multiple ["a", "b"] := ⟨_, _, F2, PySem.W.mg_of X G a2, F2.binds fun _ _ _ _ _ _ us hl => match us, hl with | [_, _], _ => rfl⟩
  have F3 := fun_mk (st := s_shortest_bar) l3 c3 k3
  have d_shortest_bar : Dfn K mg "shortest_bar" s_shortest_bar ["bar"] := ⟨_, _, F3, PySem.W.mg_of X G a3, F3.binds fun _ _ _ _ _ _ us hl => match us, hl with | [_], _ => rfl⟩
  have F4 := fun_mk (st := s_tight) l4 c4 k4
  have d_tight : Dfn K mg "tight" s_tight ["head", "bar"] := ⟨_, _, F4, PySem.W.mg_of X G a4, F4.binds fun _ _ _ _ _ _ us hl => match us, hl with | [_, _], _ => rfl⟩
  have F5 := fun_mk (st := s_fitted) l5 c5 k5
  have d_fitted : Dfn K mg "fitted" s_fitted ["head", "bar"] := ⟨_, _, F5, PySem.W.mg_of X G a5, F5.binds fun _ _ _ _ _ _ us hl => match us, hl with | [_, _], _ => rfl⟩
  have F6 := fun_mk (st := s_has) l6 c6 k6
  have d_has : Dfn K mg "has" s_has ["pulse", "day"] := ⟨_, _, F6, PySem.W.mg_of X G a6, F6.binds fun _ _ _ _ _ _ us hl => match us, hl with | [_, _], _ => rfl⟩
  have F7 := fun_mk (st := s_never) l7 c7 k7
  have d_never : Dfn K mg "never" s_never [] := ⟨_, _, F7, PySem.W.mg_of X G a7, F7.binds fun _ _ _ _ _ _ us hl => match us, hl with | [], _ => rfl⟩
  have F8 := fun_mk (st := s_joined) l8 c8 k8
  have d_joined : Dfn K mg "joined" s_joined ["one", "two", "choose"] := ⟨_, _, F8, PySem.W.mg_of X G a8, F8.binds fun _ _ _ _ _ _ us hl => match us, hl with | [_, _, _], _ => rfl⟩
  have F9 := fun_mk (st := s_either) l9 c9 k9
  have d_either : DfnC K mg "either" s_either ["one", "other"] C_either := ⟨_, _, _, _, _, _, _, _, _, l9, c9, PySem.W.mg_of X G a9, k9, F9.binds fun _ _ _ _ _ _ us hl => match us, hl with | [_, _], _ => rfl⟩
  have F10 := fun_mk (st := s_is_rule) l10 c10 k10
  have d_is_rule : Dfn K mg "is_rule" s_is_rule ["thing"] := ⟨_, _, F10, PySem.W.mg_of X G a10, F10.binds fun _ _ _ _ _ _ us hl => match us, hl with | [_], _ => rfl⟩
  have F11 := fun_mk (st := s_from_rule) l11 c11 k11
  have d_from_rule : Dfn K mg "from_rule" s_from_rule ["rule"] := ⟨_, _, F11, PySem.W.mg_of X G a11, F11.binds fun _ _ _ _ _ _ us hl => match us, hl with | [_], _ => rfl⟩
  have F12 := fun_mk (st := s_from_rules) l12 c12 k12
  have d_from_rules : Dfn K mg "from_rules" s_from_rules ["rules"] := ⟨_, _, F12, PySem.W.mg_of X G a12, F12.binds fun _ _ _ _ _ _ us hl => match us, hl with | [_], _ => rfl⟩
  have F13 := fun_mk (st := s_law_cell) l13 c13 k13
  have d_law_cell : Dfn K mg "_law_cell" s_law_cell ["_law_script", "_law_k"] := ⟨_, _, F13, PySem.W.mg_of X G a13, F13.binds fun _ _ _ _ _ _ us hl => match us, hl with | [_, _], _ => rfl⟩
  have F14 := fun_mk (st := s_law_mix) l14 c14 k14
  have d_law_mix : Dfn K mg "_law_mix" s_law_mix ["_law_cell_here", "_law_prime", "_law_many"] := ⟨_, _, F14, PySem.W.mg_of X G a14, F14.binds fun _ _ _ _ _ _ us hl => match us, hl with | [_, _, _], _ => rfl⟩
  have F15 := fun_mk (st := s_law_rule) l15 c15 k15
  have d_law_rule : Dfn K mg "_law_rule" s_law_rule ["_law_cell_here"] := ⟨_, _, F15, PySem.W.mg_of X G a15, F15.binds fun _ _ _ _ _ _ us hl => match us, hl with | [_], _ => rfl⟩
  have F16 := fun_mk (st := s_law_rules) l16 c16 k16
  have d_law_rules : Dfn K mg "_law_rules" s_law_rules ["_law_script"] := ⟨_, _, F16, PySem.W.mg_of X G a16, F16.binds fun _ _ _ _ _ _ us hl => match us, hl with | [_], _ => rfl⟩
  have F17 := fun_mk (st := s_law_told) l17 c17 k17
  have d_law_told : Dfn K mg "_law_told" s_law_told ["_law_rules_here"] := ⟨_, _, F17, PySem.W.mg_of X G a17, F17.binds fun _ _ _ _ _ _ us hl => match us, hl with | [_], _ => rfl⟩
  have F18 := fun_mk (st := s_law_odd) l18 c18 k18
  have d_law_odd : Dfn K mg "_law_odd" s_law_odd ["_law_cell_here"] := ⟨_, _, F18, PySem.W.mg_of X G a18, F18.binds fun _ _ _ _ _ _ us hl => match us, hl with | [_], _ => rfl⟩
  have F19 := fun_mk (st := s_law_same) l19 c19 k19
  have d_law_same : Dfn K mg "_law_same" s_law_same ["_law_found", "_law_at"] := ⟨_, _, F19, PySem.W.mg_of X G a19, F19.binds fun _ _ _ _ _ _ us hl => match us, hl with | [_, _], _ => rfl⟩
  have F20 := fun_mk (st := s_law) l20 c20 k20
  have d_law : Dfn K mg "law" s_law ["_law_script"] := ⟨_, _, F20, PySem.W.mg_of X G a20, F20.binds fun _ _ _ _ _ _ us hl => match us, hl with | [_], _ => rfl⟩
  refine ⟨PySem.W.fnOf "law" "law" (defArgs s_law) (defBody s_law) (defScope s_law) .none kV20 dc20 pm20 an20 cd20 ct20, [(C_either, P_either)], sp_lawT K, (List.forall_mem_cons.mpr ⟨tt_either.1, List.forall_mem_nil _⟩),
    (List.forall_mem_cons.mpr ⟨nt_either, List.forall_mem_nil _⟩),
    (List.forall_mem_cons.mpr ⟨tt_either.2, List.forall_mem_nil _⟩), fun s v => .of_eq rfl, fun H a ns hl _ hH hS => ⟨(List.forall_mem_cons.mpr ⟨LamX.TabS.nil (hH (C_either, P_either) (.head _)), List.forall_mem_nil _⟩), law_start0 K H a ns hl hS⟩, fun base _ _ tbs => ?_⟩
  have tB_either : LamX.TabB base mg C_either P_either := tbs (C_either, P_either) (.head _)
  have F_init := fun_mk (st := s_init) il_i ic_i ik_i
  have x_BadRule : IniAt l.prog w K mg base "BadRule" C_BadRule := ⟨PySem.W.mg_of X G cg_BadRule, ⟨⟨_, _, _, _, _, _, _, _, _, _, _, _, _, _, _, ix_i, (show PySem.HandSPX.refsVE [.type "ValueError", .type "Exception", .type "BaseException", .type "object"] = true by decide +kernel)⟩, is_i, cb_BadRule, ct_BadRule, ck_BadRule⟩, ia_i, ⟨f_init, _, ii_i, it_i, ok_init F_init ⟨x_PulseError.g, bs_b, br_b, bf_b⟩, F_init.binds fun _ _ _ _ _ _ us hl => match us, hl with | [_, _], _ => rfl⟩, ⟨ca_BadRule, cr_BadRule, cb_BadRule, cd_BadRule, cl_BadRule, hn_x, ht_x, cm_BadRule⟩, cv_BadRule, ⟨ca_BadRule, cr_BadRule, cb_BadRule, cd_BadRule⟩⟩
  have c_is_within : Can l.prog w K mg base CX0 1 "is_within" (sp_is_within K) := can_is_within d_is_within bt
  have c_divisor : Can l.prog w K mg base CX0 1 "divisor" (sp_divisor K) := can_divisor d_divisor bt
  have c_shortest_bar : Can l.prog w K mg base CX0 1 "shortest_bar" (sp_shortest_bar K) := can_shortest_bar d_shortest_bar bt
  have c_has : Can l.prog w K mg base CX0 1 "has" (sp_has K) := can_has d_has bt
  have c_never : Can l.prog w K mg base CX0 1 "never" (sp_never K) := can_never d_never bt
  have c_from_rule : Can l.prog w K mg base CX0 1 "from_rule" (sp_from_rule K) := can_from_rule d_from_rule bt
  have c_law_cell : Can l.prog w K mg base CX0 1 "_law_cell" (sp_law_cell K) := can_law_cell d_law_cell bt
  have c_law_mix : Can l.prog w K mg base CX0 1 "_law_mix" (sp_law_mix K) := can_law_mix d_law_mix bt
  have c_law_odd : Can l.prog w K mg base CX0 1 "_law_odd" (sp_law_odd K) := can_law_odd d_law_odd bt
  have c_law_same : Can l.prog w K mg base CX0 1 "_law_same" (sp_law_same K) := can_law_same d_law_same bt
  have c_multiple : Can l.prog w K mg base CX0 2 "multiple" (sp_multiple K) := can_multiple d_multiple bt c_divisor
  have c_tight : Can l.prog w K mg base CX0 2 "tight" (sp_tight K) := can_tight d_tight bt c_shortest_bar
  have c_is_rule : Can l.prog w K mg base CX0 2 "is_rule" (sp_is_rule K) := can_is_rule d_is_rule bt c_is_within
  have c_law_rule : Can l.prog w K mg base CX0 2 "_law_rule" (sp_law_rule K) := can_law_rule d_law_rule bt c_law_mix
  have c_fitted : Can l.prog w K mg base (L2.CX l.prog w) 3 "fitted" (sp_fitted K C_TooLong) := can_fitted d_fitted bt c_tight g_MOST_BAR g_MOST_HEAD x_TooLong
  have c_law_rules : Can l.prog w K mg base CX0 3 "_law_rules" (sp_law_rules K) := can_law_rules d_law_rules bt c_law_rule c_law_cell
  have c_joined : Can l.prog w K mg base (L2.CX l.prog w) 4 "joined" (sp_joined K C_TooLong) := can_joined d_joined bt c_multiple c_fitted c_has
  have c_either : Can l.prog w K mg base (L2.CX l.prog w) 5 "either" (sp_either K C_TooLong) := can_either d_either tB_either tM_either tU_either bt c_joined
  have c_from_rules : Can l.prog w K mg base (L2.CX l.prog w) 6 "from_rules" (sp_from_rules K C_BadRule C_TooLong) := can_from_rules d_from_rules bt c_never c_from_rule c_either c_is_rule c_fitted x_BadRule
  have c_law_told : Can l.prog w K mg base CX0 7 "_law_told" (sp_law_told K) := can_law_told d_law_told bt c_from_rules x_BadRule x_PulseError x_TooLong r_BadRule_BadRule r_BadRule_PulseError r_BadRule_TooLong r_TooLong_BadRule r_TooLong_PulseError r_TooLong_TooLong
  exact can_law F20 bt c_law_rules c_law_told c_law_cell c_law_same c_law_odd
end Pb
open PySem PySem.W PyProof.Rows
set_option maxRecDepth 100000 in
set_option maxHeartbeats 0 in
theorem PySem.Challenge.cw_pulsebook_k18_bad_rules_holds : PySem.Challenge.rw_pulsebook_k18_bad_rules.Holds := by
  w_on; o_law; k_head; (case hw => w_witness2)
  k_fill
  refine Pb.walk_tabs (l := PySem.Challenge.rw_pulsebook_k18_bad_rules) (n := 63) (k := 8) (x := "_law_script") (xs := ["either"]) rfl (by decide) rfl ⟨rfl, by decide, by decide⟩ (by decide +kernel) (fun w h Y => PySem.W.km_in_of Y) ?F
  case F =>
    intro w mg fa h Y KX G hmg TT
    refine' Pb.all_mk KX G hmg TT ?a0 ?l0 ?c0 ?k0 ?a1 ?l1 ?c1 ?k1 ?a2 ?l2 ?c2 ?k2 ?a3 ?l3 ?c3 ?k3 ?a4 ?l4 ?c4 ?k4 ?a5 ?l5 ?c5 ?k5 ?a6 ?l6 ?c6 ?k6 ?a7 ?l7 ?c7 ?k7 ?a8 ?l8 ?c8 ?k8 ?a9 ?l9 ?c9 ?k9 ?lc_either ?pv_either ?nt_either ?a10 ?l10 ?c10 ?k10 ?a11 ?l11 ?c11 ?k11 ?a12 ?l12 ?c12 ?k12 ?a13 ?l13 ?c13 ?k13 ?a14 ?l14 ?c14 ?k14 ?a15 ?l15 ?c15 ?k15 ?a16 ?l16 ?c16 ?k16 ?a17 ?l17 ?c17 ?k17 ?a18 ?l18 ?c18 ?k18 ?a19 ?l19 ?c19 ?k19 ?a20 ?l20 ?c20 ?k20 ?nd_ ?z_len ?z_range ?z_int ?z_list ?z_tuple ?z_max ?z_min ?z_isinstance ?z_bool ?z_str ?z_sum ?z_sorted ?z_any ?z_enumerate ?z_ValueError ?v_MOST_HEAD ?v_MOST_BAR ?hn_x ?ht_x ?cg_BadRule ?ck_BadRule ?cb_BadRule ?ct_BadRule ?ci_BadRule ?cv_BadRule ?cs_BadRule ?ca_BadRule ?cr_BadRule ?cd_BadRule ?cl_BadRule ?cm_BadRule ?cg_PulseError ?cx_PulseError ?ck_PulseError ?cb_PulseError ?ct_PulseError ?ci_PulseError ?cv_PulseError ?cs_PulseError ?ca_PulseError ?cr_PulseError ?cd_PulseError ?cl_PulseError ?cm_PulseError ?cg_TooLong ?cx_TooLong ?ck_TooLong ?cb_TooLong ?ct_TooLong ?ci_TooLong ?cv_TooLong ?cs_TooLong ?ca_TooLong ?cr_TooLong ?cd_TooLong ?cl_TooLong ?cm_TooLong ?cs_BadRule_PulseError ?cs_BadRule_TooLong ?cs_TooLong_BadRule ?cs_TooLong_PulseError ?ix_i ?is_i ?ia_i ?ii_i ?it_i ?il_i ?ic_i ?ik_i ?bs_b ?br_b ?bf_b
    (case a0 => k_is); (case l0 => k_is); (case c0 => k_is); (case k0 => k_is); (case a1 => k_is); (case l1 => k_is); (case c1 => k_is); (case k1 => k_is); (case a2 => k_is); (case l2 => k_is); (case c2 => k_is); (case k2 => k_is); (case a3 => k_is); (case l3 => k_is); (case c3 => k_is); (case k3 => k_is); (case a4 => k_is); (case l4 => k_is); (case c4 => k_is); (case k4 => k_is); (case a5 => k_is); (case l5 => k_is); (case c5 => k_is); (case k5 => k_is); (case a6 => k_is); (case l6 => k_is); (case c6 => k_is); (case k6 => k_is); (case a7 => k_is); (case l7 => k_is); (case c7 => k_is); (case k7 => k_is); (case a8 => k_is); (case l8 => k_is); (case c8 => k_is); (case k8 => k_is); (case a9 => k_is); (case l9 => k_is); (case c9 => k_is); (case k9 => k_is); (case lc_either => k_is); (case pv_either => rfl); (case nt_either => first | rfl | decide +kernel); (case a10 => k_is); (case l10 => k_is); (case c10 => k_is); (case k10 => k_is); (case a11 => k_is); (case l11 => k_is); (case c11 => k_is); (case k11 => k_is); (case a12 => k_is); (case l12 => k_is); (case c12 => k_is); (case k12 => k_is); (case a13 => k_is); (case l13 => k_is); (case c13 => k_is); (case k13 => k_is); (case a14 => k_is); (case l14 => k_is); (case c14 => k_is); (case k14 => k_is); (case a15 => k_is); (case l15 => k_is); (case c15 => k_is); (case k15 => k_is); (case a16 => k_is); (case l16 => k_is); (case c16 => k_is); (case k16 => k_is); (case a17 => k_is); (case l17 => k_is); (case c17 => k_is); (case k17 => k_is); (case a18 => k_is); (case l18 => k_is); (case c18 => k_is); (case k18 => k_is); (case a19 => k_is); (case l19 => k_is); (case c19 => k_is); (case k19 => k_is); (case a20 => k_is); (case l20 => k_is); (case c20 => k_is); (case k20 => k_is); (case nd_ => decide); (case z_len => k_is); (case z_range => k_is); (case z_int => k_is); (case z_list => k_is); (case z_tuple => k_is); (case z_max => k_is); (case z_min => k_is); (case z_isinstance => k_is); (case z_bool => k_is); (case z_str => k_is); (case z_sum => k_is); (case z_sorted => k_is); (case z_any => k_is); (case z_enumerate => k_is); (case z_ValueError => k_is); (case v_MOST_HEAD => k_is); (case v_MOST_BAR => k_is); (case hn_x => k_is); (case ht_x => k_is); (case cg_BadRule => k_is); (case ck_BadRule => k_is); (case cb_BadRule => k_is); (case ct_BadRule => k_is); (case ci_BadRule => k_is); (case cv_BadRule => k_is); (case cs_BadRule => first | rfl | k_is); (case ca_BadRule => k_is); (case cr_BadRule => k_is); (case cd_BadRule => k_is); (case cl_BadRule => k_is); (case cm_BadRule => k_is); (case cg_PulseError => k_is); (case cx_PulseError => k_exc); (case ck_PulseError => k_is); (case cb_PulseError => k_is); (case ct_PulseError => k_is); (case ci_PulseError => k_is); (case cv_PulseError => k_is); (case cs_PulseError => first | rfl | k_is); (case ca_PulseError => k_is); (case cr_PulseError => k_is); (case cd_PulseError => k_is); (case cl_PulseError => k_is); (case cm_PulseError => k_is); (case cg_TooLong => k_is); (case cx_TooLong => k_exc); (case ck_TooLong => k_is); (case cb_TooLong => k_is); (case ct_TooLong => k_is); (case ci_TooLong => k_is); (case cv_TooLong => k_is); (case cs_TooLong => first | rfl | k_is); (case ca_TooLong => k_is); (case cr_TooLong => k_is); (case cd_TooLong => k_is); (case cl_TooLong => k_is); (case cm_TooLong => k_is); (case cs_BadRule_PulseError => first | rfl | k_is); (case cs_BadRule_TooLong => first | rfl | k_is); (case cs_TooLong_BadRule => first | rfl | k_is); (case cs_TooLong_PulseError => first | rfl | k_is); (case ix_i => k_is); (case is_i => k_is); (case ia_i => k_is); (case ii_i => k_is); (case it_i => k_is); (case il_i => k_is); (case ic_i => k_is); (case ik_i => k_is); (case bs_b => k_is); (case br_b => k_is); (case bf_b => k_is)
#print axioms PySem.Challenge.cw_pulsebook_k18_bad_rules_holds

