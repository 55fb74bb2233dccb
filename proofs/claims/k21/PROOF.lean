import PyProof.Rows.All
import Wide.All
import OpenK.AllK
import Wide.FinOn
import HandS.ForMost
import HandS.ForExc
import HandS.Lambda
import HandS.EndTab
import HandS.TupAny
import HandS.TupMul
import HandS.TupLe
import HandS.Codes
import HandS.IsInst
import HandS.Conv
import PyProof.Rows.ListMulArg
import HandS.Walk
import HandS.Dict
import HandS.WordsExc
import HandS.TryOnly
import HandS.ExcOwn
import HandS.ExcIs
import HandS.Text
import HandS.SuiteRaise
import PySem.Challenge.RW_pulsebook_k21_spoilt_texts
set_option Elab.async false
set_option linter.all false
set_option maxRecDepth 100000
set_option maxHeartbeats 4000000
/-! # what stays: all that is tracked but the tables of code objects, which grow well (in the place of the kit's Ex) -/
namespace Evn
open PySem PySem.Spec PyProof.Rows L2 LamX
def nt : HO → Prop
  | .tbl _ => False
  | _ => True
def nx : HO → Prop
  | .ext _ => False
  | _ => True
class Tbs where
  T : List (Addr × Str)
variable [Tbs]
structure Ex (H H' : Hp) : Prop where
  kp : ∀ (a : Addr) (o : HO), H a = some o → (_ : nt o := by exact True.intro) → H' a = some o
  tt : ∀ (a : Addr) (ps : Array Value), H a = some (.tbl ps) → ∃ qs, H' a = some (.tbl qs)
  tb : Tabs Tbs.T H → Tabs Tbs.T H'
instance {H H' : Hp} : CoeFun (Ex H H') (fun _ => ∀ (a : Addr) (o : HO), H a = some o → (_ : nt o := by exact True.intro) → H' a = some o) := ⟨@Ex.kp _ H H'⟩
theorem Ex.refl (H : Hp) : Ex H H := ⟨fun _ _ z _ => z, fun _ ps z => ⟨ps, z⟩, fun z => z⟩
theorem Ex.trans {H G F : Hp} (x : Ex H G) (y : Ex G F) : Ex H F := ⟨fun a o z n => y.kp a o (x.kp a o z n) n, fun a ps z => by
  obtain ⟨qs, z2⟩ := x.tt a ps z
  exact y.tt a qs z2, fun z => y.tb (x.tb z)⟩
theorem Ex.of {H G : Hp} (x : ∀ b o, H b = some o → G b = some o) : Ex H G := ⟨fun a o z _ => x a o z, fun a ps z => ⟨ps, x a _ z⟩, fun z => z.ext x⟩
theorem Ex.new {G : Hp} {a : Addr} {o : HO} (z : G a = none) : Ex G (upd G a o) := Ex.of fun b w zb => by
  rw [upd_ne (ne_of_none zb z)]
  exact zb
theorem nx_ne {G : Hp} {a c : Addr} {o : HO} {φ : Heap → Prop} (z : G a = some o) (n : nx o) (zc : G c = some (.ext φ)) : c ≠ a := fun e => by
  subst e
  rw [z] at zc
  cases zc
  exact n
/-- an object that the first heap does not know, of a kind that no table tells of, may change -/
theorem Ex.mut {H G : Hp} {a : Addr} {u o : HO} (x : Ex H G) (z : H a = none) (zo : G a = some o) (n : nx o := by exact True.intro) : Ex H (upd G a u) := by
  refine ⟨fun b w zb nb => ?_, fun b ps zb => ?_, fun zt p hp => ?_⟩
  · rw [upd_ne (ne_of_none zb z)]
    exact x.kp b w zb nb
  · rw [upd_ne (ne_of_none zb z)]
    exact x.tt b ps zb
  · have hP : p.1 ≠ a := by
      obtain ⟨ps, zp, _⟩ := zt p hp
      exact ne_of_none zp z
    obtain ⟨ps, z1, z2, z3⟩ := x.tb zt p hp
    refine ⟨ps, by rw [upd_ne hP]; exact z1, z2, fun pos cv hc => ?_⟩
    obtain ⟨c, e1, e2⟩ := z3 pos cv hc
    exact ⟨c, e1, by rw [upd_ne (nx_ne zo n e2)]; exact e2⟩
theorem rd_ex {H G : Hp} {a : Addr} {u : HO} (x : Ex H G) (n : nt u) (r : Rd H a u) : Rd G a u := r.elim (fun z => .inl (x.kp a u z n)) fun ⟨o, z⟩ => .inr ⟨o, x.kp a _ z True.intro⟩
theorem ex_l {K : PySem.W.Frag} {H G : Hp} {a : Addr} {ys : List V} (x : Ex H G) (r : SqL K H a ys) : SqL K G a ys := r.imp (rd_ex x True.intro) id
theorem ex_t {K : PySem.W.Frag} {H G : Hp} {a : Addr} {ys : List V} (x : Ex H G) (r : SqT K H a ys) : SqT K G a ys := r.imp (rd_ex x True.intro) id
theorem sq_of {K : PySem.W.Frag} {G : Hp} {a : Addr} {ys : List V} (z : G a = some (.lst ys)) : SqL K G a ys := .inl (.inl z)
theorem st_of {K : PySem.W.Frag} {G : Hp} {a : Addr} {ys : List V} (z : G a = some (.tup ys)) : SqT K G a ys := .inl (.inl z)
theorem sz_of {k : Nat} (z : k ≤ 100000) : k ≤ sizeLine := Nat.le_trans z (by decide)
theorem sz_lt {k : Nat} (z : k < 100000) : k < sizeLine := Nat.lt_of_lt_of_le z (by decide)
theorem fresh_back {H G : Hp} {a : Addr} (x : Ex H G) (z : G a = none) : H a = none := by
  cases e : H a with
  | none => rfl
  | some o =>
    have key : G a ≠ none := by
      cases o with
      | tbl ps =>
        obtain ⟨qs, z2⟩ := x.tt a ps e
        rw [z2]
        simp
      | _ =>
        rw [x.kp a _ e True.intro]
        simp
    exact absurd z key
/-! ### one value, one truth, one part -/
def Ev (te : TE) (σ : L2.St) (H : Hp) (v : V) : Prop := ∀ G, Ex H G → ∀ Q : VK, (∀ F, Ex G F → Q v F) → te σ G Q
def EvT (t : TT) (σ : L2.St) (H : Hp) (k : Bool) : Prop := ∀ G, Ex H G → ∀ Q : Bool → Hp → Prop, (∀ F, Ex G F → Q k F) → t σ G Q
def EvO (to : TO) (σ : L2.St) (H : Hp) (o : Option Int) : Prop := ∀ G, Ex H G → ∀ Q : Option Int → Hp → Prop, (∀ F, Ex G F → Q o F) → to σ G Q
section
variable {K : PySem.W.Frag} {σ : L2.St} {H : Hp} {ta tb te : TE} {t u : TT} {v : V} {D : Ends} {tu tw tz : TS}
theorem ev_var {i : Nat} (z : σ[i]? = some (some v)) : Ev (tVar i) σ H v := fun G _ _ q => ⟨v, z, q G (.refl G)⟩
theorem et_test {b : Bool} (e : Ev te σ H (.bl b)) : EvT (tTest te) σ H b := fun G x _ q => e G x _ fun F y => ⟨b, rfl, q F y⟩
theorem et_B {b : Bool} (e : Ev te σ H (.bl b)) : EvT (tB te) σ H b := fun G x _ q => e G x _ fun F y => ⟨b, rfl, q F y⟩
theorem et_and {a b : Bool} (e : EvT t σ H a) (f : a = true → EvT u σ H b) : EvT (tAnd t u) σ H (a && b) := by
  intro G x Q q
  refine e G x _ fun F y => ?_
  cases a
  · exact (show Q false F from q F y)
  · exact (show u σ F Q from f rfl F (x.trans y) Q fun E w => q E (y.trans w))
theorem et_or {a b : Bool} (e : EvT t σ H a) (f : a = false → EvT u σ H b) : EvT (tOr t u) σ H (a || b) := by
  intro G x Q q
  refine e G x _ fun F y => ?_
  cases a
  · exact (show u σ F Q from f rfl F (x.trans y) Q fun E w => q E (y.trans w))
  · exact (show Q true F from q F y)
theorem et_not {a : Bool} (e : EvT t σ H a) : EvT (tNot t) σ H (!a) := fun G x _ q => e G x _ q
theorem ev_andV {a b : Bool} (e : Ev ta σ H (.bl a)) (f : a = true → Ev tb σ H (.bl b)) : Ev (tAndV ta tb) σ H (.bl (a && b)) := by
  intro G x Q q
  refine e G x _ fun F y => ⟨a, rfl, ?_⟩
  cases a
  · exact (show Q (.bl false) F from q F y)
  · exact (show tb σ F Q from f rfl F (x.trans y) Q fun E w => q E (y.trans w))
theorem ev_orV {a b : Bool} (e : Ev ta σ H (.bl a)) (f : a = false → Ev tb σ H (.bl b)) : Ev (tOrV ta tb) σ H (.bl (a || b)) := by
  intro G x Q q
  refine e G x _ fun F y => ⟨a, rfl, ?_⟩
  cases a
  · exact (show tb σ F Q from f rfl F (x.trans y) Q fun E w => q E (y.trans w))
  · exact (show Q (.bl true) F from q F y)
theorem ev_notV {a : Bool} (e : Ev ta σ H (.bl a)) : Ev (tNotV ta) σ H (.bl (!a)) := fun G x _ q => e G x _ fun F y => ⟨a, rfl, q F y⟩
theorem eo_none : EvO tNoPart σ H none := fun G _ _ q => q G (.refl G)
theorem eo_some {i : Int} (e : Ev te σ H (.int i)) : EvO (tPart te) σ H (some i) := fun G x _ q => e G x _ fun F y => ⟨i, rfl, q F y⟩
theorem s_if {b : Bool} (e : EvT t σ H b) (f : b = true → ∀ G, Ex H G → tu D σ G) (g : b = false → ∀ G, Ex H G → tw D σ G) : tIfS t tu tw D σ H := by
  refine e H (.refl H) _ fun G x => ?_
  cases b
  · exact (show tw D σ G from g rfl G x)
  · exact (show tu D σ G from f rfl G x)
theorem q_if {b : Bool} (e : EvT t σ H b) (f : b = true → ∀ G, Ex H G → tu { D with nx := tz D } σ G) (g : b = false → ∀ G, Ex H G → tw { D with nx := tz D } σ G) : tSeq (tIfS t tu tw) tz D σ H := s_if (D := { D with nx := tz D }) e f g
theorem q_when {b : Bool} (e : EvT t σ H b) (f : b = true → ∀ G, Ex H G → tu { D with nx := tz D } σ G) (g : b = false → ∀ G, Ex H G → tz D σ G) : tSeq (tIfS t tu tNext) tz D σ H := s_if (D := { D with nx := tz D }) e f g
theorem s_when {b : Bool} (e : EvT t σ H b) (f : b = true → ∀ G, Ex H G → tu D σ G) (g : b = false → ∀ G, Ex H G → D.nx σ G) : tIfS t tu tNext D σ H := s_if e f g
theorem s_while (W : Nat → L2.St → Hp → Prop) (m0 : Nat) (z : W m0 σ H)
    (step : ∀ m σ' G, W m σ' G → ∃ k, EvT t σ' G k ∧ (k = true → ∀ F, Ex G F → ∃ N : L2.St → Hp → Prop, (∀ σ2 E, N σ2 E → ∃ m', m' < m ∧ W m' σ2 E) ∧ tu { D with nx := N, ct := N, bk := D.nx } σ' F) ∧ (k = false → ∀ F, Ex G F → D.nx σ' F)) : tWhile t tu D σ H := by
  refine ⟨W, ⟨m0, z⟩, fun m σ' G w => ?_⟩
  obtain ⟨k, e, f, g⟩ := step m σ' G w
  refine e G (.refl G) _ fun F x => ?_
  cases k
  · exact g rfl F x
  · exact f rfl F x
theorem q_while (W : Nat → L2.St → Hp → Prop) (m0 : Nat) (z : W m0 σ H)
    (step : ∀ m σ' G, W m σ' G → ∃ k, EvT t σ' G k ∧ (k = true → ∀ F, Ex G F → ∃ N : L2.St → Hp → Prop, (∀ σ2 E, N σ2 E → ∃ m', m' < m ∧ W m' σ2 E) ∧ tu { D with nx := N, ct := N, bk := tz D } σ' F) ∧ (k = false → ∀ F, Ex G F → tz D σ' F)) : tSeq (tWhile t tu) tz D σ H :=
  s_while (D := { D with nx := tz D }) W m0 z step
end
end Evn

/-! # The layer: readings by data. What an expression is worth is told as data (PyData): EvD; the heap only grows (Ex). -/
namespace Pb
open PySem PySem.Spec PyProof.Rows L2 Evn
variable [Evn.Tbs]
abbrev PD := PySem.PyData

/-! ### data stays when the heap grows -/
mutual
theorem dp_ex {K : PySem.W.Frag} {H H' : Hp} (e : Ex H H') : ∀ {v : V} {d : PD}, Dp K H v d → Dp K H' v d
  | _, _, .non => .non
  | _, _, .bl b => .bl b
  | _, _, .int i => .int i
  | _, _, .str x => .str x
  | _, _, .lst h a => .lst (ex_l e h) (dpa_ex e a)
  | _, _, .tup h a => .tup (ex_t e h) (dpa_ex e a)
theorem dpa_ex {K : PySem.W.Frag} {H H' : Hp} (e : Ex H H') : ∀ {vs : List V} {ds : List PD}, DpAll K H vs ds → DpAll K H' vs ds
  | _, _, .nil => .nil
  | _, _, .cons h t => .cons (dp_ex e h) (dpa_ex e t)
end
section
variable {K : PySem.W.Frag} {H H' : Hp} {v : V} {xs ys : List V} {ds es : List PD}
theorem dp_int {i : Int} (h : Dp K H v (.int i)) : v = .int i := by cases h; rfl
theorem dp_bl {b : Bool} (h : Dp K H v (.bool b)) : v = .bl b := by cases h; rfl
theorem dp_str {b : Str} (h : Dp K H v (.str b)) : v = .str b := by cases h; rfl
theorem dp_non (h : Dp K H v .none) : v = .non := by cases h; rfl
theorem dp_tup (h : Dp K H v (.tuple ds)) : ∃ a xs, v = .ref a ∧ SqT K H a xs ∧ DpAll K H xs ds := by
  cases h with
  | tup h a => exact ⟨_, _, rfl, h, a⟩
theorem dp_lst (h : Dp K H v (.list ds)) : ∃ a xs, v = .ref a ∧ SqL K H a xs ∧ DpAll K H xs ds := by
  cases h with
  | lst h a => exact ⟨_, _, rfl, h, a⟩
theorem dpa_nil (h : DpAll K H xs []) : xs = [] := by cases h; rfl
theorem dpa_cons {d : PD} (h : DpAll K H xs (d :: ds)) : ∃ x r, xs = x :: r ∧ Dp K H x d ∧ DpAll K H r ds := by
  cases h with
  | cons h t => exact ⟨_, _, rfl, h, t⟩
theorem dpa_len : ∀ {xs : List V} {ds : List PD}, DpAll K H xs ds → xs.length = ds.length
  | _, _, .nil => rfl
  | _, _, .cons _ t => by rw [List.length_cons, List.length_cons, dpa_len t]
theorem dpa_get : ∀ {xs : List V} {ds : List PD} {i : Nat} {x : V}, DpAll K H xs ds → xs[i]? = some x → ∃ d, ds[i]? = some d ∧ Dp K H x d
  | _, _, _, _, .nil, e => by simp at e
  | _, _, 0, _, .cons h _, e => by simp at e; subst e; exact ⟨_, rfl, h⟩
  | _, _, i + 1, _, .cons _ t, e => by
    obtain ⟨d, h1, h2⟩ := dpa_get (i := i) t (by simpa using e)
    exact ⟨d, by simpa using h1, h2⟩
theorem dpa_at {i : Nat} {d : PD} (h : DpAll K H xs ds) (e : ds[i]? = some d) : ∃ x, xs[i]? = some x ∧ Dp K H x d := by
  have hl := dpa_len h
  have hi : i < ds.length := (List.getElem?_eq_some_iff.mp e).1
  obtain ⟨d', h1, h2⟩ := dpa_get (i := i) (x := xs[i]'(by omega)) h (by simp [hl, hi])
  rw [e] at h1; cases h1
  exact ⟨_, by simp [hl, hi], h2⟩
theorem dpa_append : ∀ {xs ys : List V} {ds es : List PD}, DpAll K H xs ds → DpAll K H ys es → DpAll K H (xs ++ ys) (ds ++ es)
  | _, _, _, _, .nil, s => s
  | _, _, _, _, .cons r t, s => .cons r (dpa_append t s)
theorem dpa_take : ∀ {xs : List V} {ds : List PD} (n : Nat), DpAll K H xs ds → DpAll K H (xs.take n) (ds.take n)
  | _, _, 0, _ => .nil
  | _, _, _ + 1, .nil => .nil
  | _, _, n + 1, .cons r t => .cons r (dpa_take n t)
theorem dpa_drop : ∀ {xs : List V} {ds : List PD} (n : Nat), DpAll K H xs ds → DpAll K H (xs.drop n) (ds.drop n)
  | _, _, 0, r => r
  | _, _, _ + 1, .nil => .nil
  | _, _, n + 1, .cons _ t => dpa_drop n t
theorem dpa_rep (h : DpAll K H xs ds) : ∀ k : Nat, DpAll K H (List.replicate k xs).flatten (List.replicate k ds).flatten
  | 0 => .nil
  | k + 1 => by
    rw [List.replicate_succ, List.replicate_succ, List.flatten_cons, List.flatten_cons]
    exact dpa_append h (dpa_rep h k)
theorem dpa_ints : ∀ {xs : List V} {ns : List Int}, DpAll K H xs (ns.map .int) → xs = ns.map V.int
  | _, [], .nil => rfl
  | _, _ :: _, .cons h t => by rw [dp_int h, dpa_ints t]; rfl
theorem dpa_of_ints : ∀ {ns : List Int}, DpAll K H (ns.map V.int) (ns.map .int)
  | [] => .nil
  | _ :: _ => .cons (.int _) dpa_of_ints
theorem dpa_bls : ∀ {xs : List V} {ns : List Bool}, DpAll K H xs (ns.map .bool) → xs = ns.map V.bl
  | _, [], .nil => rfl
  | _, _ :: _, .cons h t => by rw [dp_bl h, dpa_bls t]; rfl
theorem dpa_strs : ∀ {xs : List V} {ns : List Str}, DpAll K H xs (ns.map .str) → xs = ns.map V.str
  | _, [], .nil => rfl
  | _, _ :: _, .cons h t => by rw [dp_str h, dpa_strs t]; rfl
theorem dpa_of_strs : ∀ {ns : List Str}, DpAll K H (ns.map V.str) (ns.map .str)
  | [] => .nil
  | _ :: _ => .cons (.str _) dpa_of_strs
end
/-! ### .. and when a list changes, where it holds no list -/
mutual
def noL : PD → Bool
  | .list _ => false
  | .dict _ => false
  | .tuple xs => noLs xs
  | .none | .bool _ | .int _ | .str _ => true
def noLs : List PD → Bool
  | [] => true
  | x :: xs => noL x && noLs xs
end
theorem sqt_upd {K : PySem.W.Frag} {H : Hp} {l a : Addr} {ys xs : List V} {o : HO} (hl : H l = some (.lst ys)) (h : SqT K H a xs) : SqT K (upd H l o) a xs := by
  rcases h with (h | ⟨o', h⟩) | h
  · refine .inl (.inl ?_)
    rw [upd_ne (ne_of h hl (fun z => by cases z))]
    exact h
  · refine .inl (.inr ⟨o', ?_⟩)
    rw [upd_ne (ne_of h hl (fun z => by cases z))]
    exact h
  · exact .inr h
mutual
theorem dp_upd {K : PySem.W.Frag} {H : Hp} {l : Addr} {ys : List V} {o : HO} (hl : H l = some (.lst ys)) : ∀ {v : V} {d : PD}, Dp K H v d → noL d = true → Dp K (upd H l o) v d
  | _, _, .non, _ => .non
  | _, _, .bl b, _ => .bl b
  | _, _, .int i, _ => .int i
  | _, _, .str x, _ => .str x
  | _, _, .lst h a, n => by simp [noL] at n
  | _, _, .tup h a, n => .tup (sqt_upd hl h) (dpa_upd hl a (by simpa [noL] using n))
theorem dpa_upd {K : PySem.W.Frag} {H : Hp} {l : Addr} {ys : List V} {o : HO} (hl : H l = some (.lst ys)) : ∀ {vs : List V} {ds : List PD}, DpAll K H vs ds → noLs ds = true → DpAll K (upd H l o) vs ds
  | _, _, .nil, _ => .nil
  | _ :: _, d :: ds, .cons h t, n => by
    have n' : noL d = true ∧ noLs ds = true := by simpa [noLs] using n
    exact .cons (dp_upd hl h n'.1) (dpa_upd hl t n'.2)
end
theorem noLs_ints : ∀ ns : List Int, noLs (ns.map .int) = true
  | [] => rfl
  | _ :: r => by rw [List.map_cons, noLs, noLs_ints r]; rfl

/-! ### the judgements -/
def EvD (K : PySem.W.Frag) (te : TE) (σ : L2.St) (H : Hp) (d : PD) : Prop := ∀ H1, Ex H H1 → ∀ Q : VK, (∀ v H2, Ex H1 H2 → Dp K H2 v d → Q v H2) → te σ H1 Q
def EvDs (K : PySem.W.Frag) (ta : TA) (σ : L2.St) (H : Hp) (ds : List PD) : Prop := ∀ H1, Ex H H1 → ∀ Q : List V → Hp → Prop, (∀ vs H2, Ex H1 H2 → DpAll K H2 vs ds → Q vs H2) → ta σ H1 Q
/-- an operation on two values, by data; on one; a call by values -/
def RD2 (K : PySem.W.Frag) (r : R2) (H : Hp) (d e f : PD) : Prop := ∀ H1, Ex H H1 → ∀ v w, Dp K H1 v d → Dp K H1 w e → ∀ Q : VK, (∀ z H2, Ex H1 H2 → Dp K H2 z f → Q z H2) → r v w H1 Q
def RDC (K : PySem.W.Frag) (r : List V → Hp → VK → Prop) (H : Hp) (ds : List PD) (f : PD) : Prop := ∀ H1, Ex H H1 → ∀ vs, DpAll K H1 vs ds → ∀ Q : VK, (∀ z H2, Ex H1 H2 → Dp K H2 z f → Q z H2) → r vs H1 Q
section
variable {K : PySem.W.Frag} {σ : L2.St} {H H' : Hp} {ta tb tc te : TE} {t u : TT} {v : V} {d e f : PD} {ds : List PD} {r : R2} {ar : TA}
theorem EvD.ex (x : Ex H H') (h : EvD K te σ H d) : EvD K te σ H' d := fun H1 a Q q => h H1 (x.trans a) Q q
theorem EvDs.ex (x : Ex H H') (h : EvDs K ar σ H ds) : EvDs K ar σ H' ds := fun H1 a Q q => h H1 (x.trans a) Q q
theorem EvD.to (h : EvD K te σ H d) (x : d = e) : EvD K te σ H e := x ▸ h
theorem EvDs.to {es : List PD} (h : EvDs K ar σ H ds) (x : ds = es) : EvDs K ar σ H es := x ▸ h
theorem ed_var {i : Nat} (h : σ[i]? = some (some v)) (hd : Dp K H v d) : EvD K (tVar i) σ H d := fun H1 x _ q => ⟨v, h, q v H1 (Ex.refl H1) (dp_ex x hd)⟩
theorem ed_cint {i : Int} : EvD K (tC (.int i)) σ H (.int i) := fun H1 _ _ q => q _ H1 (Ex.refl H1) (.int i)
theorem ed_cbl {i : Bool} : EvD K (tC (.bl i)) σ H (.bool i) := fun H1 _ _ q => q _ H1 (Ex.refl H1) (.bl i)
theorem ed_cstr {i : Str} : EvD K (tC (.str i)) σ H (.str i) := fun H1 _ _ q => q _ H1 (Ex.refl H1) (.str i)
theorem ed_cnon : EvD K (tC .non) σ H .none := fun H1 _ _ q => q _ H1 (Ex.refl H1) .non
theorem EvD.int {i : Int} (h : EvD K te σ H (.int i)) : Ev te σ H (.int i) := fun H1 x Q q => h H1 x Q fun v H2 x2 hv => by rw [dp_int hv]; exact q H2 x2
theorem EvD.bl {i : Bool} (h : EvD K te σ H (.bool i)) : Ev te σ H (.bl i) := fun H1 x Q q => h H1 x Q fun v H2 x2 hv => by rw [dp_bl hv]; exact q H2 x2
theorem EvD.str {i : Str} (h : EvD K te σ H (.str i)) : Ev te σ H (.str i) := fun H1 x Q q => h H1 x Q fun v H2 x2 hv => by rw [dp_str hv]; exact q H2 x2
theorem EvD.non (h : EvD K te σ H .none) : Ev te σ H .non := fun H1 x Q q => h H1 x Q fun v H2 x2 hv => by rw [dp_non hv]; exact q H2 x2
theorem ed_of (h : Ev te σ H v) (hd : Dp K H v d) : EvD K te σ H d := fun H1 x Q q => h H1 x Q fun H2 x2 => q v H2 x2 (dp_ex (x.trans x2) hd)
theorem ed_op (ha : EvD K ta σ H d) (hb : EvD K tb σ H e) (hr : RD2 K r H d e f) : EvD K (tOp r ta tb) σ H f := fun H1 x Q q =>
  ha H1 x _ fun v H2 x2 hv => hb H2 (x.trans x2) _ fun w H3 x3 hw => hr H3 ((x.trans x2).trans x3) v w (dp_ex x3 hv) hw Q fun z H4 x4 hz => q z H4 ((x2.trans x3).trans x4) hz
theorem ed_cb {rc : List V → Hp → VK → Prop} (ha : EvDs K ar σ H ds) (hr : RDC K rc H ds f) : EvD K (tCB rc ar) σ H f := fun H1 x Q q =>
  ha H1 x _ fun vs H2 x2 hv => hr H2 (x.trans x2) vs hv Q fun z H3 x3 hz => q z H3 (x2.trans x3) hz
theorem eds_nil : EvDs K tNil σ H [] := fun H1 _ _ q => q [] H1 (Ex.refl H1) .nil
theorem eds_cons (h : EvD K te σ H d) (hr : EvDs K ar σ H ds) : EvDs K (tCons te ar) σ H (d :: ds) := fun H1 x _ q =>
  h H1 x _ fun v H2 x2 hv => hr H2 (x.trans x2) _ fun vs H3 x3 hvs => q _ H3 (x2.trans x3) (.cons (dp_ex x3 hv) hvs)
theorem ed_tup (h : EvDs K ar σ H ds) (hl : ds.length ≤ 100000) : EvD K (tTup ar) σ H (.tuple ds) := fun H1 x _ q =>
  h H1 x _ fun vs H2 x2 hv => ⟨sz_of (by rw [dpa_len hv]; exact hl), fun p hp => q _ _ (x2.trans (Ex.new hp)) (.tup (st_of upd_same) (dpa_ex (Ex.new hp) hv))⟩
theorem ed_lst (h : EvDs K ar σ H ds) (hl : ds.length ≤ 100000) : EvD K (tLst ar) σ H (.list ds) := fun H1 x _ q =>
  h H1 x _ fun vs H2 x2 hv => ⟨sz_of (by rw [dpa_len hv]; exact hl), fun p hp => q _ _ (x2.trans (Ex.new hp)) (.lst (sq_of upd_same) (dpa_ex (Ex.new hp) hv))⟩
/-! ints -/
theorem rd_I0 {g : Int → Int → Int} {i j : Int} : RD2 K (rI0 fun i j => .int (g i j)) H (.int i) (.int j) (.int (g i j)) := fun H1 _ v w hv hw Q q => by
  rw [dp_int hv, dp_int hw]
  exact ⟨i, j, rfl, rfl, q _ H1 (Ex.refl H1) (.int _)⟩
theorem rd_B0 {g : Int → Int → Bool} {i j : Int} : RD2 K (rI0 fun i j => .bl (g i j)) H (.int i) (.int j) (.bool (g i j)) := fun H1 _ v w hv hw Q q => by
  rw [dp_int hv, dp_int hw]
  exact ⟨i, j, rfl, rfl, q _ H1 (Ex.refl H1) (.bl _)⟩
theorem rd_I {C : Int → Int → Prop} {g : Int → Int → Int} {i j : Int} (hc : C i j) : RD2 K (rI C fun i j => .int (g i j)) H (.int i) (.int j) (.int (g i j)) := fun H1 _ v w hv hw Q q => by
  rw [dp_int hv, dp_int hw]
  exact ⟨i, j, rfl, rfl, hc, q _ H1 (Ex.refl H1) (.int _)⟩
theorem RD2.ol {r' : R2} (h : RD2 K r H d e f) : RD2 K (fun x y H Q => r x y H Q ∨ r' x y H Q) H d e f := fun H1 x v w hv hw Q q => .inl (h H1 x v w hv hw Q q)
theorem RD2.or {r' : R2} (h : RD2 K r H d e f) : RD2 K (fun x y H Q => r' x y H Q ∨ r x y H Q) H d e f := fun H1 x v w hv hw Q q => .inr (h H1 x v w hv hw Q q)
theorem rd_eq (h1 : SeqAt.shaped d = true) (h2 : SeqAt.shaped e = true) : RD2 K (rEqD K) H d e (.bool (PyData.eqv d e)) := fun H1 _ v w hv hw Q q => ⟨d, e, hv, hw, h1, h2, q _ H1 (Ex.refl H1) (.bl _)⟩
theorem rd_ne (h1 : SeqAt.shaped d = true) (h2 : SeqAt.shaped e = true) : RD2 K (rNeD K) H d e (.bool (!PyData.eqv d e)) := fun H1 _ v w hv hw Q q => ⟨d, e, hv, hw, h1, h2, q _ H1 (Ex.refl H1) (.bl _)⟩
theorem ed_neg {i : Int} (ha : EvD K ta σ H (.int i)) : EvD K (tUn (rU fun i => .int (-i)) ta) σ H (.int (-i)) := fun H1 x Q q =>
  ha H1 x _ fun v H2 x2 hv => by
    rw [dp_int hv]
    exact ⟨i, rfl, q _ H2 x2 (.int _)⟩
/-! tests -/
theorem et_tst {b : Bool} (h : EvD K te σ H (.bool b)) : EvT (tTest te) σ H b := et_test h.bl
theorem et_b {b : Bool} (h : EvD K te σ H (.bool b)) : EvT (tB te) σ H b := et_B h.bl
/-- the truth of data -/
def tru : PD → Bool
  | .none => false
  | .bool b => b
  | .int i => i != 0
  | .str s => (s.length : Int) != 0
  | .list xs => !xs.isEmpty
  | .tuple xs => !xs.isEmpty
  | .dict _ => false
def strOk : PD → Bool
  | .str s => decide (s.length ≤ 100000)
  | .dict _ => false
  | _ => true
theorem tru_of (h : Dp K H v d) (ho : strOk d = true) : TruV K v H (tru d) := by
  cases h with
  | non => rfl
  | bl b => rfl
  | int i => rfl
  | str x => exact ⟨sz_of (of_decide_eq_true ho), rfl⟩
  | lst h a =>
    refine .inl ⟨_, h, ?_⟩
    cases a <;> rfl
  | tup h a =>
    refine .inr (.inl ⟨_, h, ?_⟩)
    cases a <;> rfl
theorem et_tru (h : EvD K te σ H d) (ho : strOk d = true := by rfl) : EvT (fun σ H Q => te σ H fun x H' => ∃ k, TruV K x H' k ∧ Q k H') σ H (tru d) := fun H1 x Q q =>
  h H1 x _ fun v H2 x2 hv => ⟨tru d, tru_of hv ho, q H2 x2⟩
theorem EvT.ex {b : Bool} (x : Ex H H') (h : EvT t σ H b) : EvT t σ H' b := fun H1 a Q q => h H1 (x.trans a) Q q
theorem EvT.to {b c : Bool} (h : EvT t σ H b) (x : b = c) : EvT t σ H c := x ▸ h
theorem ed_and {a b : Bool} (h1 : EvD K ta σ H (.bool a)) (h2 : a = true → EvD K tb σ H (.bool b)) : EvD K (tAndV ta tb) σ H (.bool (a && b)) := ed_of (ev_andV h1.bl fun z => (h2 z).bl) (.bl _)
theorem ed_or {a b : Bool} (h1 : EvD K ta σ H (.bool a)) (h2 : a = false → EvD K tb σ H (.bool b)) : EvD K (tOrV ta tb) σ H (.bool (a || b)) := ed_of (ev_orV h1.bl fun z => (h2 z).bl) (.bl _)
theorem ed_not {a : Bool} (h1 : EvD K ta σ H (.bool a)) : EvD K (tNotV ta) σ H (.bool (!a)) := ed_of (ev_notV h1.bl) (.bl _)
end
end Pb

namespace Pb
open PySem PySem.Spec PyProof.Rows L2 Evn
variable [Evn.Tbs]

/-! ### operations with several kinds of operands -/
section
variable {X : Cx}
/-- list + list, whatever holds them -/
def rCatL (K : PySem.W.Frag) : R2 := fun x y H Q => ∃ l b xs zs, x = .ref l ∧ y = .ref b ∧ SqL K H l xs ∧ SqL K H b zs ∧ xs.length + zs.length ≤ sizeLine ∧ ∀ p, H p = none → Q (.ref p) (upd H p (.lst (xs ++ zs)))
theorem op_catL : OpR X (binaryOp .Add) (rCatL X.K) := by
  intro pins s σ H x y v u Q I rx ry h
  obtain ⟨l, b, xs, zs, rfl, rfl, hH, hB, hz, q⟩ := h
  cases rx
  cases ry
  obtain ⟨its, r, ⟨⟨oc, od, odt, osl⟩, n, ho, c1, c2, c3⟩, hl⟩ := I.list hH
  obtain ⟨its2, r2, ⟨⟨oc2, od2, odt2, osl2⟩, n2, ho2, d1, d2, d3⟩, hl2⟩ := I.list hB
  simp only at c1 c2 c3 d1 d2 d3
  subst c1 c2 c3 d1 d2 d3
  have e : its.toArray ++ its2.toArray = (its ++ its2).toArray := by simp
  have e1 := r.length
  have e2 := r2.length
  refine concat_meets ⟨_, ho, rfl⟩ ⟨_, ho2, rfl⟩ noFill_list_add seq_list_add PySem.F.slot_list_add PySem.F.entry_list_add (PySem.F.args_list_add_2 _ _) (list_addW l b its.toArray its2.toArray n n2 none none osl osl2 (by simp; omega)) ⟨ho, ho2, ?_⟩
  rw [e]
  exact ⟨.ref _, _, I.lnew (t' := s.toks) (r.append r2) (by rw [List.length_append]; exact hz), rfl, q _ I.fresh⟩
/-- list * int -/
def rRepL (K : PySem.W.Frag) : R2 := fun x y H Q => ∃ l k xs, x = .ref l ∧ y = .int k ∧ SqL K H l xs ∧ -(2 ^ 63) ≤ k ∧ k < 2 ^ 63 ∧ xs.length * k.toNat ≤ sizeLine ∧
  ∀ p, H p = none → Q (.ref p) (upd H p (.lst (List.replicate k.toNat xs).flatten))
theorem op_repL : OpR X (binaryOp .Mult) (rRepL X.K) := by
  intro pins s σ H x y v u Q I rx ry h
  obtain ⟨l, k, xs, rfl, rfl, hH, h1, h2, hz, q⟩ := h
  cases rx
  obtain ⟨t, rfl⟩ := ry
  obtain ⟨its, r, ⟨⟨oc, od, odt, osl⟩, n, ho, c1, c2, c3⟩, hl⟩ := I.list hH
  simp only at c1 c2 c3
  subst c1 c2 c3
  have e1 := r.length
  have hz' : its.toArray.size * k.toNat ≤ 2 ^ 24 := by
    rw [List.size_toArray, ← e1]
    rw [sizeLine_eq] at hz
    exact hz
  refine wpAny_binaryOp_repeat_ref (T := "list") (U := "int") (by decide) ⟨_, ho, rfl⟩ (fun s' => typeIs_int s' k t) noFill_list_mul F.fills_int_mul F.slot_int_rmul repeat_list F.slot_int_index.lookup
    (call_meets F.slot_int_rmul (typeIs_int s k t) F.entry_int_rmul (F.args_int_rmul_2 _ _) (lm_int_rmul_list_any k t l its.toArray n none osl)
      ⟨ho, rfl, ⟨_, ho, rfl⟩, call_meets F.slot_list_mul ⟨_, ho, rfl⟩ F.entry_list_mul (F.args_list_mul_2 _ _)
        (lm_list_mul_any l its.toArray n none osl k t (by simp [Builtin.List.listFitsIndex]; omega) (by omega) (by simp [Builtin.List.listTooLong, sizeLine]; simpa using hz'))
        ⟨ho, ?_⟩⟩)
  rw [listMul_foldl_if]
  exact ⟨.ref _, _, I.lnew (t' := s.toks) (r.rep k.toNat) (by rw [PyProof.Rows.lm_len_rep_flat, Nat.mul_comm]; exact hz), rfl, q _ I.fresh⟩
/-- tuple * int, once and more -/
theorem tuple_mulS (l : Addr) (items : Array Value) (n : Nat) (dd : Option Addr) (sl : Array (Option Value)) (u : Tok) :
    Meets (Builtin.«tuple.__mul__» ⟨[.ref l, .int 1 u], []⟩) (fun _ R s => s.heap.get? l = some { cls := .type "tuple", dict := dd, data := .seq items n, slots := sl } ∧ R (.ok (.ret (Value.ref l))) s) :=
  .of_wp fun prog w A R s h => by
    obtain ⟨hp, g, d, tk, os⟩ := s
    obtain ⟨hl, h⟩ := h
    have f1 := AutoSeq1.idx_int
    have c1 : (items.isEmpty || (1 : Int) == 1) = true := by simp
    wp_walk using wpAny_loadPart' hl
    exact ⟨_, rfl, h⟩
def rRepA (K : PySem.W.Frag) : R2 := fun x y H Q => ∃ l k xs, x = .ref l ∧ y = .int k ∧ SqT K H l xs ∧ xs ≠ [] ∧ 1 ≤ k ∧ xs.length * k.toNat ≤ 1000000 ∧ (k = 1 → Q (.ref l) H) ∧ (k ≠ 1 → ∀ p, H p = none → Q (.ref p) (upd H p (.tup (List.replicate k.toNat xs).flatten)))
theorem op_repA : OpR X (binaryOp .Mult) (rRepA X.K) := by
  intro pins s σ H x y v u Q I rx ry h
  obtain ⟨l, k, xs, rfl, rfl, hT, hne, h1, hz, q1, q⟩ := h
  cases rx
  obtain ⟨t, rfl⟩ := ry
  obtain ⟨its, r, ⟨⟨cls, dd, data, sl⟩, ho, hc, n, hd⟩, hs⟩ := I.tuple hT
  simp only at hc hd
  subst hc hd
  have hle : its.length = xs.length := r.length.symm
  by_cases hk : k = 1
  · subst hk
    exact wpAny_binaryOp_repeat_ref (T := "tuple") (U := "int") (by decide) ⟨_, ho, rfl⟩ (fun s' => typeIs_int s' 1 t) noFill_tuple_mul F.fills_int_mul F.slot_int_rmul repeat_tuple F.slot_int_index.lookup
      (call_meets F.slot_int_rmul (typeIs_int s 1 t) F.entry_int_rmul (F.args_int_rmul_2 _ _) (int_rmul_tuple 1 t l its.toArray n dd sl)
        ⟨ho, rfl, ⟨_, ho, rfl⟩, call_meets F.slot_tuple_mul ⟨_, ho, rfl⟩ F.entry_tuple_mul (F.args_tuple_mul_2 _ _) (tuple_mulS l its.toArray n dd sl t) ⟨ho, ⟨.ref l, H, I, rfl, q1 rfl⟩⟩⟩)
  have hn : its ≠ [] := fun e => hne (by
    rw [e] at hle
    exact List.eq_nil_of_length_eq_zero hle.symm)
  have hi : its.toArray.isEmpty = false := by
    cases its with
    | nil => exact absurd rfl hn
    | cons a b => rfl
  have hsz0 : its.toArray.size = xs.length := by rw [List.size_toArray, hle]
  have hm : ((its.toArray.size : Nat) : Int) * k ≤ 1000000 := by
    rw [hsz0]
    have e1 : k = (k.toNat : Int) := by omega
    rw [e1, ← Int.natCast_mul]
    omega
  have kb : k ≤ 1000000 := by
    have p0 : 0 < its.toArray.size := by
      rw [hsz0]
      cases xs with
      | nil => exact absurd rfl hne
      | cons _ _ => simp
    have a1 : (1 : Int) * k ≤ ((its.toArray.size : Nat) : Int) * k := Int.mul_le_mul_of_nonneg_right (by omega) (by omega)
    omega
  have flen : (List.replicate k.toNat its).flatten.length ≤ sizeLine := by
    rw [PyProof.Rows.lm_len_rep_flat, hle, sizeLine_eq, Nat.mul_comm]
    omega
  have c0 : (decide (k < -(2 ^ 63)) || decide (k ≥ 2 ^ 63)) = false := by
    rw [decide_eq_false (by omega), decide_eq_false (by omega)] <;> rfl
  have c1 : (its.toArray.isEmpty || k == 1) = false := by
    rw [hi, Bool.false_or]
    exact beq_eq_false_iff_ne.mpr hk
  have c2 : (decide (k ≤ 0) || its.toArray.isEmpty) = false := by
    rw [hi, Bool.or_false]
    exact decide_eq_false (by omega)
  have c4 : Builtin.Tuple.tupleTooMany (((its.toArray.size : Nat) : Int) * k) = false := by
    unfold Builtin.Tuple.tupleTooMany
    rw [sizeLine_eq]
    exact decide_eq_false (by omega)
  refine wpAny_binaryOp_repeat_ref (T := "tuple") (U := "int") (by decide) ⟨_, ho, rfl⟩ (fun s' => typeIs_int s' k t) noFill_tuple_mul F.fills_int_mul F.slot_int_rmul repeat_tuple F.slot_int_index.lookup
    (call_meets F.slot_int_rmul (typeIs_int s k t) F.entry_int_rmul (F.args_int_rmul_2 _ _) (int_rmul_tuple k t l its.toArray n dd sl)
      ⟨ho, rfl, ⟨_, ho, rfl⟩, call_meets F.slot_tuple_mul ⟨_, ho, rfl⟩ F.entry_tuple_mul (F.args_tuple_mul_2 _ _) (tuple_mulW l its.toArray n dd sl k t c0 c1 c2 (by omega) c4 (by rw [size_rep, List.size_toArray]; exact flen)) ⟨ho, ?_⟩⟩)
  rw [size_rep]
  refine ⟨.ref s.heap.objs.size, _, I.laid (t' := s.toks) (o := .tup (List.replicate k.toNat xs).flatten) (fun b ob q => Heap.get?_push_of_some _ q) (Nat.le_refl _) ?_, rfl, q hk _ (I.hok.fresh (Nat.le_refl _))⟩
  exact ⟨by rw [PyProof.Rows.lm_len_rep_flat, sizeLine_eq, Nat.mul_comm]; omega, _, r.rep k.toNat, IsTup.new _ _⟩

/-- +: ints, lists, tuples, texts -/
def rAddX (K : PySem.W.Frag) : R2 := fun x y H Q => (rI0 fun i j => .int (i + j)) x y H Q ∨ (rCatL K x y H Q ∨ (rCatA K x y H Q ∨ ∃ i j, x = .str i ∧ y = .str j ∧ i.length + j.length ≤ sizeLine ∧ Q (.str (i ++ j)) H))
theorem op_addX : OpR X (binaryOp .Add) (rAddX X.K) := op_add.or (op_catL.or (op_catA.or op_add_str))
def rMulX (K : PySem.W.Frag) : R2 := fun x y H Q => (rI CMul fun i j => .int (i * j)) x y H Q ∨ (rRepL K x y H Q ∨ rRepA K x y H Q)
theorem op_mulX' : OpR X (binaryOp .Mult) (rMulX X.K) := op_mul.or (op_repL.or op_repA)
def rIsX : R2 := fun x y H Q => (y = .non ∧ Q (.bl (decide (x = .non))) H) ∨ ∃ a b, x = .bl a ∧ y = .bl b ∧ Q (.bl (decide (a = b))) H
theorem op_isX : OpR X (compareOp .Is) rIsX := op_isN.or op_is_bl
def rIsNotX : R2 := fun x y H Q => (y = .non ∧ Q (.bl (!decide (x = .non))) H) ∨ ∃ a b, x = .bl a ∧ y = .bl b ∧ Q (.bl (!decide (a = b))) H
theorem op_isNotX : OpR X (compareOp .IsNot) rIsNotX := op_notN.or op_isnot_bl
def rInX (K : PySem.W.Frag) : R2 := fun x y H Q => (∃ (c : Nat) (z : Str), x = .str ⟨#[c]⟩ ∧ y = .str z ∧ Q (.bl (decide (c ∈ z.cps.toList))) H) ∨ rIn K false x y H Q
theorem op_inX : OpR X (compareOp .In) (rInX X.K) := op_in_sign.or op_in_seq
def rNotInX (K : PySem.W.Frag) : R2 := fun x y H Q => (∃ (c : Nat) (z : Str), x = .str ⟨#[c]⟩ ∧ y = .str z ∧ Q (.bl (!decide (c ∈ z.cps.toList))) H) ∨ rIn K true x y H Q
theorem op_notInX : OpR X (compareOp .NotIn) (rNotInX X.K) := op_notIn_sign.or op_notIn_seq
/-- slices: a list's, a tuple's, a text's -/
def rSlX (K : PySem.W.Frag) : V → Option Int → Option Int → Hp → VK → Prop := fun x lo hi H Q => rSlL K x lo hi H Q ∨ rSlA K x lo hi H Q
theorem sl_X : SlR X (rSlX X.K) := sl_list.or sl_tupA
end

/-! ### .. by data -/
section
variable {K : PySem.W.Frag} {σ : L2.St} {H H' : Hp} {ta tb tc te : TE} {t u : TT} {v : V} {d e f : PD} {ds es : List PD} {r : R2} {ar : TA}
theorem ed_add {i j : Int} (ha : EvD K ta σ H (.int i)) (hb : EvD K tb σ H (.int j)) : EvD K (tOp (rAddX K) ta tb) σ H (.int (i + j)) := ed_op ha hb (RD2.ol (rd_I0 (g := fun i j => i + j)))
theorem ed_sub {i j : Int} (ha : EvD K ta σ H (.int i)) (hb : EvD K tb σ H (.int j)) : EvD K (tOp (rI0 fun i j => .int (i - j)) ta tb) σ H (.int (i - j)) := ed_op ha hb (rd_I0 (g := fun i j => i - j))
theorem ed_mul {i j : Int} (ha : EvD K ta σ H (.int i)) (hb : EvD K tb σ H (.int j)) (hc : CMul i j) : EvD K (tOp (rMulX K) ta tb) σ H (.int (i * j)) := ed_op ha hb (RD2.ol (rd_I (g := fun i j => i * j) hc))
theorem ed_mod {i j : Int} (ha : EvD K ta σ H (.int i)) (hb : EvD K tb σ H (.int j)) (hc : 0 < j) : EvD K (tOp (rI (fun _ j => 0 < j) fun i j => .int (i % j)) ta tb) σ H (.int (i % j)) := ed_op ha hb (rd_I (C := fun _ j => 0 < j) (g := fun i j => i % j) hc)
theorem ed_fdiv {i j : Int} (ha : EvD K ta σ H (.int i)) (hb : EvD K tb σ H (.int j)) (hc : CDiv i j) : EvD K (tOp (rI CDiv fun i j => .int (i / j)) ta tb) σ H (.int (i / j)) := ed_op ha hb (rd_I (g := fun i j => i / j) hc)
theorem ed_pow {i j : Int} (ha : EvD K ta σ H (.int i)) (hb : EvD K tb σ H (.int j)) (hc : CPow i j) : EvD K (tOp (rI CPow fun i j => .int (i ^ j.toNat)) ta tb) σ H (.int (i ^ j.toNat)) := ed_op ha hb (rd_I (g := fun i j => i ^ j.toNat) hc)
theorem ed_lt {i j : Int} (ha : EvD K ta σ H (.int i)) (hb : EvD K tb σ H (.int j)) : EvD K (tOp (rI0 fun i j => .bl (decide (i < j))) ta tb) σ H (.bool (decide (i < j))) := ed_op ha hb (rd_B0 (g := fun i j => decide (i < j)))
theorem ed_le {i j : Int} (ha : EvD K ta σ H (.int i)) (hb : EvD K tb σ H (.int j)) : EvD K (tOp (rI0 fun i j => .bl (decide (i ≤ j))) ta tb) σ H (.bool (decide (i ≤ j))) := ed_op ha hb (rd_B0 (g := fun i j => decide (i ≤ j)))
theorem ed_gt {i j : Int} (ha : EvD K ta σ H (.int i)) (hb : EvD K tb σ H (.int j)) : EvD K (tOp (rI0 fun i j => .bl (decide (j < i))) ta tb) σ H (.bool (decide (j < i))) := ed_op ha hb (rd_B0 (g := fun i j => decide (j < i)))
theorem ed_ge {i j : Int} (ha : EvD K ta σ H (.int i)) (hb : EvD K tb σ H (.int j)) : EvD K (tOp (rI0 fun i j => .bl (decide (j ≤ i))) ta tb) σ H (.bool (decide (j ≤ i))) := ed_op ha hb (rd_B0 (g := fun i j => decide (j ≤ i)))
theorem ed_eq (ha : EvD K ta σ H d) (hb : EvD K tb σ H e) (h1 : SeqAt.shaped d = true) (h2 : SeqAt.shaped e = true) : EvD K (tOp (rEqD K) ta tb) σ H (.bool (PyData.eqv d e)) := ed_op ha hb (rd_eq h1 h2)
theorem ed_ne (ha : EvD K ta σ H d) (hb : EvD K tb σ H e) (h1 : SeqAt.shaped d = true) (h2 : SeqAt.shaped e = true) : EvD K (tOp (rNeD K) ta tb) σ H (.bool (!PyData.eqv d e)) := ed_op ha hb (rd_ne h1 h2)
theorem ed_eqI {i j : Int} (ha : EvD K ta σ H (.int i)) (hb : EvD K tb σ H (.int j)) : EvD K (tOp (rEqD K) ta tb) σ H (.bool (i == j)) := ed_eq ha hb rfl rfl
theorem ed_neI {i j : Int} (ha : EvD K ta σ H (.int i)) (hb : EvD K tb σ H (.int j)) : EvD K (tOp (rNeD K) ta tb) σ H (.bool (!(i == j))) := ed_ne ha hb rfl rfl
theorem ed_eqB {i j : Bool} (ha : EvD K ta σ H (.bool i)) (hb : EvD K tb σ H (.bool j)) : EvD K (tOp (rEqD K) ta tb) σ H (.bool (i == j)) := ed_eq ha hb rfl rfl
theorem ed_neB {i j : Bool} (ha : EvD K ta σ H (.bool i)) (hb : EvD K tb σ H (.bool j)) : EvD K (tOp (rNeD K) ta tb) σ H (.bool (!(i == j))) := ed_ne ha hb rfl rfl
/-- chains of ints -/
theorem ed_chain {p q : Int → Int → Bool} {i j k : Int} (ha : EvD K ta σ H (.int i)) (hb : EvD K tb σ H (.int j)) (hc : p i j = true → EvD K tc σ H (.int k)) :
    EvD K (tChain (rI0 fun i j => .bl (p i j)) (rI0 fun i j => .bl (q i j)) ta tb tc) σ H (.bool (p i j && q j k)) := fun H1 x Q z =>
  ha H1 x _ fun v H2 x2 hv => hb H2 (x.trans x2) _ fun w H3 x3 hw => by
    have e1 := dp_int hv
    have e2 := dp_int hw
    subst e1 e2
    refine ⟨i, j, rfl, rfl, _, rfl, ?_⟩
    cases hp : p i j with
    | false =>
      show Q (.bl false) H3
      refine z _ H3 (x2.trans x3) ?_
      rw [hp]
      exact .bl _
    | true =>
      show tc σ H3 _
      refine hc hp H3 ((x.trans x2).trans x3) _ fun w' H4 x4 hw' => ?_
      have e3 := dp_int hw'
      subst e3
      refine ⟨j, k, rfl, rfl, z _ H4 ((x2.trans x3).trans x4) ?_⟩
      rw [hp]
      exact .bl _
def isNone : PD → Bool | .none => true | _ => false
def tyD : PD → String | .none => "NoneType" | .bool _ => "bool" | .int _ => "int" | .str _ => "str" | .list _ => "list" | .tuple _ => "tuple" | .dict _ => "dict"
theorem isN_dec (h : Dp K H v d) : decide (v = .non) = (isNone d) := by
  cases h <;> simp [isNone]
theorem ed_isN (ha : EvD K ta σ H d) : EvD K (tOp rIsX ta (tC .non)) σ H (.bool (isNone d)) := fun H1 x Q z =>
  ha H1 x _ fun v H2 x2 hv => .inl ⟨rfl, z _ H2 x2 (by rw [isN_dec hv]; exact .bl _)⟩
theorem ed_notN (ha : EvD K ta σ H d) : EvD K (tOp rIsNotX ta (tC .non)) σ H (.bool (!(isNone d))) := fun H1 x Q z =>
  ha H1 x _ fun v H2 x2 hv => .inl ⟨rfl, z _ H2 x2 (by rw [isN_dec hv]; exact .bl _)⟩
theorem ed_isB {a b : Bool} (ha : EvD K ta σ H (.bool a)) : EvD K (tOp rIsX ta (tC (.bl b))) σ H (.bool (decide (a = b))) := fun H1 x Q z =>
  ha H1 x _ fun v H2 x2 hv => .inr ⟨a, b, dp_bl hv, rfl, z _ H2 x2 (.bl _)⟩
/-! sequences -/
theorem atI_dpa {xs : List V} {i : Int} (h : DpAll K H xs ds) (e : atI ds i = some d) : ∃ x, atI xs i = some x ∧ Dp K H x d := by
  unfold atI at e ⊢
  rw [dpa_len h]
  cases q : ixN ds.length i with
  | none => rw [q] at e; cases e
  | some j =>
    rw [q] at e
    exact dpa_at h e
theorem cutV_dpa {xs : List V} (h : DpAll K H xs ds) (lo hi : Option Int) : DpAll K H (cutV xs lo hi) ((ds.drop (HT.sIx ds.length 0 lo)).take (HT.sIx ds.length ds.length hi - HT.sIx ds.length 0 lo)) := by
  unfold cutV
  rw [dpa_len h]
  exact dpa_take _ (dpa_drop _ h)
/-- a cut of data -/
def cutD {α : Type} (ds : List α) (lo hi : Option Int) : List α := (ds.drop (HT.sIx ds.length 0 lo)).take (HT.sIx ds.length ds.length hi - HT.sIx ds.length 0 lo)
theorem cutD_whole {α : Type} {ds : List α} {lo hi : Option Int} (h1 : HT.sIx ds.length 0 lo = 0) (h2 : HT.sIx ds.length ds.length hi = ds.length) : cutD ds lo hi = ds := by
  unfold cutD
  rw [h1, h2]
  simp
theorem ed_ixL {i : Int} (ha : EvD K ta σ H (.list ds)) (hb : EvD K tb σ H (.int i)) (h : atI ds i = some d) : EvD K (tOp (rIx K) ta tb) σ H d := ed_op ha hb fun H1 _ v w hv hw Q q => by
  obtain ⟨a, xs, rfl, hs, ha⟩ := dp_lst hv
  have e := dp_int hw
  subst e
  obtain ⟨x, hx, hd⟩ := atI_dpa ha h
  exact .inl ⟨a, xs, i, x, rfl, rfl, hs, hx, q x H1 (Ex.refl H1) hd⟩
theorem ed_ixT {i : Int} (ha : EvD K ta σ H (.tuple ds)) (hb : EvD K tb σ H (.int i)) (h : atI ds i = some d) : EvD K (tOp (rIx K) ta tb) σ H d := ed_op ha hb fun H1 _ v w hv hw Q q => by
  obtain ⟨a, xs, rfl, hs, ha⟩ := dp_tup hv
  have e := dp_int hw
  subst e
  obtain ⟨x, hx, hd⟩ := atI_dpa ha h
  exact .inr (.inl ⟨a, xs, i, x, rfl, rfl, hs, hx, q x H1 (Ex.refl H1) hd⟩)
theorem ed_slL {tl th : TO} {lo hi : Option Int} (h : EvD K te σ H (.list ds)) (h1 : EvO tl σ H lo) (h2 : EvO th σ H hi) : EvD K (tSl (rSlX K) te tl th) σ H (.list (cutD ds lo hi)) := fun H1 x Q q =>
  h H1 x _ fun v H2 x2 hv => h1 H2 (x.trans x2) _ fun H3 x3 => h2 H3 ((x.trans x2).trans x3) _ fun H4 x4 => by
    obtain ⟨a, xs, rfl, hs, ha⟩ := dp_lst hv
    exact .inl ⟨a, xs, rfl, ex_l (x3.trans x4) hs, fun p hp => q _ _ (((x2.trans x3).trans x4).trans (Ex.new hp)) (.lst (sq_of upd_same) (cutV_dpa (dpa_ex ((x3.trans x4).trans (Ex.new hp)) ha) lo hi))⟩
theorem ed_slT {tl th : TO} {lo hi : Option Int} (h : EvD K te σ H (.tuple ds)) (h1 : EvO tl σ H lo) (h2 : EvO th σ H hi) : EvD K (tSl (rSlX K) te tl th) σ H (.tuple (cutD ds lo hi)) := fun H1 x Q q =>
  h H1 x _ fun v H2 x2 hv => h1 H2 (x.trans x2) _ fun H3 x3 => h2 H3 ((x.trans x2).trans x3) _ fun H4 x4 => by
    obtain ⟨a, xs, rfl, hs, ha⟩ := dp_tup hv
    refine .inr ⟨a, xs, rfl, ex_t (x3.trans x4) hs, fun hw => ?_, fun hw p hp => q _ _ (((x2.trans x3).trans x4).trans (Ex.new hp)) (.tup (st_of upd_same) (cutV_dpa (dpa_ex ((x3.trans x4).trans (Ex.new hp)) ha) lo hi))⟩
    rw [dpa_len ha] at hw
    rw [cutD_whole hw.1 hw.2] at q
    exact q _ _ ((x2.trans x3).trans x4) (dp_ex (x3.trans x4) hv)
theorem eo_int {i : Int} (h : EvD K te σ H (.int i)) : EvO (tPart te) σ H (some i) := eo_some h.int
theorem ed_catL (ha : EvD K ta σ H (.list ds)) (hb : EvD K tb σ H (.list es)) (hz : ds.length + es.length ≤ 100000) : EvD K (tOp (rAddX K) ta tb) σ H (.list (ds ++ es)) := ed_op ha hb fun H1 _ v w hv hw Q q => by
  obtain ⟨a, xs, rfl, hs, ha⟩ := dp_lst hv
  obtain ⟨b, ys, rfl, hs2, hb⟩ := dp_lst hw
  exact .inr (.inl ⟨a, b, xs, ys, rfl, rfl, hs, hs2, sz_of (by rw [dpa_len ha, dpa_len hb]; exact hz), fun p hp => q _ _ (Ex.new hp) (.lst (sq_of upd_same) (dpa_ex (Ex.new hp) (dpa_append ha hb)))⟩)
theorem ed_catT (ha : EvD K ta σ H (.tuple ds)) (hb : EvD K tb σ H (.tuple es)) (hz : ds.length + es.length ≤ 100000) : EvD K (tOp (rAddX K) ta tb) σ H (.tuple (ds ++ es)) := ed_op ha hb fun H1 _ v w hv hw Q q => by
  have hv0 := hv
  have hw0 := hw
  obtain ⟨a, xs, rfl, hs, ha⟩ := dp_tup hv
  obtain ⟨b, ys, rfl, hs2, hb⟩ := dp_tup hw
  refine .inr (.inr (.inl ⟨a, b, xs, ys, rfl, rfl, hs, hs2, sz_of (by rw [dpa_len ha, dpa_len hb]; exact hz), fun e => ?_, fun _ e => ?_, fun _ _ p hp => q _ _ (Ex.new hp) (.tup (st_of upd_same) (dpa_ex (Ex.new hp) (dpa_append ha hb)))⟩))
  · subst e
    cases ha
    exact q _ _ (Ex.refl H1) hw0
  · subst e
    cases hb
    rw [List.append_nil] at q
    exact q _ _ (Ex.refl H1) hv0
theorem ed_catS {a b : Str} (ha : EvD K ta σ H (.str a)) (hb : EvD K tb σ H (.str b)) (hz : a.length + b.length ≤ 100000) : EvD K (tOp (rAddX K) ta tb) σ H (.str (a ++ b)) := ed_op ha hb fun H1 _ v w hv hw Q q =>
  .inr (.inr (.inr ⟨a, b, dp_str hv, dp_str hw, sz_of hz, q _ _ (Ex.refl H1) (.str _)⟩))
theorem ed_repL {k : Int} (ha : EvD K ta σ H (.list ds)) (hb : EvD K tb σ H (.int k)) (h1 : -1000000 ≤ k ∧ k ≤ 1000000) (hz : ds.length * k.toNat ≤ 100000) : EvD K (tOp (rMulX K) ta tb) σ H (.list (List.replicate k.toNat ds).flatten) := ed_op ha hb fun H1 _ v w hv hw Q q => by
  obtain ⟨a, xs, rfl, hs, ha⟩ := dp_lst hv
  exact .inr (.inl ⟨a, k, xs, rfl, dp_int hw, hs, by omega, by omega, sz_of (by rw [dpa_len ha]; exact hz), fun p hp => q _ _ (Ex.new hp) (.lst (sq_of upd_same) (dpa_ex (Ex.new hp) (dpa_rep ha _)))⟩)
theorem ed_repT {k : Int} (ha : EvD K ta σ H (.tuple ds)) (hb : EvD K tb σ H (.int k)) (hn : ds ≠ []) (h1 : 1 ≤ k) (hz : ds.length * k.toNat ≤ 100000) : EvD K (tOp (rMulX K) ta tb) σ H (.tuple (List.replicate k.toNat ds).flatten) := ed_op ha hb fun H1 _ v w hv hw Q q => by
  have hv0 := hv
  obtain ⟨a, xs, rfl, hs, ha⟩ := dp_tup hv
  refine .inr (.inr ⟨a, k, xs, rfl, dp_int hw, hs, fun e => hn ?_, h1, by rw [dpa_len ha]; omega, fun e => ?_, fun _ p hp => q _ _ (Ex.new hp) (.tup (st_of upd_same) (dpa_ex (Ex.new hp) (dpa_rep ha _)))⟩)
  · subst e; cases ha; rfl
  · subst e
    have e1 : (List.replicate (1 : Int).toNat ds).flatten = ds := by simp
    rw [e1] at q
    exact q _ _ (Ex.refl H1) hv0
theorem rdc_len {n : Nat} (h : ds = [.list es] ∨ ds = [.tuple es]) (hn : es.length = n) : RDC K (fun xs H Q => ∃ x n, xs = [x] ∧ LenV K x H n ∧ Q (.int n) H) H ds (.int n) := fun H1 _ vs hv Q q => by
  subst hn
  rcases h with h | h
  · subst h
    obtain ⟨x, r, rfl, hx, hr⟩ := dpa_cons hv
    cases dpa_nil hr
    obtain ⟨a, xs, rfl, hs, ha⟩ := dp_lst hx
    exact ⟨_, _, rfl, .inl ⟨xs, hs, rfl⟩, q _ _ (Ex.refl H1) (by rw [dpa_len ha]; exact .int _)⟩
  · subst h
    obtain ⟨x, r, rfl, hx, hr⟩ := dpa_cons hv
    cases dpa_nil hr
    obtain ⟨a, xs, rfl, hs, ha⟩ := dp_tup hx
    exact ⟨_, _, rfl, .inr ⟨xs, hs, rfl⟩, q _ _ (Ex.refl H1) (by rw [dpa_len ha]; exact .int _)⟩
theorem ed_lenL (ha : EvD K ta σ H (.list es)) : EvD K (tCB (fun xs H Q => ∃ x n, xs = [x] ∧ LenV K x H n ∧ Q (.int n) H) (tCons ta tNil)) σ H (.int es.length) := ed_cb (eds_cons ha eds_nil) (rdc_len (.inl rfl) rfl)
theorem ed_lenT (ha : EvD K ta σ H (.tuple es)) : EvD K (tCB (fun xs H Q => ∃ x n, xs = [x] ∧ LenV K x H n ∧ Q (.int n) H) (tCons ta tNil)) σ H (.int es.length) := ed_cb (eds_cons ha eds_nil) (rdc_len (.inr rfl) rfl)
theorem ed_lenS {a : Str} (ha : EvD K ta σ H (.str a)) (hz : a.length ≤ 100000) : EvD K (tCB (fun xs H Q => ∃ x n, xs = [x] ∧ LenV K x H n ∧ Q (.int n) H) (tCons ta tNil)) σ H (.int a.length) := ed_cb (eds_cons ha eds_nil) fun H1 _ vs hv Q q => by
  obtain ⟨x, r, rfl, hx, hr⟩ := dpa_cons hv
  cases dpa_nil hr
  rw [dp_str hx]
  exact ⟨_, _, rfl, ⟨sz_of hz, rfl⟩, q _ _ (Ex.refl H1) (.int _)⟩
abbrev rListOf (K : PySem.W.Frag) : List V → Hp → VK → Prop := fun xs H Q => ∃ p ys, xs = [.ref p] ∧ (SqL K H p ys ∨ SqT K H p ys) ∧ ∀ l, H l = none → Q (.ref l) (upd H l (.lst ys))
abbrev rTupleOf (K : PySem.W.Frag) : List V → Hp → VK → Prop := fun xs H Q => ∃ p ys, xs = [.ref p] ∧ ((SqL K H p ys ∧ ∀ l, H l = none → Q (.ref l) (upd H l (.tup ys))) ∨ (SqT K H p ys ∧ Q (.ref p) H))
theorem ed_listL (ha : EvD K ta σ H (.list es)) : EvD K (tCB (rListOf K) (tCons ta tNil)) σ H (.list es) := ed_cb (eds_cons ha eds_nil) fun H1 _ vs hv Q q => by
  obtain ⟨x, r, rfl, hx, hr⟩ := dpa_cons hv
  cases dpa_nil hr
  obtain ⟨a, xs, rfl, hs, ha⟩ := dp_lst hx
  exact ⟨_, _, rfl, .inl hs, fun p hp => q _ _ (Ex.new hp) (.lst (sq_of upd_same) (dpa_ex (Ex.new hp) ha))⟩
theorem ed_listT (ha : EvD K ta σ H (.tuple es)) : EvD K (tCB (rListOf K) (tCons ta tNil)) σ H (.list es) := ed_cb (eds_cons ha eds_nil) fun H1 _ vs hv Q q => by
  obtain ⟨x, r, rfl, hx, hr⟩ := dpa_cons hv
  cases dpa_nil hr
  obtain ⟨a, xs, rfl, hs, ha⟩ := dp_tup hx
  exact ⟨_, _, rfl, .inr hs, fun p hp => q _ _ (Ex.new hp) (.lst (sq_of upd_same) (dpa_ex (Ex.new hp) ha))⟩
theorem ed_tupL (ha : EvD K ta σ H (.list es)) : EvD K (tCB (rTupleOf K) (tCons ta tNil)) σ H (.tuple es) := ed_cb (eds_cons ha eds_nil) fun H1 _ vs hv Q q => by
  obtain ⟨x, r, rfl, hx, hr⟩ := dpa_cons hv
  cases dpa_nil hr
  obtain ⟨a, xs, rfl, hs, ha⟩ := dp_lst hx
  exact ⟨_, _, rfl, .inl ⟨hs, fun p hp => q _ _ (Ex.new hp) (.tup (st_of upd_same) (dpa_ex (Ex.new hp) ha))⟩⟩
theorem ed_tupT (ha : EvD K ta σ H (.tuple es)) : EvD K (tCB (rTupleOf K) (tCons ta tNil)) σ H (.tuple es) := ed_cb (eds_cons ha eds_nil) fun H1 _ vs hv Q q => by
  obtain ⟨x, r, rfl, hx, hr⟩ := dpa_cons hv
  cases dpa_nil hr
  have hx0 := hx
  obtain ⟨a, xs, rfl, hs, ha⟩ := dp_tup hx
  exact ⟨_, _, rfl, .inr ⟨hs, q _ _ (Ex.refl H1) hx0⟩⟩
abbrev rMax2' : List V → Hp → VK → Prop := fun xs H Q => ∃ i j, xs = [.int i, .int j] ∧ Q (.int (if j > i then j else i)) H
abbrev rMin2' : List V → Hp → VK → Prop := fun xs H Q => ∃ i j, xs = [.int i, .int j] ∧ Q (.int (if j < i then j else i)) H
abbrev rInt1 : List V → Hp → VK → Prop := fun xs H Q => (∃ i, xs = [.int i] ∧ Q (.int i) H) ∨ ∃ k, xs = [.bl k] ∧ Q (.int (if k then 1 else 0)) H
theorem ed_max2 {i j : Int} (ha : EvD K ta σ H (.int i)) (hb : EvD K tb σ H (.int j)) : EvD K (tCB rMax2' (tCons ta (tCons tb tNil))) σ H (.int (max i j)) := ed_cb (eds_cons ha (eds_cons hb eds_nil)) fun H1 _ vs hv Q q => by
  obtain ⟨x, r, rfl, hx, hr⟩ := dpa_cons hv
  obtain ⟨y, r, rfl, hy, hr⟩ := dpa_cons hr
  cases dpa_nil hr
  rw [dp_int hx, dp_int hy]
  refine ⟨i, j, rfl, q _ _ (Ex.refl H1) ?_⟩
  rw [show (if j > i then j else i) = max i j by rw [Int.max_def]; split <;> split <;> omega]
  exact .int _
theorem ed_min2 {i j : Int} (ha : EvD K ta σ H (.int i)) (hb : EvD K tb σ H (.int j)) : EvD K (tCB rMin2' (tCons ta (tCons tb tNil))) σ H (.int (min i j)) := ed_cb (eds_cons ha (eds_cons hb eds_nil)) fun H1 _ vs hv Q q => by
  obtain ⟨x, r, rfl, hx, hr⟩ := dpa_cons hv
  obtain ⟨y, r, rfl, hy, hr⟩ := dpa_cons hr
  cases dpa_nil hr
  rw [dp_int hx, dp_int hy]
  refine ⟨i, j, rfl, q _ _ (Ex.refl H1) ?_⟩
  rw [show (if j < i then j else i) = min i j by rw [Int.min_def]; split <;> split <;> omega]
  exact .int _
theorem ed_intI {i : Int} (ha : EvD K ta σ H (.int i)) : EvD K (tCB rInt1 (tCons ta tNil)) σ H (.int i) := ed_cb (eds_cons ha eds_nil) fun H1 _ vs hv Q q => by
  obtain ⟨x, r, rfl, hx, hr⟩ := dpa_cons hv
  cases dpa_nil hr
  rw [dp_int hx]
  exact .inl ⟨i, rfl, q _ _ (Ex.refl H1) (.int _)⟩
/-- a truth as a number -/
def bI (b : Bool) : Int := if b then 1 else 0
theorem ed_intB {b : Bool} (ha : EvD K ta σ H (.bool b)) : EvD K (tCB rInt1 (tCons ta tNil)) σ H (.int (bI b)) := ed_cb (eds_cons ha eds_nil) fun H1 _ vs hv Q q => by
  obtain ⟨x, r, rfl, hx, hr⟩ := dpa_cons hv
  cases dpa_nil hr
  rw [dp_bl hx]
  exact .inr ⟨b, rfl, q _ _ (Ex.refl H1) (.int _)⟩
/-! isinstance -/
theorem tyx_of (h : Dp K H v d) : TyX K H v (.type (tyD d)) := by
  cases h with
  | non => exact .base .non
  | bl b => exact .base (.bl _)
  | int i => exact .base (.int _)
  | str x => exact .base (.str _)
  | lst h a =>
    rcases h with (h | ⟨o, h⟩) | ⟨o, its, n, hk, hc, _⟩
    · exact .base (.lst h)
    · exact .base (.frz h)
    · exact .kList hk hc
  | tup h a =>
    rcases h with (h | ⟨o, h⟩) | ⟨o, its, n, hk, hc, _⟩
    · exact .base (.tup h)
    · exact .fTuple h
    · exact .kTuple hk hc
theorem ed_isi {n : String} {b : Bool} (ha : EvD K ta σ H d) (h : kitB (tyD d) n = some b) :
    EvD K (tCB (rIsi K) (tCons ta (tCons (tC (.ty n)) tNil))) σ H (.bool b) := fun H1 x Q z =>
  ha H1 x _ fun v H2 x2 hv => ⟨v, .ty n, _, _, b, rfl, .ty n, tyx_of hv, kit_ty h, z _ H2 x2 (.bl _)⟩
def isInt : PD → Bool | .int _ => true | .bool _ => true | _ => false
def isBool : PD → Bool | .bool _ => true | _ => false
def isTup : PD → Bool | .tuple _ => true | _ => false
def isLst : PD → Bool | .list _ => true | _ => false
def isStr : PD → Bool | .str _ => true | _ => false
def isDct : PD → Bool | .dict _ => true | _ => false
theorem ed_isInt (ha : EvD K ta σ H d) : EvD K (tCB (rIsi K) (tCons ta (tCons (tC (.ty "int")) tNil))) σ H (.bool (isInt d)) := ed_isi ha (by cases d <;> (simp only [tyD, isInt, isBool, isTup, isLst, isStr]; decide +kernel))
theorem ed_isBool (ha : EvD K ta σ H d) : EvD K (tCB (rIsi K) (tCons ta (tCons (tC (.ty "bool")) tNil))) σ H (.bool (isBool d)) := ed_isi ha (by cases d <;> (simp only [tyD, isInt, isBool, isTup, isLst, isStr]; decide +kernel))
theorem ed_isTup (ha : EvD K ta σ H d) : EvD K (tCB (rIsi K) (tCons ta (tCons (tC (.ty "tuple")) tNil))) σ H (.bool (isTup d)) := ed_isi ha (by cases d <;> (simp only [tyD, isInt, isBool, isTup, isLst, isStr]; decide +kernel))
theorem ed_isLst (ha : EvD K ta σ H d) : EvD K (tCB (rIsi K) (tCons ta (tCons (tC (.ty "list")) tNil))) σ H (.bool (isLst d)) := ed_isi ha (by cases d <;> (simp only [tyD, isInt, isBool, isTup, isLst, isStr]; decide +kernel))
theorem ed_isStr (ha : EvD K ta σ H d) : EvD K (tCB (rIsi K) (tCons ta (tCons (tC (.ty "str")) tNil))) σ H (.bool (isStr d)) := ed_isi ha (by cases d <;> (simp only [tyD, isInt, isBool, isTup, isLst, isStr]; decide +kernel))
end
end Pb

namespace Pb
open PySem PySem.Spec PyProof.Rows L2 Evn
variable [Evn.Tbs]

/-! ### what is walked, by data -/
/-- n turns, the i-th gives item i; what is walked may be new (J: it stood at H) -/
def EvI (K : PySem.W.Frag) (wi : TI) (σ : L2.St) (H : Hp) (n : Nat) (item : Nat → PD) : Prop := ∀ H1, Ex H H1 → ∀ R : It → Hp → Prop,
  (∀ (J : It) (H2 : Hp) (G : Hp → Prop) (Y : Nat → Hp → V → Hp → Prop), Ex H1 H2 → L2.Walk J n G Y → (∀ H3, Ex H2 H3 → G H3) → (∀ i Hx x Hy, i < n → Ex H2 Hx → Y i Hx x Hy → Ex Hx Hy ∧ Dp K Hy x (item i)) → R J H2) → wi σ H1 R
def EvJ (K : PySem.W.Frag) (wi : TI) (σ : L2.St) (H : Hp) (n : Nat) (item : Nat → PD) : Prop := ∀ H1, Ex H H1 → ∀ R : It → Hp → Prop,
  (∀ (J : It) (H2 : Hp) (G : Hp → Prop) (Y : Nat → Hp → V → Hp → Prop), Ex H1 H2 → L2.Walk J n G Y → (∀ H3, Ex H H3 → G H3) → (∀ i Hx x Hy, i < n → Ex H Hx → Y i Hx x Hy → Ex Hx Hy ∧ Dp K Hy x (item i)) → R J H2) → wi σ H1 R
section
variable {K : PySem.W.Frag} {σ : L2.St} {H H' : Hp} {ta tb tc te tl : TE} {t u : TT} {v : V} {d e f : PD} {ds es : List PD} {r : R2} {ar : TA} {n : Nat} {item : Nat → PD} {wi wj : TI}
theorem EvJ.i (h : EvJ K wi σ H n item) : EvI K wi σ H n item := fun H1 x R q => h H1 x R fun J H2 G Y x2 w g y => q J H2 G Y x2 w (fun H3 x3 => g H3 ((x.trans x2).trans x3)) fun i Hx z Hy hi x3 yy => y i Hx z Hy hi ((x.trans x2).trans x3) yy
theorem EvI.ex (x : Ex H H') (h : EvI K wi σ H n item) : EvI K wi σ H' n item := fun H1 a R q => h H1 (x.trans a) R q
theorem EvI.to {item' : Nat → PD} {m : Nat} (h : EvI K wi σ H n item) (e1 : n = m) (e2 : ∀ i, i < n → item i = item' i) : EvI K wi σ H m item' := by
  subst e1
  exact fun H1 x R q => h H1 x R fun J H2 G Y x2 w g y => q J H2 G Y x2 w g fun i Hx z Hy hi x3 yy => by
    rw [← e2 i hi]
    exact y i Hx z Hy hi x3 yy
theorem EvJ.to {item' : Nat → PD} {m : Nat} (h : EvJ K wi σ H n item) (e1 : n = m) (e2 : ∀ i, i < n → item i = item' i) : EvJ K wi σ H m item' := by
  subst e1
  exact fun H1 x R q => h H1 x R fun J H2 G Y x2 w g y => q J H2 G Y x2 w g fun i Hx z Hy hi x3 yy => by
    rw [← e2 i hi]
    exact y i Hx z Hy hi x3 yy
theorem yat_dp {a : Addr} {xs : List V} (ha : DpAll K H xs ds) {i : Nat} {Hx Hy : Hp} {x : V} (hi : i < xs.length) (x2 : Ex H Hx) (y : YAt xs i Hx x Hy) : Ex Hx Hy ∧ Dp K Hy x (ds.getD i .none) := by
  obtain ⟨e, hx⟩ := y
  subst e
  obtain ⟨d, hd, h⟩ := dpa_get ha hx
  refine ⟨Ex.refl _, ?_⟩
  rw [List.getD_eq_getElem?_getD, hd]
  exact dp_ex x2 h
theorem ei_list (h : EvD K tl σ H (.list ds)) : EvI K (iList K tl) σ H ds.length (fun i => ds.getD i .none) := fun H1 x R q => h H1 x _ fun v H2 x2 hv => by
  obtain ⟨a, xs, rfl, hs, ha⟩ := dp_lst hv
  refine ⟨a, rfl, ⟨xs, hs⟩, q (Itl K a) H2 _ _ x2 (dpa_len ha ▸ walk_list (xs := xs)) (fun H3 x3 => ex_l x3 hs) fun i Hx z Hy hi x3 y => yat_dp (a := a) ha (by rw [dpa_len ha]; exact hi) x3 y⟩
theorem ei_tup (h : EvD K tl σ H (.tuple ds)) : EvI K (iTup K tl) σ H ds.length (fun i => ds.getD i .none) := fun H1 x R q => h H1 x _ fun v H2 x2 hv => by
  obtain ⟨a, xs, rfl, hs, ha⟩ := dp_tup hv
  refine ⟨a, rfl, ⟨xs, hs⟩, q (Itt K a) H2 _ _ x2 (dpa_len ha ▸ walk_tup (xs := xs)) (fun H3 x3 => ex_t x3 hs) fun i Hx z Hy hi x3 y => yat_dp (a := a) ha (by rw [dpa_len ha]; exact hi) x3 y⟩
theorem ej_list {i : Nat} (hv : σ[i]? = some (some v)) (h : Dp K H v (.list ds)) : EvJ K (iList K (tVar i)) σ H ds.length (fun i => ds.getD i .none) := fun H1 x R q => by
  obtain ⟨a, xs, rfl, hs, ha⟩ := dp_lst h
  refine ⟨_, hv, a, rfl, ⟨xs, ex_l x hs⟩, q (Itl K a) H1 _ _ (Ex.refl H1) (dpa_len ha ▸ walk_list (xs := xs)) (fun H3 x3 => ex_l x3 hs) fun i Hx z Hy hi x3 y => yat_dp (a := a) ha (by rw [dpa_len ha]; exact hi) x3 y⟩
theorem ej_tup {i : Nat} (hv : σ[i]? = some (some v)) (h : Dp K H v (.tuple ds)) : EvJ K (iTup K (tVar i)) σ H ds.length (fun i => ds.getD i .none) := fun H1 x R q => by
  obtain ⟨a, xs, rfl, hs, ha⟩ := dp_tup h
  refine ⟨_, hv, a, rfl, ⟨xs, ex_t x hs⟩, q (Itt K a) H1 _ _ (Ex.refl H1) (dpa_len ha ▸ walk_tup (xs := xs)) (fun H3 x3 => ex_t x3 hs) fun i Hx z Hy hi x3 y => yat_dp (a := a) ha (by rw [dpa_len ha]; exact hi) x3 y⟩
theorem ej_rng1 {j : Int} (h : EvDs K ar σ H [.int j]) (hj : -1000000 ≤ j ∧ j ≤ 1000000) : EvJ K (iRng1 ar) σ H j.toNat (fun i => .int i) := fun H1 x R q => h H1 x _ fun vs H2 x2 hv => by
  obtain ⟨y, r, rfl, hy, hr⟩ := dpa_cons hv
  cases dpa_nil hr
  rw [dp_int hy]
  refine ⟨j, rfl, by omega, by omega, q _ H2 _ _ x2 walk_range (fun _ _ => trivial) fun i Hx z Hy hi _ yy => ?_⟩
  obtain ⟨e1, e2⟩ := yy
  subst e1 e2
  refine ⟨Ex.refl _, ?_⟩
  show Dp K _ (V.int (0 + (i : Int))) (.int (i : Int))
  rw [Int.zero_add]
  exact .int _
theorem ej_rng2 {i j : Int} (h : EvDs K ar σ H [.int i, .int j]) (hj : (-1000000 ≤ i ∧ i ≤ 1000000) ∧ -1000000 ≤ j ∧ j ≤ 1000000) : EvJ K (iRng2 ar) σ H (j - i).toNat (fun k => .int (i + k)) := fun H1 x R q => h H1 x _ fun vs H2 x2 hv => by
  obtain ⟨y, r, rfl, hy, hr⟩ := dpa_cons hv
  obtain ⟨z, r, rfl, hz, hr⟩ := dpa_cons hr
  cases dpa_nil hr
  rw [dp_int hy, dp_int hz]
  refine ⟨i, j, rfl, ⟨by omega, by omega, by omega, by omega⟩, q _ H2 _ _ x2 walk_range (fun _ _ => trivial) fun i Hx z Hy hi _ yy => ?_⟩
  obtain ⟨e1, e2⟩ := yy
  subst e1 e2
  exact ⟨Ex.refl _, .int _⟩
/-- one of two -/
def iOr (wi wj : TI) : TI := fun σ H R => wi σ H R ∨ wj σ H R
theorem pi_or {X : Cx} {tg it : Expr} (h : PI X tg it wi) (h' : PI X tg it wj) : PI X tg it (iOr wi wj) := ⟨fun pins s σ H R I q => q.elim (fun q => h.run pins s σ H R I q) fun q => h'.run pins s σ H R I q⟩
theorem EvI.ol (h : EvI K wi σ H n item) : EvI K (iOr wi wj) σ H n item := fun H1 x R q => .inl (h H1 x R q)
theorem EvI.or (h : EvI K wi σ H n item) : EvI K (iOr wj wi) σ H n item := fun H1 x R q => .inr (h H1 x R q)
theorem EvJ.ol (h : EvJ K wi σ H n item) : EvJ K (iOr wi wj) σ H n item := fun H1 x R q => .inl (h H1 x R q)
theorem EvJ.or (h : EvJ K wi σ H n item) : EvJ K (iOr wj wi) σ H n item := fun H1 x R q => .inr (h H1 x R q)
/-- a list, a tuple, a text -/
abbrev iSeq (K : PySem.W.Frag) (tl : TE) : TI := iOr (iList K tl) (iOr (iTup K tl) (iStr tl))
theorem pi_seq {X : Cx} {tg it : Expr} (h : PE X it tl) : PI X tg it (iSeq X.K tl) := pi_or (pi_list h) (pi_or (pi_tup h) (pi_str h))
theorem ei_str {z : Str} (h : EvD K tl σ H (.str z)) : EvI K (iStr tl) σ H z.cps.size (fun i => .str ⟨#[z.cps.toList.getD i 0]⟩) := fun H1 x R q => h H1 x _ fun v H2 x2 hv => by
  rw [dp_str hv]
  refine ⟨z, rfl, q _ H2 _ _ x2 walk_str (fun _ _ => trivial) fun i Hx y Hy hi _ yy => ?_⟩
  obtain ⟨e1, c, hc, e2⟩ := yy
  subst e1 e2
  refine ⟨Ex.refl _, ?_⟩
  have e3 : z.cps.toList.getD i 0 = c := by
    rw [List.getD_eq_getElem?_getD, Array.getElem?_toList, hc]; rfl
  show Dp K _ (V.str ⟨#[c]⟩) (.str ⟨#[z.cps.toList.getD i 0]⟩)
  rw [e3]
  exact .str _
/-! targets -/
/-- storing x by g takes the slots from σ to σ2, whatever the heap; the heap stays -/
def Tg (g : TG) (K : PySem.W.Frag) (x : V) (σ : L2.St) (H : Hp) (σ2 : L2.St) : Prop := ∀ Q : L2.St → Hp → Prop, Q σ2 H → g x σ H Q
theorem tg_name {i : Nat} {x : V} : Tg (gName i) K x σ H (σ.set i (some x)) := fun _ q => q
theorem tg_two {i j : Nat} {x : V} {d e : PD} (h : Dp K H x (.tuple [d, e])) : ∃ a b, Dp K H a d ∧ Dp K H b e ∧ Tg (gTup K 2 (gCons (gName i) (gCons (gName j) gNil))) K x σ H ((σ.set i (some a)).set j (some b)) := by
  obtain ⟨p, xs, rfl, hs, ha⟩ := dp_tup h
  obtain ⟨a, r, rfl, h1, hr⟩ := dpa_cons ha
  obtain ⟨b, r, rfl, h2, hr⟩ := dpa_cons hr
  cases dpa_nil hr
  exact ⟨a, b, h1, h2, fun Q q => ⟨p, [a, b], rfl, hs, rfl, a, [b], rfl, b, [], rfl, rfl, q⟩⟩
theorem tg_three {i j k : Nat} {x : V} {d e f : PD} (h : Dp K H x (.tuple [d, e, f])) : ∃ a b c, Dp K H a d ∧ Dp K H b e ∧ Dp K H c f ∧ Tg (gTup K 3 (gCons (gName i) (gCons (gName j) (gCons (gName k) gNil)))) K x σ H (((σ.set i (some a)).set j (some b)).set k (some c)) := by
  obtain ⟨p, xs, rfl, hs, ha⟩ := dp_tup h
  obtain ⟨a, r, rfl, h1, hr⟩ := dpa_cons ha
  obtain ⟨b, r, rfl, h2, hr⟩ := dpa_cons hr
  obtain ⟨c, r, rfl, h3, hr⟩ := dpa_cons hr
  cases dpa_nil hr
  exact ⟨a, b, c, h1, h2, h3, fun Q q => ⟨p, [a, b, c], rfl, hs, rfl, a, [b, c], rfl, b, [c], rfl, c, [], rfl, rfl, q⟩⟩
/-! comprehensions -/
/-- what a comprehension gives -/
def gv {α : Type} (n : Nat) (f : Nat → Bool) (d : Nat → α) : List α := ((List.range n).filter f).map d
theorem gv_yes {α : Type} {n : Nat} {f : Nat → Bool} {d : Nat → α} (h : f n = true) : gv (n + 1) f d = gv n f d ++ [d n] := by
  unfold gv
  rw [List.range_succ, List.filter_append, List.map_append, List.filter_cons, if_pos h] <;> rfl
theorem gv_no {α : Type} {n : Nat} {f : Nat → Bool} {d : Nat → α} (h : f n = false) : gv (n + 1) f d = gv n f d := by
  unfold gv
  rw [List.range_succ, List.filter_append, List.map_append, List.filter_cons, if_neg (by rw [h]; decide)]
  show _ ++ [] = _
  rw [List.append_nil]
theorem gv_len {α : Type} (n : Nat) (f : Nat → Bool) (d : Nat → α) : (gv n f d).length ≤ n := by
  unfold gv
  rw [List.length_map]
  have h := List.length_filter_le f (List.range n)
  rw [List.length_range] at h
  exact h
theorem noLs_gv {f : Nat → Bool} {d : Nat → PD} : ∀ {n : Nat}, (∀ i, i < n → f i = true → noL (d i) = true) → noLs (gv n f d) = true
  | 0, _ => rfl
  | n + 1, h => by
    have ih := noLs_gv (f := f) (d := d) (n := n) fun i hi => h i (Nat.lt_succ_of_lt hi)
    cases hf : f n with
    | false => rw [gv_no hf]; exact ih
    | true =>
      rw [gv_yes hf]
      have h1 := h n (Nat.lt_succ_self n) hf
      have app : ∀ (l : List PD) (x : PD), noLs l = true → noL x = true → noLs (l ++ [x]) = true := by
        intro l x
        induction l with
        | nil => intro _ hx; simp [noLs, hx]
        | cons y l ihl =>
          intro hl hx
          have hl' : noL y = true ∧ noLs l = true := by simpa [noLs] using hl
          rw [List.cons_append, noLs, hl'.1, ihl hl'.2 hx]; rfl
      exact app _ _ ih h1
/-- a new list -/
def EvN (K : PySem.W.Frag) (te : TE) (σ : L2.St) (H : Hp) (ds : List PD) : Prop := ∀ H1, Ex H H1 → ∀ Q : VK, (∀ p H2 xs, H1 p = none → Ex H1 H2 → H2 p = some (.lst xs) → DpAll K H2 xs ds → Q (.ref p) H2) → te σ H1 Q
theorem EvN.toD (h : EvN K te σ H ds) : EvD K te σ H (.list ds) := fun H1 x Q q => h H1 x Q fun p H2 xs _ x2 e ha => q _ H2 x2 (.lst (sq_of e) ha)
theorem EvN.to (h : EvN K te σ H ds) (e : ds = es) : EvN K te σ H es := e ▸ h
theorem EvN.ex (x : Ex H H') (h : EvN K te σ H ds) : EvN K te σ H' ds := fun H1 a Q q => h H1 (x.trans a) Q q
theorem en_lc {g : TG} {tt : TT} {vs : List Nat} (f : Nat → Bool) (d : Nat → PD) (hi : EvI K wi σ H n item) (hz : n ≤ 90000) (hL : ∀ i, i < n → f i = true → noL (d i) = true)
    (hg : ∀ i x H1, i < n → Ex H H1 → Dp K H1 x (item i) → ∃ σ2, Tg g K x (wipe σ vs) H1 σ2 ∧ wipe σ2 vs = wipe σ vs ∧ EvT tt σ2 H1 (f i) ∧ (f i = true → EvD K te σ2 H1 (d i))) : EvN K (tLc wi g tt te vs) σ H (gv n f d) := fun H1 x Q q =>
  hi H1 x _ fun J H2 G Y x2 w hG hY Dl hD => lc_it w (fun i H' => Ex H2 H' ∧ ∃ xs, H' Dl = some (.lst xs) ∧ DpAll K H' xs (gv i f d)) ⟨Ex.new hD, [], upd_same, .nil⟩ (fun i H' _ p => hG H' p.1) (fun i z Ha Hb hi ⟨p1, xs, p2, p3⟩ yy => by
      obtain ⟨y1, y2⟩ := hY i Ha z Hb hi p1 yy
      obtain ⟨σ2, t1, t2, t3, t4⟩ := hg i z Hb hi ((x.trans x2).trans (p1.trans y1)) y2
      refine t1 _ ⟨t2, t3 Hb (Ex.refl Hb) _ fun H3 x3 => ?_⟩
      cases hf : f i with
      | false =>
        show Ex H2 H3 ∧ _
        refine ⟨(p1.trans y1).trans x3, xs, (y1.trans x3) _ _ p2, ?_⟩
        rw [gv_no hf]
        exact dpa_ex (y1.trans x3) p3
      | true =>
        show te σ2 H3 _
        refine t4 hf H3 x3 _ fun v H4 x4 hv => ?_
        have e4 := ((y1.trans x3).trans x4) _ _ p2
        have hl := dpa_len p3
        have hgl := gv_len i f d
        refine ⟨xs, e4, sz_lt (by omega), Ex.mut (((p1.trans y1).trans x3).trans x4) hD e4, xs ++ [v], upd_same, ?_⟩
        rw [gv_yes hf]
        exact dpa_append (dpa_upd e4 (dpa_ex ((y1.trans x3).trans x4) p3) (noLs_gv fun k hk => hL k (by omega))) (.cons (dp_upd e4 hv (hL i hi hf)) .nil))
    (fun H' ⟨p1, xs, p2, p3⟩ => q Dl H' xs (fresh_back x2 hD) (x2.trans p1) p2 p3)
/-- the target a name, no test -/
theorem en_lc1 {j : Nat} {vs : List Nat} (d : Nat → PD) (hi : EvI K wi σ H n item) (hz : n ≤ 90000) (hL : ∀ i, i < n → noL (d i) = true) (hw : ∀ x, wipe ((wipe σ vs).set j (some x)) vs = wipe σ vs)
    (he : ∀ i x H1, i < n → Ex H H1 → Dp K H1 x (item i) → EvD K te ((wipe σ vs).set j (some x)) H1 (d i)) : EvN K (tLc wi (gName j) tYes te vs) σ H ((List.range n).map d) := by
  have h := en_lc (K := K) (σ := σ) (g := gName j) (tt := tYes) (vs := vs) (te := te) (fun _ => true) d hi hz (fun i hi _ => hL i hi) fun i x H1 hi x1 hx => ⟨_, tg_name, hw x, fun H2 _ Q q => q H2 (Ex.refl H2), fun _ => he i x H1 hi x1 hx⟩
  have e : gv n (fun _ => true) d = (List.range n).map d := by unfold gv; rw [show (List.range n).filter (fun _ => true) = List.range n from List.filter_eq_self.mpr fun _ _ => rfl]
  rw [e] at h
  exact h
/-- .. with a test -/
theorem en_lc2 {j : Nat} {vs : List Nat} {tt : TT} (f : Nat → Bool) (d : Nat → PD) (hi : EvI K wi σ H n item) (hz : n ≤ 90000) (hL : ∀ i, i < n → f i = true → noL (d i) = true) (hw : ∀ x, wipe ((wipe σ vs).set j (some x)) vs = wipe σ vs)
    (ht : ∀ i x H1, i < n → Ex H H1 → Dp K H1 x (item i) → EvT tt ((wipe σ vs).set j (some x)) H1 (f i))
    (he : ∀ i x H1, i < n → Ex H H1 → Dp K H1 x (item i) → f i = true → EvD K te ((wipe σ vs).set j (some x)) H1 (d i)) : EvN K (tLc wi (gName j) tt te vs) σ H (gv n f d) :=
  en_lc f d hi hz hL fun i x H1 hi x1 hx => ⟨_, tg_name, hw x, ht i x H1 hi x1 hx, he i x H1 hi x1 hx⟩
theorem en_lst (h : EvDs K ar σ H ds) (hl : ds.length ≤ 100000) : EvN K (tLst ar) σ H ds := fun H1 x _ q =>
  h H1 x _ fun vs H2 x2 hv => ⟨sz_of (by rw [dpa_len hv]; exact hl), fun p hp => q _ _ _ (fresh_back x2 hp) (x2.trans (Ex.new hp)) upd_same (dpa_ex (Ex.new hp) hv)⟩
theorem en_op {r : R2} (ha : EvD K ta σ H d) (hb : EvD K tb σ H e) (hr : ∀ H1, Ex H H1 → ∀ v w, Dp K H1 v d → Dp K H1 w e → ∀ Q : VK, (∀ p H2 xs, H1 p = none → Ex H1 H2 → H2 p = some (.lst xs) → DpAll K H2 xs ds → Q (.ref p) H2) → r v w H1 Q) : EvN K (tOp r ta tb) σ H ds := fun H1 x Q q =>
  ha H1 x _ fun v H2 x2 hv => hb H2 (x.trans x2) _ fun w H3 x3 hw => hr H3 ((x.trans x2).trans x3) v w (dp_ex x3 hv) hw Q fun p H4 xs hp x4 e4 h4 => q p H4 xs (fresh_back (x2.trans x3) hp) ((x2.trans x3).trans x4) e4 h4
theorem en_catL (ha : EvD K ta σ H (.list ds)) (hb : EvD K tb σ H (.list es)) (hz : ds.length + es.length ≤ 100000) : EvN K (tOp (rAddX K) ta tb) σ H (ds ++ es) := en_op ha hb fun H1 _ v w hv hw Q q => by
  obtain ⟨a, xs, rfl, hs, ha⟩ := dp_lst hv
  obtain ⟨b, ys, rfl, hs2, hb⟩ := dp_lst hw
  exact .inr (.inl ⟨a, b, xs, ys, rfl, rfl, hs, hs2, sz_of (by rw [dpa_len ha, dpa_len hb]; exact hz), fun p hp => q _ _ _ hp (Ex.new hp) upd_same (dpa_ex (Ex.new hp) (dpa_append ha hb))⟩)
theorem en_repL {k : Int} (ha : EvD K ta σ H (.list ds)) (hb : EvD K tb σ H (.int k)) (h1 : -1000000 ≤ k ∧ k ≤ 1000000) (hz : ds.length * k.toNat ≤ 100000) : EvN K (tOp (rMulX K) ta tb) σ H (List.replicate k.toNat ds).flatten := en_op ha hb fun H1 _ v w hv hw Q q => by
  obtain ⟨a, xs, rfl, hs, ha⟩ := dp_lst hv
  exact .inr (.inl ⟨a, k, xs, rfl, dp_int hw, hs, by omega, by omega, sz_of (by rw [dpa_len ha]; exact hz), fun p hp => q _ _ _ hp (Ex.new hp) upd_same (dpa_ex (Ex.new hp) (dpa_rep ha _))⟩)
theorem en_slL {tl th : TO} {lo hi : Option Int} (h : EvD K te σ H (.list ds)) (h1 : EvO tl σ H lo) (h2 : EvO th σ H hi) : EvN K (tSl (rSlX K) te tl th) σ H (cutD ds lo hi) := fun H1 x Q q =>
  h H1 x _ fun v H2 x2 hv => h1 H2 (x.trans x2) _ fun H3 x3 => h2 H3 ((x.trans x2).trans x3) _ fun H4 x4 => by
    obtain ⟨a, xs, rfl, hs, ha⟩ := dp_lst hv
    exact .inl ⟨a, xs, rfl, ex_l (x3.trans x4) hs, fun p hp => q _ _ _ (fresh_back ((x2.trans x3).trans x4) hp) (((x2.trans x3).trans x4).trans (Ex.new hp)) upd_same (cutV_dpa (dpa_ex ((x3.trans x4).trans (Ex.new hp)) ha) lo hi)⟩
theorem en_listOf (h : EvD K ta σ H (.list es) ∨ EvD K ta σ H (.tuple es)) : EvN K (tCB (rListOf K) (tCons ta tNil)) σ H es := fun H1 x Q q => by
  rcases h with h | h
  · refine h H1 x _ fun v H2 x2 hv => ?_
    obtain ⟨a, xs, rfl, hs, ha⟩ := dp_lst hv
    exact ⟨_, _, rfl, .inl hs, fun p hp => q _ _ _ (fresh_back x2 hp) (x2.trans (Ex.new hp)) upd_same (dpa_ex (Ex.new hp) ha)⟩
  · refine h H1 x _ fun v H2 x2 hv => ?_
    obtain ⟨a, xs, rfl, hs, ha⟩ := dp_tup hv
    exact ⟨_, _, rfl, .inr hs, fun p hp => q _ _ _ (fresh_back x2 hp) (x2.trans (Ex.new hp)) upd_same (dpa_ex (Ex.new hp) ha)⟩
/-! ### statements -/
variable {D : Ends} {tu tw tz : TS} {g : TG}
theorem sd_asg {i : Nat} (h : EvD K te σ H d) (k : ∀ v H1, Ex H H1 → Dp K H1 v d → D.nx (σ.set i (some v)) H1) : tAsg te (gName i) D σ H := h H (Ex.refl H) _ fun v H1 x hv => k v H1 x hv
theorem qd_asg {i : Nat} (h : EvD K te σ H d) (k : ∀ v H1, Ex H H1 → Dp K H1 v d → tz D (σ.set i (some v)) H1) : tSeq (tAsg te (gName i)) tz D σ H := sd_asg (D := { D with nx := tz D }) h k
theorem qd_asgI {i : Nat} {j : Int} (h : EvD K te σ H (.int j)) (k : ∀ H1, Ex H H1 → tz D (σ.set i (some (.int j))) H1) : tSeq (tAsg te (gName i)) tz D σ H := qd_asg h fun v H1 x hv => by rw [dp_int hv]; exact k H1 x
theorem qd_asgB {i : Nat} {j : Bool} (h : EvD K te σ H (.bool j)) (k : ∀ H1, Ex H H1 → tz D (σ.set i (some (.bl j))) H1) : tSeq (tAsg te (gName i)) tz D σ H := qd_asg h fun v H1 x hv => by rw [dp_bl hv]; exact k H1 x
theorem sd_asgI {i : Nat} {j : Int} (h : EvD K te σ H (.int j)) (k : ∀ H1, Ex H H1 → D.nx (σ.set i (some (.int j))) H1) : tAsg te (gName i) D σ H := sd_asg h fun v H1 x hv => by rw [dp_int hv]; exact k H1 x
theorem sd_asgN {i : Nat} (h : EvN K te σ H ds) (k : ∀ p H1 xs, H p = none → Ex H H1 → H1 p = some (.lst xs) → DpAll K H1 xs ds → D.nx (σ.set i (some (.ref p))) H1) : tAsg te (gName i) D σ H := h H (Ex.refl H) _ fun p H1 xs hp x e ha => k p H1 xs hp x e ha
theorem qd_asgN {i : Nat} (h : EvN K te σ H ds) (k : ∀ p H1 xs, H p = none → Ex H H1 → H1 p = some (.lst xs) → DpAll K H1 xs ds → tz D (σ.set i (some (.ref p))) H1) : tSeq (tAsg te (gName i)) tz D σ H := sd_asgN (D := { D with nx := tz D }) h k
theorem qd_two {i j : Nat} {d1 d2 : PD} (h : EvD K te σ H (.tuple [d1, d2])) (k : ∀ a b H1, Ex H H1 → Dp K H1 a d1 → Dp K H1 b d2 → tz D ((σ.set i (some a)).set j (some b)) H1) : tSeq (tAsg te (gTup K 2 (gCons (gName i) (gCons (gName j) gNil)))) tz D σ H := h H (Ex.refl H) _ fun v H1 x hv => by
  obtain ⟨a, b, h1, h2, t⟩ := tg_two (K := K) (σ := σ) (i := i) (j := j) hv
  exact t _ (k a b H1 x h1 h2)
theorem qd_three {i j l : Nat} {d1 d2 d3 : PD} (h : EvD K te σ H (.tuple [d1, d2, d3])) (k : ∀ a b c H1, Ex H H1 → Dp K H1 a d1 → Dp K H1 b d2 → Dp K H1 c d3 → tz D (((σ.set i (some a)).set j (some b)).set l (some c)) H1) : tSeq (tAsg te (gTup K 3 (gCons (gName i) (gCons (gName j) (gCons (gName l) gNil))))) tz D σ H := h H (Ex.refl H) _ fun v H1 x hv => by
  obtain ⟨a, b, c, h1, h2, h3, t⟩ := tg_three (K := K) (σ := σ) (i := i) (j := j) (k := l) hv
  exact t _ (k a b c H1 x h1 h2 h3)
theorem sd_ret (h : EvD K te σ H d) (k : ∀ v H1, Ex H H1 → Dp K H1 v d → D.rt v H1) : tRet te D σ H := h H (Ex.refl H) _ k
theorem qd_ret (h : EvD K te σ H d) (k : ∀ v H1, Ex H H1 → Dp K H1 v d → D.rt v H1) : tSeq (tRet te) tz D σ H := h H (Ex.refl H) _ k
/-- xs.append(e): e no list -/
theorem sd_app {l : Addr} {xs : List V} (hl : H l = some (.lst xs)) (ha : Ev ta σ H (.ref l)) (h : EvD K te σ H d) (hz : xs.length < 100000) (k : ∀ v H1, Ex H H1 → Dp K H1 v d → D.nx σ (upd H1 l (.lst (xs ++ [v])))) :
    tDrop (tBM K "list" rAppend ta (tCons te tNil)) D σ H := ha H (Ex.refl H) _ fun H1 e1 =>
  ⟨Or.inl ⟨rfl, xs, sq_of (e1 l _ hl)⟩, h H1 e1 _ fun v H2 e2 hv => ⟨l, xs, v, rfl, rfl, e2 l _ (e1 l _ hl), sz_lt hz, k v H2 (e1.trans e2) hv⟩⟩
theorem qd_app {l : Addr} {xs : List V} (hl : H l = some (.lst xs)) (ha : Ev ta σ H (.ref l)) (h : EvD K te σ H d) (hz : xs.length < 100000) (k : ∀ v H1, Ex H H1 → Dp K H1 v d → tz D σ (upd H1 l (.lst (xs ++ [v])))) :
    tSeq (tDrop (tBM K "list" rAppend ta (tCons te tNil))) tz D σ H := sd_app (D := { D with nx := tz D }) hl ha h hz k
theorem ev_ref {i : Nat} {v : V} (h : σ[i]? = some (some v)) : Ev (tVar i) σ H v := ev_var h
/-! for -/
theorem s_forJ {Hb : Hp} (hb : Ex Hb H) (hj : EvJ K wi σ Hb n item) (Pv : Nat → L2.St → Hp → Prop) (h0 : ∀ H1, Ex H H1 → Pv 0 σ H1) (hG : ∀ i σ' H', Pv i σ' H' → Ex Hb H')
    (hs : ∀ i x σ' H' Hy, i < n → Pv i σ' H' → Ex H' Hy → Dp K Hy x (item i) → g x σ' Hy fun σ2 H2 => tu { D with nx := Pv (i + 1), ct := Pv (i + 1), bk := D.nx } σ2 H2) (hd : ∀ σ' H', Pv n σ' H' → D.nx σ' H') : tFor wi g tu D σ H :=
  hj H hb _ fun J H2 G Y x2 w hg hy => for_it w Pv (h0 H2 x2) (fun i σ' H' _ p => hg H' (hG i σ' H' p)) (fun i x σ' Ha Hb' hi p yy => by
    obtain ⟨y1, y2⟩ := hy i Ha x Hb' hi (hG i σ' Ha p) yy
    exact hs i x σ' Ha Hb' hi p y1 y2) hd
theorem q_forJ {Hb : Hp} (hb : Ex Hb H) (hj : EvJ K wi σ Hb n item) (Pv : Nat → L2.St → Hp → Prop) (h0 : ∀ H1, Ex H H1 → Pv 0 σ H1) (hG : ∀ i σ' H', Pv i σ' H' → Ex Hb H')
    (hs : ∀ i x σ' H' Hy, i < n → Pv i σ' H' → Ex H' Hy → Dp K Hy x (item i) → g x σ' Hy fun σ2 H2 => tu { D with nx := Pv (i + 1), ct := Pv (i + 1), bk := tz D } σ2 H2) (hd : ∀ σ' H', Pv n σ' H' → tz D σ' H') : tSeq (tFor wi g tu) tz D σ H :=
  s_forJ (D := { D with nx := tz D }) hb hj Pv h0 hG hs hd
theorem s_forI (hj : EvI K wi σ H n item) (Pv : Hp → Nat → L2.St → Hp → Prop) (h0 : ∀ H1, Ex H H1 → Pv H1 0 σ H1) (hG : ∀ H1 i σ' H', Pv H1 i σ' H' → Ex H1 H')
    (hs : ∀ H1 i x σ' H' Hy, i < n → Ex H H1 → Pv H1 i σ' H' → Ex H' Hy → Dp K Hy x (item i) → g x σ' Hy fun σ2 H2 => tu { D with nx := Pv H1 (i + 1), ct := Pv H1 (i + 1), bk := D.nx } σ2 H2) (hd : ∀ H1 σ' H', Ex H H1 → Pv H1 n σ' H' → D.nx σ' H') : tFor wi g tu D σ H :=
  hj H (Ex.refl H) _ fun J H2 G Y x2 w hg hy => for_it w (Pv H2) (h0 H2 x2) (fun i σ' H' _ p => hg H' (hG H2 i σ' H' p)) (fun i x σ' Ha Hb' hi p yy => by
    obtain ⟨y1, y2⟩ := hy i Ha x Hb' hi (hG H2 i σ' Ha p) yy
    exact hs H2 i x σ' Ha Hb' hi x2 p y1 y2) fun σ' H' p => hd H2 σ' H' x2 p
theorem q_forI (hj : EvI K wi σ H n item) (Pv : Hp → Nat → L2.St → Hp → Prop) (h0 : ∀ H1, Ex H H1 → Pv H1 0 σ H1) (hG : ∀ H1 i σ' H', Pv H1 i σ' H' → Ex H1 H')
    (hs : ∀ H1 i x σ' H' Hy, i < n → Ex H H1 → Pv H1 i σ' H' → Ex H' Hy → Dp K Hy x (item i) → g x σ' Hy fun σ2 H2 => tu { D with nx := Pv H1 (i + 1), ct := Pv H1 (i + 1), bk := tz D } σ2 H2) (hd : ∀ H1 σ' H', Ex H H1 → Pv H1 n σ' H' → tz D σ' H') : tSeq (tFor wi g tu) tz D σ H :=
  s_forI (D := { D with nx := tz D }) hj Pv h0 hG hs hd
end

/-! ### promises by data -/
/-- from data of this form this data is handed back; what was tracked stays -/
def SpD {γ : Type} (K : PySem.W.Frag) (args : γ → List PD) (side : γ → Prop) (res : γ → PD) : Sp := fun vs H Q _ => ∃ g, DpAll K H vs (args g) ∧ side g ∧ ∀ v H', Ex H H' → Dp K H' v (res g) → Q v H'
section
variable {K : PySem.W.Frag} {σ : L2.St} {H H' : Hp} {ar : TA} {d : PD} {ds : List PD}
theorem ed_call {sp : Sp} {E : XK} (ha : EvDs K ar σ H ds) (hs : ∀ H1 vs, Ex H H1 → DpAll K H1 vs ds → ∀ Q : VK, (∀ v H2, Ex H1 H2 → Dp K H2 v d → Q v H2) → sp vs H1 Q E) : EvD K (tCall sp [] E ar) σ H d := fun H1 x Q q =>
  ha H1 x _ fun vs H2 x2 hv => by
    show sp (vs ++ []) H2 Q E
    rw [List.append_nil]
    exact hs H2 vs (x.trans x2) hv Q fun v H3 x3 h3 => q v H3 (x2.trans x3) h3
theorem ed_callD {γ : Type} {args : γ → List PD} {side : γ → Prop} {res : γ → PD} {E : XK} (g : γ) (ha : EvDs K ar σ H (args g)) (hs : side g) : EvD K (tCall (SpD K args side res) [] E ar) σ H (res g) :=
  ed_call ha fun H1 vs x hv Q q => ⟨g, hv, hs, q⟩
end
/-- a def that may be called by its name -/
structure Can (P : Program) (w : World) (K : PySem.W.Frag) (mg : Str → Option Value) (base : Heap) (CX : CXT) (k : Nat) (x : Str) (sp : Sp) : Prop where
  ex : ∃ (f : Addr) (fd : FuncData) (ps : List Str), FnOk P w K mg base CX k f fd ps sp ∧ mg x = some (.ref f) ∧ PySem.W.keepIn K (.ref f) = true ∧ Binds K fd ps []
/-- a def of the text -/
structure Dfn (K : PySem.W.Frag) (mg : Str → Option Value) (x : Str) (st : Stmt) (ps : List Str) : Prop where
  ex : ∃ (f : Addr) (fd : FuncData), L2.Fun K x x st f fd ∧ mg x = some (.ref f) ∧ Binds K fd ps []
section
variable {P : Program} {w : World} {K : PySem.W.Frag} {mg : Str → Option Value} {base : Heap}
theorem Can.mono {CX : CXT} {j k : Nat} {x : Str} {sp : Sp} (h : Can P w K mg base CX j x sp) (hj : j ≤ k) : Can P w K mg base CX k x sp := by
  obtain ⟨f, fd, ps, F, r⟩ := h.ex
  exact ⟨f, fd, ps, F.mono hj, r⟩
theorem fn_D {x : Str} {st : Stmt} {f : Addr} {fd : FuncData} {N ps : List Str} {k : Nat} {γ : Type} {args : γ → List PD} {side : γ → Prop} {res : γ → PD} (F : L2.Fun K x x st f fd) (S : FnScope N ps (defScope st)) (len : ∀ g, (args g).length = ps.length)
    (hbody : ∀ (cdv : Value) (A : Around) (outer : List Env) (s : Shared) (H : Hp) (vs : List V) (Q : VK) (E : XK) (f : Addr) (g : γ), Room k (A.deeper (envOfC x (defScope st) s.heap.objs.size f cdv)) → DpAll K H vs (args g) → side g → (∀ v H', Ex H H' → Dp K H' v (res g) → Q v H') →
      ∃ t, PSs (cxOf CX0 P w K mg base N x (defScope st) f cdv A outer s H E).nox (defBody st) t ∧ t { nx := fun _ H' => Q .non H', rt := Q } (start N vs) H) : FnOk P w K mg base CX0 (k + 1) f fd ps (SpD K args side res) :=
  F.ok S (fun vs H Q E ⟨g, hv, _⟩ => (dpa_len hv).trans (len g)) (fun cdv A outer s H vs Q E hr ⟨g, hv, hs, q⟩ => hbody cdv A outer s H vs Q E f g hr hv hs q)
theorem can_D {x : Str} {st : Stmt} {N ps : List Str} {k : Nat} {γ : Type} {args : γ → List PD} {side : γ → Prop} {res : γ → PD} (F : Dfn K mg x st ps) (S : FnScope N ps (defScope st)) (len : ∀ g, (args g).length = ps.length)
    (hbody : ∀ (cdv : Value) (A : Around) (outer : List Env) (s : Shared) (H : Hp) (vs : List V) (Q : VK) (E : XK) (f : Addr) (g : γ), Room k (A.deeper (envOfC x (defScope st) s.heap.objs.size f cdv)) → DpAll K H vs (args g) → side g → (∀ v H', Ex H H' → Dp K H' v (res g) → Q v H') →
      ∃ t, PSs (cxOf CX0 P w K mg base N x (defScope st) f cdv A outer s H E).nox (defBody st) t ∧ t { nx := fun _ H' => Q .non H', rt := Q } (start N vs) H) : Can P w K mg base CX0 (k + 1) x (SpD K args side res) := by
  obtain ⟨f, fd, F, hm, b⟩ := F.ex
  exact ⟨f, fd, ps, fn_D F S len hbody, hm, F.kp, b⟩
end
section
variable {X : Cx} {k j : Nat} {x : Str} {p pos : Pos} {e : Expr} {es : List Expr} {t : TA} {sp : Sp}
theorem pc (c : Can X.prog X.w X.K X.mg X.base CX0 k x sp) (hr : Room j X.A) (hk : k ≤ j) (hg : Gl X x) (ha : PA X (e :: es) t)
    (hdb : (x == ("__debug__" : Str)) = false := by decide) (he : starEach (e :: es) X.env = (false, eval e X.env) :: starEach es X.env := by rfl) (hpl : (backTo pos (starEach es X.env)).any (·.1) = false := by rfl) :
    PE X (.Call (.Name x p) (e :: es) [] pos) (tCall sp [] E0 t) := by
  obtain ⟨f, fd, ps, F, hm, kp, b⟩ := c.ex
  exact pe_call F (hr.mono hk) hg hm kp b .nil pass0 ha hdb he hpl
theorem pc0 (c : Can X.prog X.w X.K X.mg X.base CX0 k x sp) (hr : Room j X.A) (hk : k ≤ j) (hg : Gl X x)
    (hdb : (x == ("__debug__" : Str)) = false := by decide) : PE X (.Call (.Name x p) [] [] pos) (tCall sp [] E0 tNil) := by
  obtain ⟨f, fd, ps, F, hm, kp, b⟩ := c.ex
  exact pe_call0 F (hr.mono hk) hg hm kp b .nil pass0 hdb
end
/-- the built-in names that the module leaves as they are -/
structure Bt (mg : Str → Option Value) : Prop where
  len : mg "len" = none
  range : mg "range" = none
  int : mg "int" = none
  list : mg "list" = none
  tuple : mg "tuple" = none
  max : mg "max" = none
  min : mg "min" = none
  isinstance : mg "isinstance" = none
  bool : mg "bool" = none
  str : mg "str" = none
  sum : mg "sum" = none
  sorted : mg "sorted" = none
  any : mg "any" = none
  enumerate : mg "enumerate" = none
  ValueError : mg "ValueError" = none
end Pb

namespace Pb
open PySem PySem.Spec PyProof.Rows L2 Evn
variable [Evn.Tbs]
section
variable {K : PySem.W.Frag} {σ : L2.St} {H H' : Hp} {ta tb tc te tl : TE} {t u : TT} {v : V} {d e f : PD} {ds es : List PD} {r : R2} {ar : TA}
theorem dpa1 {vs : List V} {d1 : PD} (h : DpAll K H vs [d1]) : ∃ a, vs = [a] ∧ Dp K H a d1 := by
  obtain ⟨a, r, rfl, h1, h⟩ := dpa_cons h
  cases dpa_nil h
  exact ⟨a, rfl, h1⟩
theorem dpa2 {vs : List V} {d1 d2 : PD} (h : DpAll K H vs [d1, d2]) : ∃ a b, vs = [a, b] ∧ Dp K H a d1 ∧ Dp K H b d2 := by
  obtain ⟨a, r, rfl, h1, h⟩ := dpa_cons h
  obtain ⟨b, rfl, h2⟩ := dpa1 h
  exact ⟨a, b, rfl, h1, h2⟩
theorem dpa3 {vs : List V} {d1 d2 d3 : PD} (h : DpAll K H vs [d1, d2, d3]) : ∃ a b c, vs = [a, b, c] ∧ Dp K H a d1 ∧ Dp K H b d2 ∧ Dp K H c d3 := by
  obtain ⟨a, r, rfl, h1, h⟩ := dpa_cons h
  obtain ⟨b, c, rfl, h2, h3⟩ := dpa2 h
  exact ⟨a, b, c, rfl, h1, h2, h3⟩
theorem dpa4 {vs : List V} {d1 d2 d3 d4 : PD} (h : DpAll K H vs [d1, d2, d3, d4]) : ∃ a b c d, vs = [a, b, c, d] ∧ Dp K H a d1 ∧ Dp K H b d2 ∧ Dp K H c d3 ∧ Dp K H d d4 := by
  obtain ⟨a, r, rfl, h1, h⟩ := dpa_cons h
  obtain ⟨b, c, d, rfl, h2, h3, h4⟩ := dpa3 h
  exact ⟨a, b, c, d, rfl, h1, h2, h3, h4⟩
/-- an item of ints -/
theorem at_ints {ns : List Int} {i : Nat} (h : i < ns.length) : atI (ns.map PyData.int) (i : Int) = some (.int (ns.getD i 0)) := by
  refine atI_nat ?_
  rw [List.getElem?_map, List.getElem?_eq_getElem h, List.getD_eq_getElem?_getD, List.getElem?_eq_getElem h]
  rfl
theorem at_intsI {ns : List Int} {i : Int} (h0 : 0 ≤ i) (h : i < ns.length) : atI (ns.map PyData.int) i = some (.int (ns.getD i.toNat 0)) := by
  have e : i = (i.toNat : Int) := by omega
  rw [e, at_ints (by omega)]
  rfl
theorem at_last {ds : List PD} (h : ds ≠ []) : atI ds (-1) = some (ds.getLast h) := by
  conv => lhs; rw [← List.dropLast_concat_getLast h]
  exact atI_last _ _
end
/-! ### the law's own promise -/
def sp_law (K : PySem.W.Frag) : Sp := SpD K (fun ns : List Int => [.list (ns.map .int)]) (fun ns => ns.length ≤ 63) (fun _ => .bool true)
theorem law_start (K : PySem.W.Frag) (H : Hp) (a : Addr) (ns : List Int) (hl : ns.length ≤ 63) (_ : L2.Only H) (hs : SqL K H a (ns.map V.int)) : sp_law K [.ref a] H (fun v _ => v = .bl true) fun _ _ _ => False :=
  ⟨ns, .cons (.lst hs dpa_of_ints) .nil, hl, fun v H' _ hv => dp_bl hv⟩
theorem toNat_emod (a b : Nat) : ((a : Int) % (b : Int)).toNat = a % b := by rw [← Int.natCast_emod]; rfl
theorem cmul_l {i j : Int} (h1 : -18446744073709551616 < i) (h2 : i < 18446744073709551616) : CMul i j := .inl ⟨by omega, by omega⟩
theorem cmul_r {i j : Int} (h1 : -18446744073709551616 < j) (h2 : j < 18446744073709551616) : CMul i j := .inr ⟨by omega, by omega⟩
theorem cdiv_of {i j : Int} (h1 : 0 < j) (h2 : j < 1073741824) : CDiv i j := ⟨h1, h2⟩
end Pb

namespace Pb
open PySem PySem.Spec PyProof.Rows L2 Evn
variable [Evn.Tbs]
/-! ### data: equal, of a shape, cut -/
theorem layAll_int : ∀ ns : List Int, PyData.canLayAll0 (ns.map .int) = true
  | [] => rfl
  | x :: r => by rw [List.map_cons, PyData.canLayAll0, layAll_int r]; rfl
theorem depAll_int : ∀ ns : List Int, PyData.depthAll (ns.map .int) = 0
  | [] => rfl
  | x :: r => by rw [List.map_cons, PyData.depthAll, depAll_int r]; rfl
theorem layAll_bool : ∀ ns : List Bool, PyData.canLayAll0 (ns.map .bool) = true
  | [] => rfl
  | x :: r => by rw [List.map_cons, PyData.canLayAll0, layAll_bool r]; rfl
theorem depAll_bool : ∀ ns : List Bool, PyData.depthAll (ns.map .bool) = 0
  | [] => rfl
  | x :: r => by rw [List.map_cons, PyData.depthAll, depAll_bool r]; rfl
theorem eqvAll_int : ∀ a b : List Int, PyData.eqvAll (a.map .int) (b.map .int) = (a == b)
  | [], [] => rfl
  | [], _ :: _ => rfl
  | _ :: _, [] => rfl
  | x :: r, y :: s => by
    rw [List.map_cons, List.map_cons, PyData.eqvAll, eqvAll_int r s]
    rfl
theorem eqvAll_bool : ∀ a b : List Bool, PyData.eqvAll (a.map .bool) (b.map .bool) = (a == b)
  | [], [] => rfl
  | [], _ :: _ => rfl
  | _ :: _, [] => rfl
  | x :: r, y :: s => by
    rw [List.map_cons, List.map_cons, PyData.eqvAll, eqvAll_bool r s]
    rfl
theorem eqv_int (a b : Int) : PyData.eqv (.int a) (.int b) = (a == b) := rfl
theorem eqv_bool (a b : Bool) : PyData.eqv (.bool a) (.bool b) = (a == b) := rfl
theorem eqv_L (a b : List Int) : PyData.eqv (.list (a.map .int)) (.list (b.map .int)) = (a == b) := by rw [PyData.eqv, eqvAll_int]
theorem eqv_T (a b : List Int) : PyData.eqv (.tuple (a.map .int)) (.tuple (b.map .int)) = (a == b) := by rw [PyData.eqv, eqvAll_int]
/-- a pulse, a form: head and bar -/
def pul (h b : List Int) : PyData := .tuple [.tuple (h.map .int), .tuple (b.map .int)]
theorem eqv_pul (h b h' b' : List Int) : PyData.eqv (pul h b) (pul h' b') = (h == h' && b == b') := by
  unfold pul
  rw [PyData.eqv, PyData.eqvAll, PyData.eqvAll, PyData.eqvAll, eqv_T, eqv_T, Bool.and_true]
theorem shp_L (a : List Int) : SeqAt.shaped (.list (a.map .int)) = true := by simp [SeqAt.shaped, PyData.canLay0, PyData.depth, layAll_int, depAll_int]
theorem shp_T (a : List Int) : SeqAt.shaped (.tuple (a.map .int)) = true := by simp [SeqAt.shaped, PyData.canLay0, PyData.depth, layAll_int, depAll_int]
theorem shp_pul (h b : List Int) : SeqAt.shaped (pul h b) = true := by simp [pul, SeqAt.shaped, PyData.canLay0, PyData.canLayAll0, PyData.depth, PyData.depthAll, layAll_int, depAll_int]
/-- a list or a tuple of ints -/
def sq (t : Bool) (l : List Int) : PyData := if t then .list (l.map .int) else .tuple (l.map .int)
theorem cutD_to {α : Type} (ds : List α) (s : Nat) : cutD ds none (some (s : Int)) = ds.take s := by
  unfold cutD
  rw [HT.sIx_none, HT.sIx_nat]
  simp [List.take_eq_take_iff]
theorem cutD_from {α : Type} (ds : List α) (s : Nat) : cutD ds (some (s : Int)) none = ds.drop s := by
  unfold cutD
  rw [HT.sIx_none, HT.sIx_nat]
  by_cases h : s ≤ ds.length
  · rw [Nat.min_eq_left h]
    apply List.take_of_length_le
    simp
  · rw [Nat.min_eq_right (by omega), List.drop_eq_nil_of_le (Nat.le_refl _), List.drop_eq_nil_of_le (by omega)]
    simp
theorem cutD_m1 {α : Type} (ds : List α) : cutD ds none (some (-1)) = ds.dropLast := by
  unfold cutD
  rw [HT.sIx_none, List.dropLast_eq_take]
  have e : HT.sIx ds.length ds.length (some (-1)) = ds.length - 1 := by
    have h := HT.clip_eq (-1) ds.length ds.length
    have h2 : (if (-1 : Int) < 0 then max (-1 + (ds.length : Int)) 0 else min (-1) (ds.length : Int)) = ((ds.length - 1 : Nat) : Int) := by
      rw [if_pos (by decide)]
      omega
    omega
  rw [e]
  simp
theorem cutD_ft {α : Type} (ds : List α) (s e : Nat) (h : s ≤ e) : cutD ds (some (s : Int)) (some (e : Int)) = (ds.drop s).take (e - s) := by
  unfold cutD
  rw [HT.sIx_nat, HT.sIx_nat]
  by_cases h1 : s ≤ ds.length
  · rw [Nat.min_eq_left h1]
    by_cases h2 : e ≤ ds.length
    · rw [Nat.min_eq_left h2]
    · rw [Nat.min_eq_right (by omega)]
      rw [List.take_of_length_le (by simp), List.take_of_length_le (by simp; omega)]
  · rw [Nat.min_eq_right (by omega), Nat.min_eq_right (by omega), List.drop_eq_nil_of_le (Nat.le_refl _), List.drop_eq_nil_of_le (by omega)]
    simp
theorem qd_ifAsg {K : PySem.W.Frag} {σ : L2.St} {H : Hp} {te : TE} {t : TT} {D : Ends} {tz : TS} {i : Nat} {b : Bool} {d : PD} (h : EvT t σ H b) (h1 : b = true → EvD K te σ H d) (h2 : b = false → ∃ v, σ[i]? = some (some v) ∧ Dp K H v d)
    (k : ∀ v H1, Ex H H1 → Dp K H1 v d → tz D (σ.set i (some v)) H1) : tSeq (tIfS t (tAsg te (gName i)) tNext) tz D σ H :=
  q_when h (fun hb H1 x1 => sd_asg (D := { D with nx := tz D }) ((h1 hb).ex x1) fun v H2 x2 hv => k v H2 (x1.trans x2) hv) fun hb H1 x1 => by
    obtain ⟨v, e, hv⟩ := h2 hb
    have g := k v H1 x1 (dp_ex x1 hv)
    obtain ⟨hi, e2⟩ := List.getElem?_eq_some_iff.mp e
    rw [show σ.set i (some v) = σ by rw [← e2]; exact List.set_getElem_self hi] at g
    exact g
section
variable {X : Cx} {K : PySem.W.Frag}
theorem op_eqDK (e : X.K = K) (hu : X.A.units + 64 < cLine) : OpR X (compareOp .Eq) (rEqD K) := by
  subst e
  exact op_eqD hu
theorem op_neDK (e : X.K = K) (hu : X.A.units + 64 < cLine) : OpR X (compareOp .NotEq) (rNeD K) := by
  subst e
  exact op_neD hu
end
end Pb

namespace Pb
open PySem PySem.Spec PyProof.Rows L2 Evn
variable [Evn.Tbs]
/-! ### the rules with the written part named (within a comprehension's block it must not hang on the block) -/
section
variable {X : Cx} {K : PySem.W.Frag}
theorem op_addK (e : X.K = K) : OpR X (binaryOp .Add) (rAddX K) := by subst e; exact op_addX
theorem op_mulK (e : X.K = K) : OpR X (binaryOp .Mult) (rMulX K) := by subst e; exact op_mulX'
theorem ix_K (e : X.K = K) : IxR X (rIx K) := by subst e; exact ix_seq
theorem sl_K (e : X.K = K) : SlR X (rSlX K) := by subst e; exact sl_X
theorem op_inK (e : X.K = K) : OpR X (compareOp .In) (rInX K) := by subst e; exact op_inX
theorem op_notInK (e : X.K = K) : OpR X (compareOp .NotIn) (rNotInX K) := by subst e; exact op_notInX
abbrev rLenK (K : PySem.W.Frag) : List V → Hp → VK → Prop := fun xs H Q => ∃ x n, xs = [x] ∧ LenV K x H n ∧ Q (.int n) H
theorem call_lenK (e : X.K = K) : CallR X (.builtin "len") (fun xs H Q => ∃ x n, xs = [x] ∧ LenV K x H n ∧ Q (.int n) H) := by subst e; exact call_len
theorem call_listK (e : X.K = K) : CallR X (.type "list") (rListOf K) := by subst e; exact call_list_of
theorem call_tupleK (e : X.K = K) : CallR X (.type "tuple") (rTupleOf K) := by subst e; exact call_tuple_of
theorem call_isiK' (e : X.K = K) : CallR X (.builtin "isinstance") (rIsi K) := by subst e; exact call_isi
theorem cr_sumK (e : X.K = K) (hc : X.calm = true) : CallR X (.builtin "sum") (rSum K) := by subst e; exact cr_sum hc
theorem cr_maxK (e : X.K = K) (hc : X.calm = true) : CallR X (.builtin "max") (rMax K) := by subst e; exact cr_max hc
theorem cr_anyK (e : X.K = K) (hc : X.calm = true) : CallR X (.builtin "any") (rAny K) := by subst e; exact cr_any hc
theorem cr_sortedK (e : X.K = K) : CallR X (.builtin "sorted") (rSorted K) := by subst e; exact cr_sorted
theorem pi_seqK {tg it : Expr} {tl : TE} (e : X.K = K) (h : PE X it tl) : PI X tg it (iSeq K tl) := by subst e; exact pi_seq h
theorem pt_truthK {a : Expr} {ta : TE} (e : X.K = K) (ha : PE X a ta) (he : ∀ whole, isTrue a X.env whole = (do let v ← whole; standAt a.pos; holding [v] (truthy v))) :
    PT X a (fun σ H Q => ta σ H fun x H' => ∃ k, TruV K x H' k ∧ Q k H') := by subst e; exact pt_truth ha he
theorem pg_tupK {es : List Expr} {k : Nat} {pos : Pos} {t : TGs} {n : Nat} (e : X.K = K) (hc : X.calm = true) (h : PGs X es t) (hn : (assignEach es X.env).length = n := by rfl) (hst : (assignEach es X.env).findIdx? (·.1) = none := by rfl) : PG X (.Tuple es k pos) (gTup K n t) := by
  subst e
  exact pg_tup hc h hn hst
theorem pe_bm0K {o : Expr} {to : TE} {name : Str} {apos cpos : Pos} {T id : String} {r : V → List V → Hp → VK → Prop} (e : X.K = K) (pa : PlainAttrs T) (slot : Slot T name id) (hty : typeOf (.builtin id) = pure (.type "method_descriptor")) (hm : MtR X id r) (ho : PE X o to)
    (hbase : attributeBase o name X.env (eval o X.env) = eval o X.env := by rfl) (hline : (apos.endLine == cpos.line) = true := by rfl) : PE X (.Call (.Attribute o name apos) [] [] cpos) (tBM0 K T r to) := by
  subst e
  exact pe_bm0 pa slot hty hm ho hbase hline
theorem pe_bmK {o e : Expr} {es : List Expr} {to : TE} {t : TA} {name : Str} {apos cpos : Pos} {T id : String} {r : V → List V → Hp → VK → Prop} (e0 : X.K = K) (pa : PlainAttrs T) (slot : Slot T name id) (hty : typeOf (.builtin id) = pure (.type "method_descriptor")) (hm : MtR X id r) (ho : PE X o to) (ha : PA X (e :: es) t)
    (hbase : attributeBase o name X.env (eval o X.env) = eval o X.env := by rfl)
    (hfew : ((backTo cpos (starEach (e :: es) X.env)).all (fun x => !x.1) && (backToKw cpos (keywordEach [] X.env)).all (fun x => x.1.isSome)
      && decide ((e :: es).length + ([] : List Keyword).length + (if ([] : List Keyword).isEmpty then 0 else 1) < 30)) = true := by rfl)
    (hline : (apos.endLine == cpos.line) = true := by rfl) (hs : starEach (e :: es) X.env = (false, eval e X.env) :: starEach es X.env := by rfl) (hplain : (backTo cpos (starEach es X.env)).any (·.1) = false := by rfl) :
    PE X (.Call (.Attribute o name apos) (e :: es) [] cpos) (tBM K T r to t) := by
  subst e0
  exact pe_bm pa slot hty hm ho ha hbase hfew hline hs hplain
/-- int of an int, a truth, a text -/
def rIntX : List V → Hp → VK → Prop := fun xs H Q => rInt1 xs H Q ∨ ∃ a n, xs = [.str a] ∧ PySem.intText? a = some n ∧ a.length ≤ 640 ∧ Q (.int n) H
theorem call_intX : CallR X (.type "int") rIntX := call_int1.or call_int_str
end
section
variable {K : PySem.W.Frag} {σ : L2.St} {H H' : Hp} {ta tb tc te tl : TE} {d e f : PD} {ds es : List PD} {ar : TA}
theorem ed_intI' {i : Int} (ha : EvD K ta σ H (.int i)) : EvD K (tCB rIntX (tCons ta tNil)) σ H (.int i) := ed_cb (eds_cons ha eds_nil) fun H1 _ vs hv Q q => by
  obtain ⟨x, r, rfl, hx, hr⟩ := dpa_cons hv
  cases dpa_nil hr
  rw [dp_int hx]
  exact .inl (.inl ⟨i, rfl, q _ _ (Ex.refl H1) (.int _)⟩)
theorem ed_intB' {b : Bool} (ha : EvD K ta σ H (.bool b)) : EvD K (tCB rIntX (tCons ta tNil)) σ H (.int (bI b)) := ed_cb (eds_cons ha eds_nil) fun H1 _ vs hv Q q => by
  obtain ⟨x, r, rfl, hx, hr⟩ := dpa_cons hv
  cases dpa_nil hr
  rw [dp_bl hx]
  exact .inl (.inr ⟨b, rfl, q _ _ (Ex.refl H1) (.int _)⟩)
theorem ed_intS {a : Str} {n : Int} (ha : EvD K ta σ H (.str a)) (h : PySem.intText? a = some n) (hl : a.length ≤ 640) : EvD K (tCB rIntX (tCons ta tNil)) σ H (.int n) := ed_cb (eds_cons ha eds_nil) fun H1 _ vs hv Q q => by
  obtain ⟨x, r, rfl, hx, hr⟩ := dpa_cons hv
  cases dpa_nil hr
  rw [dp_str hx]
  exact .inr ⟨a, n, rfl, h, hl, q _ _ (Ex.refl H1) (.int _)⟩
/-- parts of slices, the written part named -/
def EvOK (_ : PySem.W.Frag) (to : TO) (σ : L2.St) (H : Hp) (o : Option Int) : Prop := EvO to σ H o
theorem eok_none : EvOK K tNoPart σ H none := eo_none
theorem eok_int {i : Int} {te : TE} (h : EvD K te σ H (.int i)) : EvOK K (tPart te) σ H (some i) := eo_some h.int
theorem ed_slLK {te : TE} {tl th : TO} {lo hi : Option Int} (h : EvD K te σ H (.list ds)) (h1 : EvOK K tl σ H lo) (h2 : EvOK K th σ H hi) : EvD K (tSl (rSlX K) te tl th) σ H (.list (cutD ds lo hi)) := ed_slL h h1 h2
theorem ed_slTK {te : TE} {tl th : TO} {lo hi : Option Int} (h : EvD K te σ H (.tuple ds)) (h1 : EvOK K tl σ H lo) (h2 : EvOK K th σ H hi) : EvD K (tSl (rSlX K) te tl th) σ H (.tuple (cutD ds lo hi)) := ed_slT h h1 h2
end
end Pb

namespace Pb
/-! # The mathematics of forms -/
/-- the value of day d by head and bar -/
def vl (h b : List Int) (d : Nat) : Int := if d < h.length then h.getD d 0 else b.getD ((d - h.length) % b.length) 0
/-! ### the shortest bar -/
def perOk (b : List Int) (s : Nat) : Bool := b.length % s == 0 && (List.replicate (b.length / s) (b.take s)).flatten == b
def perFrom (b : List Int) : Nat → Nat → Nat
  | 0, s => s
  | n + 1, s => if perOk b s then s else perFrom b n (s + 1)
def per (b : List Int) : Nat := perFrom b b.length 1
theorem perOk_self {b : List Int} (h : b ≠ []) : perOk b b.length = true := by
  have hp : 0 < b.length := List.length_pos_iff.mpr h
  unfold perOk
  rw [Nat.mod_self, Nat.div_self hp, List.take_length]
  simp
theorem perFrom_spec {b : List Int} (h : b ≠ []) : ∀ (n s : Nat), 1 ≤ s → s ≤ b.length → b.length ≤ s + n → (∀ t, 1 ≤ t → t < s → perOk b t = false) →
    perOk b (perFrom b n s) = true ∧ s ≤ perFrom b n s ∧ perFrom b n s ≤ b.length ∧ ∀ t, 1 ≤ t → t < perFrom b n s → perOk b t = false
  | 0, s, h1, h2, h3, h4 => by
    have e : s = b.length := by omega
    unfold perFrom
    rw [e] at h4 ⊢
    exact ⟨perOk_self h, Nat.le_refl _, Nat.le_refl _, h4⟩
  | n + 1, s, h1, h2, h3, h4 => by
    unfold perFrom
    cases hp : perOk b s with
    | true =>
      rw [if_pos rfl]
      exact ⟨hp, Nat.le_refl _, h2, h4⟩
    | false =>
      rw [if_neg (by decide)]
      have hs : s < b.length := by
        rcases Nat.lt_or_ge s b.length with hh | hh
        · exact hh
        · have e : s = b.length := by omega
          rw [e, perOk_self h] at hp
          cases hp
      obtain ⟨a1, a2, a3, a4⟩ := perFrom_spec h n (s + 1) (by omega) (by omega) (by omega) fun t t1 t2 => by
        by_cases e : t = s
        · rw [e]; exact hp
        · exact h4 t t1 (by omega)
      exact ⟨a1, by omega, a3, a4⟩
theorem per_spec {b : List Int} (h : b ≠ []) : perOk b (per b) = true ∧ 1 ≤ per b ∧ per b ≤ b.length ∧ ∀ t, 1 ≤ t → t < per b → perOk b t = false :=
  perFrom_spec h b.length 1 (Nat.le_refl _) (List.length_pos_iff.mpr h) (by omega) fun t h1 h2 => by omega
/-! ### the tight form -/
/-- the head from behind, the bar -/
def strip : List Int → List Int → List Int × List Int
  | [], b => ([], b)
  | x :: r, b => if b.getLast? = some x then strip r (x :: b.dropLast) else (x :: r, b)
def tightM (h b : List Int) : List Int × List Int := ((strip h.reverse (b.take (per b))).1.reverse, (strip h.reverse (b.take (per b))).2)
theorem strip_len : ∀ (r b : List Int), (strip r b).1.length ≤ r.length ∧ (b ≠ [] → (strip r b).2.length = b.length)
  | [], b => ⟨Nat.le_refl _, fun _ => rfl⟩
  | x :: r, b => by
    unfold strip
    split
    · rename_i hb
      obtain ⟨h1, h2⟩ := strip_len r (x :: b.dropLast)
      refine ⟨Nat.le_succ_of_le h1, fun hn => ?_⟩
      rw [h2 (List.cons_ne_nil _ _), List.length_cons, List.length_dropLast]
      have := List.length_pos_iff.mpr hn
      omega
    · exact ⟨Nat.le_refl _, fun _ => rfl⟩
theorem tight_len {h b : List Int} (hb : b ≠ []) : (tightM h b).1.length ≤ h.length ∧ (tightM h b).2.length = per b := by
  obtain ⟨_, p1, p2, _⟩ := per_spec hb
  have hn : b.take (per b) ≠ [] := by
    intro e
    have := congrArg List.length e
    rw [List.length_take, List.length_nil] at this
    omega
  obtain ⟨h1, h2⟩ := strip_len h.reverse (b.take (per b))
  unfold tightM
  refine ⟨by simpa using h1, ?_⟩
  rw [h2 hn, List.length_take]
  omega
theorem tight_ne {h b : List Int} (hb : b ≠ []) : (tightM h b).2 ≠ [] := by
  obtain ⟨_, p1, p2, _⟩ := per_spec hb
  intro e
  have h2 := (tight_len (h := h) hb).2
  rw [e, List.length_nil] at h2
  omega
/-! ### what the laws draw -/
def mixM (c p m : Int) : Int := c * 48271 % p % m
def cellM (ns : List Int) (k : Nat) : Int := ns.getD k 0
def largeM (ns : List Int) : Bool := mixM (cellM ns 0 + 7 * (ns.length : Int)) 9871 8 == 3
def bitsM (ns : List Int) (at_ size : Nat) : List Int := (List.range size).map fun k => mixM (cellM ns (at_ + k % 9) + 23 * (k : Int) * (k : Int)) 9941 2
def mostM (ns : List Int) : Int := if largeM ns then 14 else 12
def formM (ns : List Int) (at_ : Nat) : List Int × List Int :=
  let c := cellM ns at_
  let b := bitsM ns (at_ + 2) (1 + mixM c 9967 (mostM ns)).toNat
  let b := if mixM c 9949 5 == 0 then [0] else b
  (bitsM ns (at_ + 1) (mixM c 9973 (mostM ns + 1)).toNat, if mixM c 9949 5 == 1 then List.replicate b.length (b.getD 0 0) else b)
theorem mixM_nn (c p : Int) {m : Int} (hm : 0 < m) : 0 ≤ mixM c p m ∧ mixM c p m < m := ⟨Int.emod_nonneg _ (by omega), Int.emod_lt_of_pos _ hm⟩
theorem mostM_le (ns : List Int) : 12 ≤ mostM ns ∧ mostM ns ≤ 14 := by unfold mostM; split <;> omega
theorem bitsM_len (ns : List Int) (a n : Nat) : (bitsM ns a n).length = n := by simp [bitsM]
/-- noughts and ones -/
def Bits (l : List Int) : Prop := ∀ x ∈ l, x = 0 ∨ x = 1
theorem bitsM_bits (ns : List Int) (a n : Nat) : Bits (bitsM ns a n) := fun x hx => by
  obtain ⟨k, _, e⟩ := List.mem_map.mp hx
  have := mixM_nn (cellM ns (a + k % 9) + 23 * (k : Int) * (k : Int)) 9941 (m := 2) (by decide)
  omega
theorem form_ok (ns : List Int) (a : Nat) : (formM ns a).1.length ≤ 14 ∧ (formM ns a).2 ≠ [] ∧ (formM ns a).2.length ≤ 14 ∧ Bits (formM ns a).1 ∧ Bits (formM ns a).2 := by
  have m := mostM_le ns
  have h1 := mixM_nn (cellM ns a) 9973 (m := mostM ns + 1) (by omega)
  have h2 := mixM_nn (cellM ns a) 9967 (m := mostM ns) (by omega)
  refine ⟨?_, ?_, ?_, bitsM_bits _ _ _, ?_⟩
  · show (bitsM _ _ _).length ≤ 14
    rw [bitsM_len]
    omega
  all_goals
    have hb : ∀ b : List Int, b ≠ [] → b.length ≤ 14 → Bits b → (if (mixM (cellM ns a) 9949 5 == 1) = true then List.replicate b.length (b.getD 0 0) else b) ≠ [] ∧ (if (mixM (cellM ns a) 9949 5 == 1) = true then List.replicate b.length (b.getD 0 0) else b).length ≤ 14 ∧ Bits (if (mixM (cellM ns a) 9949 5 == 1) = true then List.replicate b.length (b.getD 0 0) else b) := by
      intro b b1 b2 b3
      split
      · refine ⟨fun e => b1 ?_, by simpa using b2, fun x hx => ?_⟩
        · have := congrArg List.length e
          simp at this
          exact this
        · have e := (List.mem_replicate.mp hx).2
          cases b with
          | nil => exact absurd rfl b1
          | cons y r => rw [e]; exact b3 y (by simp)
      · exact ⟨b1, b2, b3⟩
    have hc : ∀ c : Bool, (if c = true then [(0 : Int)] else bitsM ns (a + 2) (1 + mixM (cellM ns a) 9967 (mostM ns)).toNat) ≠ [] ∧ (if c = true then [(0 : Int)] else bitsM ns (a + 2) (1 + mixM (cellM ns a) 9967 (mostM ns)).toNat).length ≤ 14 ∧ Bits (if c = true then [(0 : Int)] else bitsM ns (a + 2) (1 + mixM (cellM ns a) 9967 (mostM ns)).toNat) := by
      intro c
      split
      · exact ⟨by simp, by simp, fun x hx => by simp at hx; omega⟩
      · refine ⟨fun e => ?_, ?_, bitsM_bits _ _ _⟩
        · have := congrArg List.length e
          rw [bitsM_len, List.length_nil] at this
          omega
        · rw [bitsM_len]
          omega
    obtain ⟨c1, c2, c3⟩ := hc (mixM (cellM ns a) 9949 5 == 0)
    have z := hb _ c1 c2 c3
    first | exact z.1 | exact z.2.1 | exact z.2.2
/-- a day of the law's -/
def dayM (ns : List Int) (a : Nat) : Nat := if cellM ns a % 3 == 0 then (cellM ns a % 10 ^ 40).toNat else (cellM ns a / 3 % 300).toNat
def pulseM (ns : List Int) (a : Nat) : List Int × List Int := tightM (formM ns a).1 (formM ns a).2
end Pb

namespace Pb
/-! # One tight form for the same days -/
/-- the bar, round and round -/
def cyc (b : List Int) (i : Nat) : Int := b.getD (i % b.length) 0
theorem vl_lt {h b : List Int} {d : Nat} (hd : d < h.length) : vl h b d = h.getD d 0 := by unfold vl; rw [if_pos hd]
theorem vl_ge {h b : List Int} {d : Nat} (hd : h.length ≤ d) : vl h b d = cyc b (d - h.length) := by unfold vl cyc; rw [if_neg (by omega)]
theorem vl_cyc {h b : List Int} (i : Nat) : vl h b (h.length + i) = cyc b i := by rw [vl_ge (Nat.le_add_right _ _)]; congr 1; omega
theorem cyc_lt {b : List Int} {i : Nat} (h : i < b.length) : cyc b i = b.getD i 0 := by unfold cyc; rw [Nat.mod_eq_of_lt h]
theorem cyc_add (b : List Int) (i : Nat) : cyc b (i + b.length) = cyc b i := by unfold cyc; rw [Nat.add_mod_right]
theorem cyc_mul (b : List Int) (i k : Nat) : cyc b (i + b.length * k) = cyc b i := by unfold cyc; rw [Nat.add_mul_mod_self_left]
theorem cyc_mod (b : List Int) (i : Nat) : cyc b (i % b.length) = cyc b i := by unfold cyc; rw [Nat.mod_mod]
theorem ext_getD {a b : List Int} (hl : a.length = b.length) (h : ∀ i, i < a.length → a.getD i 0 = b.getD i 0) : a = b := by
  apply List.ext_getElem hl
  intro i h1 h2
  have := h i h1
  rw [List.getD_eq_getElem?_getD, List.getD_eq_getElem?_getD, List.getElem?_eq_getElem h1, List.getElem?_eq_getElem h2] at this
  exact this
theorem ext_cyc {a b : List Int} (hl : a.length = b.length) (h : ∀ i, cyc a i = cyc b i) : a = b := ext_getD hl fun i hi => by
  rw [← cyc_lt hi, ← cyc_lt (b := b) (by omega)]
  exact h i
theorem getD_append_l {a b : List Int} {i : Nat} (h : i < a.length) : (a ++ b).getD i 0 = a.getD i 0 := by
  rw [List.getD_eq_getElem?_getD, List.getD_eq_getElem?_getD, List.getElem?_append_left h]
theorem getD_append_r {a b : List Int} {i : Nat} (h : a.length ≤ i) : (a ++ b).getD i 0 = b.getD (i - a.length) 0 := by
  rw [List.getD_eq_getElem?_getD, List.getD_eq_getElem?_getD, List.getElem?_append_right h]
theorem getD_take {a : List Int} {i s : Nat} (h : i < s) : (a.take s).getD i 0 = a.getD i 0 := by
  rw [List.getD_eq_getElem?_getD, List.getD_eq_getElem?_getD, List.getElem?_take, if_pos h]
/-! ### a turn of the bar -/
theorem cyc_rot {b : List Int} {x : Int} (i : Nat) : cyc (x :: b) (i + 1) = cyc (b ++ [x]) i := by
  unfold cyc
  rw [List.length_cons, List.length_append, List.length_cons, List.length_nil, Nat.zero_add]
  by_cases h : i % (b.length + 1) = b.length
  · have e : (i + 1) % (b.length + 1) = 0 := by
      rw [Nat.add_mod, h]
      by_cases h0 : b.length = 0
      · rw [h0]
      · rw [Nat.mod_eq_of_lt (a := 1) (by omega), Nat.mod_self]
    rw [e, h, getD_append_r (Nat.le_refl _), Nat.sub_self]
    rfl
  · have hlt : i % (b.length + 1) < b.length := by
      have := Nat.mod_lt i (show 0 < b.length + 1 by omega)
      omega
    have e : (i + 1) % (b.length + 1) = i % (b.length + 1) + 1 := by
      rw [Nat.add_mod, Nat.mod_eq_of_lt (a := 1) (by omega), Nat.mod_eq_of_lt (by omega)]
    rw [e, getD_append_l hlt]
    rfl
theorem vl_rot {h b : List Int} {x : Int} (d : Nat) : vl h (x :: b) d = vl (h ++ [x]) (b ++ [x]) d := by
  by_cases h1 : d < h.length
  · rw [vl_lt h1, vl_lt (by simp; omega), getD_append_l h1]
  · by_cases h2 : d = h.length
    · subst h2
      rw [vl_ge (Nat.le_refl _), Nat.sub_self, vl_lt (by simp), getD_append_r (Nat.le_refl _), Nat.sub_self]
      unfold cyc
      rw [Nat.zero_mod]
      rfl
    · rw [vl_ge (by omega), vl_ge (by simp; omega)]
      have e : d - h.length = (d - (h ++ [x]).length) + 1 := by simp; omega
      rw [e, cyc_rot]
theorem strip_vl : ∀ (r b : List Int) (d : Nat), vl (strip r b).1.reverse (strip r b).2 d = vl r.reverse b d
  | [], b, d => rfl
  | x :: r, b, d => by
    unfold strip
    split
    · rename_i hb
      rw [strip_vl r (x :: b.dropLast) d, vl_rot, List.reverse_cons]
      obtain ⟨ys, e⟩ := List.getLast?_eq_some_iff.mp hb
      subst e
      rw [List.dropLast_concat]
    · rfl
theorem strip_last : ∀ (r b : List Int), (strip r b).1 = [] ∨ (strip r b).1.head? ≠ (strip r b).2.getLast?
  | [], b => .inl rfl
  | x :: r, b => by
    unfold strip
    split
    · exact strip_last r _
    · rename_i hb
      exact .inr fun e => hb (by rw [← e]; rfl)
/-! ### what a period is -/
theorem rep_getD (t : List Int) (ht : 0 < t.length) : ∀ (k i : Nat), i < t.length * k → ((List.replicate k t).flatten).getD i 0 = cyc t i
  | 0, i, h => by omega
  | k + 1, i, h => by
    rw [List.replicate_succ, List.flatten_cons]
    by_cases hi : i < t.length
    · rw [getD_append_l hi, cyc_lt hi]
    · rw [getD_append_r (by omega), rep_getD t ht k (i - t.length) (by rw [Nat.mul_succ] at h; omega)]
      have e : i = (i - t.length) + t.length := by omega
      conv => rhs; rw [e, cyc_add]
theorem perOk_iff {b : List Int} {s : Nat} (hs : 1 ≤ s) (hs2 : s ≤ b.length) : perOk b s = true ↔ s ∣ b.length ∧ ∀ i, cyc b (i + s) = cyc b i := by
  have ht : (b.take s).length = s := by rw [List.length_take]; omega
  unfold perOk
  rw [Bool.and_eq_true, beq_iff_eq, beq_iff_eq]
  constructor
  · rintro ⟨h1, h2⟩
    have hd : s ∣ b.length := Nat.dvd_of_mod_eq_zero h1
    refine ⟨hd, fun i => ?_⟩
    obtain ⟨k, hk⟩ := hd
    have hk' : b.length / s = k := by rw [hk, Nat.mul_div_cancel_left _ (by omega)]
    have hc : ∀ j, cyc b j = cyc (b.take s) j := fun j => by
      have hb0 : 0 < b.length := by omega
      have hj := Nat.mod_lt j hb0
      have e1 : cyc b j = ((List.replicate (b.length / s) (b.take s)).flatten).getD (j % b.length) 0 := by rw [h2]; rfl
      rw [e1, rep_getD _ (by omega) _ _ (by rw [ht, hk', ← hk]; exact hj)]
      unfold cyc
      rw [ht, hk, Nat.mod_mul_right_mod]
    rw [hc, hc]
    have := cyc_add (b.take s) i
    rw [ht] at this
    exact this
  · rintro ⟨hd, h⟩
    refine ⟨Nat.mod_eq_zero_of_dvd hd, ?_⟩
    obtain ⟨k, hk⟩ := hd
    have hk' : b.length / s = k := by rw [hk, Nat.mul_div_cancel_left _ (by omega)]
    have hl : ((List.replicate (b.length / s) (b.take s)).flatten).length = b.length := by
      rw [hk']
      simp [ht]
      rw [Nat.mul_comm, ← hk]
    have hm : ∀ k i, cyc b (i + s * k) = cyc b i := fun k => by
      induction k with
      | zero => intro i; rfl
      | succ k ih => intro i; rw [Nat.mul_succ, ← Nat.add_assoc, h, ih]
    refine ext_getD hl fun i hi => ?_
    rw [hl] at hi
    rw [rep_getD _ (by omega) _ _ (by rw [ht, hk', ← hk]; exact hi)]
    unfold cyc
    rw [ht, getD_take (Nat.mod_lt _ (by omega)), ← cyc_lt (b := b) (Nat.lt_of_lt_of_le (Nat.mod_lt _ (by omega)) hs2), ← cyc_lt hi]
    have := hm (i / s) (i % s)
    rw [Nat.mod_add_div] at this
    exact this.symm
/-- the bar has no shorter one -/
def Prim (b : List Int) : Prop := b ≠ [] ∧ ∀ s, 1 ≤ s → s ∣ b.length → (∀ i, cyc b (i + s) = cyc b i) → s = b.length
/-- no other form of the same days is shorter -/
def Tight (h b : List Int) : Prop := Prim b ∧ (h = [] ∨ h.getLast? ≠ b.getLast?)
theorem prim_take {b : List Int} (hb : b ≠ []) : Prim (b.take (per b)) := by
  obtain ⟨p1, p2, p3, p4⟩ := per_spec hb
  have ht : (b.take (per b)).length = per b := by rw [List.length_take]; omega
  obtain ⟨q1, q2⟩ := (perOk_iff p2 p3).mp p1
  have hm : ∀ k i, cyc b (i + per b * k) = cyc b i := fun k => by
    induction k with
    | zero => intro i; rfl
    | succ k ih => intro i; rw [Nat.mul_succ, ← Nat.add_assoc, q2, ih]
  have hc : ∀ j, cyc (b.take (per b)) j = cyc b j := fun j => by
    unfold cyc
    rw [ht, getD_take (Nat.mod_lt _ (by omega)), ← cyc_lt (b := b) (Nat.lt_of_lt_of_le (Nat.mod_lt _ (by omega)) p3)]
    have := hm (j / per b) (j % per b)
    rw [Nat.mod_add_div] at this
    exact this.symm
  refine ⟨fun e => by rw [e] at ht; simp at ht; omega, fun s s1 s2 s3 => ?_⟩
  rw [ht] at s2 ⊢
  have sle := Nat.le_of_dvd (by omega) s2
  rcases Nat.lt_or_ge s (per b) with hh | hh
  · have := (perOk_iff s1 (by omega)).mpr ⟨Nat.dvd_trans s2 q1, fun i => by rw [← hc, ← hc]; exact s3 i⟩
    rw [p4 s s1 hh] at this
    cases this
  · omega
theorem take_vl {h b : List Int} (hb : b ≠ []) (d : Nat) : vl h (b.take (per b)) d = vl h b d := by
  obtain ⟨p1, p2, p3, p4⟩ := per_spec hb
  have ht : (b.take (per b)).length = per b := by rw [List.length_take]; omega
  obtain ⟨q1, q2⟩ := (perOk_iff p2 p3).mp p1
  have hm : ∀ k i, cyc b (i + per b * k) = cyc b i := fun k => by
    induction k with
    | zero => intro i; rfl
    | succ k ih => intro i; rw [Nat.mul_succ, ← Nat.add_assoc, q2, ih]
  by_cases hd : d < h.length
  · rw [vl_lt hd, vl_lt hd]
  · rw [vl_ge (by omega), vl_ge (by omega)]
    generalize d - h.length = j
    unfold cyc
    rw [ht, getD_take (Nat.mod_lt _ (by omega)), ← cyc_lt (b := b) (Nat.lt_of_lt_of_le (Nat.mod_lt _ (by omega)) p3)]
    have := hm (j / per b) (j % per b)
    rw [Nat.mod_add_div] at this
    exact this.symm
theorem prim_rot {b : List Int} {x : Int} (h : Prim (b ++ [x])) : Prim (x :: b) := by
  refine ⟨List.cons_ne_nil _ _, fun s s1 s2 s3 => ?_⟩
  have hl : (x :: b).length = (b ++ [x]).length := by simp
  rw [hl] at s2 ⊢
  exact h.2 s s1 s2 fun i => by rw [← cyc_rot, ← cyc_rot, show i + s + 1 = (i + 1) + s by omega]; exact s3 (i + 1)
theorem strip_prim : ∀ (r b : List Int), Prim b → Prim (strip r b).2
  | [], b, h => h
  | x :: r, b, h => by
    unfold strip
    split
    · rename_i hb
      obtain ⟨ys, e⟩ := List.getLast?_eq_some_iff.mp hb
      subst e
      rw [List.dropLast_concat]
      exact strip_prim r _ (prim_rot h)
    · exact h
theorem tight_vl {h b : List Int} (hb : b ≠ []) (d : Nat) : vl (tightM h b).1 (tightM h b).2 d = vl h b d := by
  unfold tightM
  rw [strip_vl, List.reverse_reverse, take_vl hb]
theorem tight_tight {h b : List Int} (hb : b ≠ []) : Tight (tightM h b).1 (tightM h b).2 := by
  unfold tightM
  refine ⟨strip_prim _ _ (prim_take hb), ?_⟩
  rcases strip_last h.reverse (b.take (per b)) with e | e
  · exact .inl (by rw [e]; rfl)
  · exact .inr (by rw [List.getLast?_reverse]; exact e)
/-! ### two periods -/
def PerF (f : Nat → Int) (N p : Nat) : Prop := ∀ d, N ≤ d → f (d + p) = f d
theorem PerF.mul {f : Nat → Int} {N p : Nat} (h : PerF f N p) : ∀ k, PerF f N (p * k)
  | 0 => fun d _ => rfl
  | k + 1 => fun d hd => by rw [Nat.mul_succ, ← Nat.add_assoc, h _ (by omega), PerF.mul h k d hd]
theorem PerF.sub {f : Nat → Int} {N p q : Nat} (h : PerF f N (p + q)) (g : PerF f N q) : PerF f N p := fun d hd => by
  rw [← g (d + p) (by omega), Nat.add_assoc, h d hd]
theorem PerF.mod {f : Nat → Int} {N p q : Nat} (h : PerF f N p) (g : PerF f N q) : PerF f N (q % p) := by
  refine PerF.sub (q := p * (q / p)) ?_ (h.mul _)
  rw [Nat.mod_add_div]
  exact g
theorem PerF.gcd {f : Nat → Int} {N : Nat} (p q : Nat) : PerF f N p → PerF f N q → PerF f N (Nat.gcd p q) := by
  induction p, q using Nat.gcd.induction with
  | H0 n =>
    intro _ g
    rw [Nat.gcd_zero_left]
    exact g
  | H1 m n hm ih =>
    intro h g
    rw [Nat.gcd_rec]
    exact ih (h.mod g) h
theorem vl_per (h b : List Int) : PerF (vl h b) h.length b.length := fun d hd => by
  rw [vl_ge (by omega), vl_ge hd, show d + b.length - h.length = (d - h.length) + b.length by omega, cyc_add]
theorem prim_per {h b : List Int} (hp : Prim b) {N g : Nat} (hg : 1 ≤ g) (hd : g ∣ b.length) (h1 : PerF (vl h b) N g) : g = b.length := by
  refine hp.2 g hg hd fun i => ?_
  have hb : 0 < b.length := List.length_pos_iff.mpr hp.1
  have e1 : cyc b (i + g) = vl h b (h.length + (i + b.length * N) + g) := by
    rw [Nat.add_assoc, vl_cyc, show i + b.length * N + g = (i + g) + b.length * N by omega, cyc_mul]
  have e2 : cyc b i = vl h b (h.length + (i + b.length * N)) := by rw [vl_cyc, cyc_mul]
  rw [e1, e2]
  refine h1 _ ?_
  have : N ≤ b.length * N := Nat.le_mul_of_pos_left N hb
  omega
theorem head_le {h b h' b' : List Int} (T : Tight h b) (T' : Tight h' b') (e : ∀ d, vl h b d = vl h' b' d) (hl : b.length = b'.length) : h'.length ≤ h.length := by
  rcases Nat.lt_or_ge h.length h'.length with hh | hh
  · exfalso
    have hb' : 0 < b'.length := List.length_pos_iff.mpr T'.1.1
    rcases T'.2 with z | z
    · rw [z] at hh
      simp at hh
    · refine z ?_
      have n' : h' ≠ [] := fun q => by rw [q] at hh; simp at hh
      have e1 : vl h b (h'.length - 1 + b.length) = vl h b (h'.length - 1) := vl_per h b _ (by omega)
      rw [e, e, vl_lt (d := h'.length - 1) (by omega), show h'.length - 1 + b.length = h'.length + (b'.length - 1) by omega, vl_cyc, cyc_lt (by omega)] at e1
      rw [List.getLast?_eq_getElem?, List.getLast?_eq_getElem?]
      rw [List.getD_eq_getElem?_getD, List.getD_eq_getElem?_getD, List.getElem?_eq_getElem (show b'.length - 1 < b'.length by omega), List.getElem?_eq_getElem (show h'.length - 1 < h'.length by omega)] at e1
      rw [List.getElem?_eq_getElem (show h'.length - 1 < h'.length by omega), List.getElem?_eq_getElem (show b'.length - 1 < b'.length by omega)]
      exact congrArg some e1.symm
  · exact hh
/-- THE one tight form -/
theorem tight_one {h b h' b' : List Int} (T : Tight h b) (T' : Tight h' b') (e : ∀ d, vl h b d = vl h' b' d) : h = h' ∧ b = b' := by
  have hb : 0 < b.length := List.length_pos_iff.mpr T.1.1
  have hb' : 0 < b'.length := List.length_pos_iff.mpr T'.1.1
  have ef : vl h b = vl h' b' := funext e
  have P1 : PerF (vl h b) (max h.length h'.length) b.length := fun d hd => vl_per h b d (by omega)
  have P2 : PerF (vl h b) (max h.length h'.length) b'.length := by
    rw [ef]
    exact fun d hd => vl_per h' b' d (by omega)
  have G := PerF.gcd _ _ P1 P2
  have g0 : 1 ≤ Nat.gcd b.length b'.length := Nat.gcd_pos_of_pos_left _ hb
  have l1 := prim_per T.1 g0 (Nat.gcd_dvd_left _ _) G
  rw [ef] at G
  have l2 := prim_per T'.1 g0 (Nat.gcd_dvd_right _ _) G
  have hl : b.length = b'.length := by omega
  have hh : h.length = h'.length := Nat.le_antisymm (head_le T' T (fun d => (e d).symm) hl.symm) (head_le T T' e hl)
  refine ⟨ext_getD hh fun i hi => ?_, ext_cyc hl fun i => ?_⟩
  · rw [← vl_lt (b := b) hi, ← vl_lt (h := h') (b := b') (by omega)]
    exact e i
  · rw [← vl_cyc (h := h), ← vl_cyc (h := h') (b := b'), hh]
    exact e _
theorem tight_eq {h b h' b' : List Int} (hb : b ≠ []) (hb' : b' ≠ []) (e : ∀ d, vl h b d = vl h' b' d) : tightM h b = tightM h' b' := by
  obtain ⟨e1, e2⟩ := tight_one (tight_tight (h := h) hb) (tight_tight (h := h') hb') fun d => by rw [tight_vl hb, tight_vl hb', e]
  exact Prod.ext e1 e2
theorem tight_self {h b : List Int} (T : Tight h b) : tightM h b = (h, b) := by
  obtain ⟨e1, e2⟩ := tight_one (tight_tight (h := h) T.1.1) T fun d => tight_vl T.1.1 d
  exact Prod.ext e1 e2
theorem tight_iff {h b : List Int} (hb : b ≠ []) : tightM h b = (h, b) ↔ Tight h b := by
  refine ⟨fun e => ?_, tight_self⟩
  have := tight_tight (h := h) hb
  rw [e] at this
  exact this
/-- days beyond where both go in step -/
theorem vl_step {h b : List Int} {H L : Nat} (hH : h.length ≤ H) (hL : b.length ∣ L) (hL0 : 0 < L) (d : Nat) (hd : H + L ≤ d) : vl h b d = vl h b (H + (d - H) % L) := by
  obtain ⟨k, hk⟩ := hL
  have P : PerF (vl h b) H L := by
    rw [hk]
    exact PerF.mul (fun d hd => vl_per h b d (by omega)) k
  have e : d = (H + (d - H) % L) + L * ((d - H) / L) := by
    have := Nat.mod_add_div (d - H) L
    omega
  conv => lhs; rw [e]
  exact P.mul _ _ (by omega)
theorem vl_all {h b h' b' : List Int} {H L : Nat} (h1 : h.length ≤ H) (h2 : h'.length ≤ H) (d1 : b.length ∣ L) (d2 : b'.length ∣ L) (hL0 : 0 < L) (e : ∀ d, d < H + L → vl h b d = vl h' b' d) (d : Nat) : vl h b d = vl h' b' d := by
  by_cases hd : d < H + L
  · exact e d hd
  · rw [vl_step h1 d1 hL0 d (by omega), vl_step h2 d2 hL0 d (by omega)]
    exact e _ (by have := Nat.mod_lt (d - H) hL0; omega)
/-- of all forms of the same days the tight one has the shortest bar, and the shortest head -/
theorem tight_least {h b h' b' : List Int} (T : Tight h b) (hb' : b' ≠ []) (e : ∀ d, vl h b d = vl h' b' d) : b.length ∣ b'.length ∧ h.length ≤ h'.length := by
  have e2 := tight_eq T.1.1 hb' e
  rw [tight_self T] at e2
  have l := tight_len (h := h') hb'
  rw [← e2] at l
  obtain ⟨p1, p2, p3, p4⟩ := per_spec hb'
  refine ⟨?_, l.1⟩
  show b.length ∣ b'.length
  rw [l.2]
  exact ((perOk_iff p2 p3).mp p1).1
/-! ### noughts and ones stay so -/
theorem Bits.append {a b : List Int} (h : Bits a) (g : Bits b) : Bits (a ++ b) := fun x hx => (List.mem_append.mp hx).elim (h x) (g x)
theorem Bits.sub {a b : List Int} (h : Bits b) (s : ∀ x ∈ a, x ∈ b) : Bits a := fun x hx => h x (s x hx)
theorem Bits.take {a : List Int} (h : Bits a) (n : Nat) : Bits (a.take n) := h.sub fun _ hx => List.mem_of_mem_take hx
theorem Bits.drop {a : List Int} (h : Bits a) (n : Nat) : Bits (a.drop n) := h.sub fun _ hx => List.mem_of_mem_drop hx
theorem Bits.getD {a : List Int} (h : Bits a) (i : Nat) : a.getD i 0 = 0 ∨ a.getD i 0 = 1 := by
  rw [List.getD_eq_getElem?_getD]
  cases e : a[i]? with
  | none => exact .inl rfl
  | some x => exact h x (List.mem_of_getElem? e)
theorem vl_bits {h b : List Int} (hh : Bits h) (hb : Bits b) (d : Nat) : vl h b d = 0 ∨ vl h b d = 1 := by
  unfold vl
  split
  · exact hh.getD _
  · exact hb.getD _
theorem strip_bits : ∀ (r b : List Int), Bits r → Bits b → Bits (strip r b).1 ∧ Bits (strip r b).2
  | [], b, h, g => ⟨h, g⟩
  | x :: r, b, h, g => by
    unfold strip
    split
    · exact strip_bits r _ (h.sub fun _ hy => List.mem_cons_of_mem _ hy) fun y hy => by
        rcases List.mem_cons.mp hy with e | e
        · exact h y (by rw [e]; exact List.mem_cons_self)
        · exact g y (List.dropLast_subset b e)
    · exact ⟨h, g⟩
theorem tight_bits {h b : List Int} (hh : Bits h) (hb : Bits b) : Bits (tightM h b).1 ∧ Bits (tightM h b).2 := by
  have s := strip_bits h.reverse (b.take (per b)) (hh.sub fun _ hx => List.mem_reverse.mp hx) (hb.take _)
  exact ⟨s.1.sub fun _ hx => List.mem_reverse.mp hx, s.2⟩
theorem bit_eq {x y : Int} (hx : x = 0 ∨ x = 1) (hy : y = 0 ∨ y = 1) : (x == 1) = (y == 1) ↔ x = y := by
  rcases hx with e | e <;> rcases hy with f | f <;> subst e f <;> simp
/-- a pulse as the laws draw it: tight, of bits, small -/
structure Pu (n : Nat) (P : List Int × List Int) : Prop where
  t : Tight P.1 P.2
  b1 : Bits P.1
  b2 : Bits P.2
  l1 : P.1.length ≤ n
  l2 : P.2.length ≤ n
theorem Pu.ne {n : Nat} {P : List Int × List Int} (p : Pu n P) : P.2 ≠ [] := p.t.1.1
theorem pu_tight {n : Nat} {h b : List Int} (hb : b ≠ []) (h1 : Bits h) (h2 : Bits b) (l1 : h.length ≤ n) (l2 : b.length ≤ n) : Pu n (tightM h b) := by
  have l := tight_len (h := h) hb
  have p := per_spec hb
  have s := tight_bits h1 h2
  exact ⟨tight_tight hb, s.1, s.2, by omega, by omega⟩
theorem pulse_ok (ns : List Int) (a : Nat) : Pu 14 (pulseM ns a) := by
  obtain ⟨f1, f2, f3, f4, f5⟩ := form_ok ns a
  exact pu_tight f2 f4 f5 f1 f3
theorem bI_bits {α : Type} (l : List α) (f : α → Bool) : Bits (l.map fun x => bI (f x)) := fun x hx => by
  obtain ⟨y, _, e⟩ := List.mem_map.mp hx
  subst e
  unfold bI
  split <;> simp
theorem Pu.eq_of {n : Nat} {P Q : List Int × List Int} (p : Pu n P) (q : Pu n Q) {H L : Nat} (h1 : P.1.length ≤ H) (h2 : Q.1.length ≤ H) (d1 : P.2.length ∣ L) (d2 : Q.2.length ∣ L) (hL0 : 0 < L)
    (e : ∀ d, d < H + L → (vl P.1 P.2 d == 1) = (vl Q.1 Q.2 d == 1)) : P = Q := by
  have r := tight_one p.t q.t (vl_all h1 h2 d1 d2 hL0 fun d hd => (bit_eq (vl_bits p.b1 p.b2 d) (vl_bits q.b1 q.b2 d)).mp (e d hd))
  exact Prod.ext r.1 r.2
end Pb

namespace Pb
open PySem PySem.Spec PyProof.Rows L2 Evn
variable [Evn.Tbs]
/-- a whole number from lo to hi -/
def inW (d : PD) (lo hi : Int) : Bool := match d with
  | .int i => decide (lo ≤ i) && decide (i ≤ hi)
  | _ => false
theorem inW_bit {d : PD} : inW d 0 1 = true → ∃ i : Int, d = .int i ∧ (i = 0 ∨ i = 1) := by
  cases d with
  | int i =>
    intro h
    simp only [inW, Bool.and_eq_true, decide_eq_true_eq] at h
    exact ⟨i, rfl, by omega⟩
  | _ => intro h; cases h
theorem all_bits : ∀ {xs : List PD}, (xs.all fun x => inW x 0 1) = true → ∃ l : List Int, xs = l.map .int ∧ Bits l
  | [], _ => ⟨[], rfl, fun x hx => by cases hx⟩
  | d :: xs, h => by
    rw [List.all_cons, Bool.and_eq_true] at h
    obtain ⟨i, rfl, hi⟩ := inW_bit h.1
    obtain ⟨l, rfl, hl⟩ := all_bits h.2
    exact ⟨i :: l, rfl, fun x hx => by
      rcases List.mem_cons.mp hx with e | e
      · rw [e]; exact hi
      · exact hl x e⟩
theorem bits_all : ∀ {l : List Int}, Bits l → ((l.map PyData.int).all fun x => inW x 0 1) = true
  | [], _ => rfl
  | i :: l, h => by
    rw [List.map_cons, List.all_cons, bits_all (l := l) fun x hx => h x (List.mem_cons_of_mem _ hx), Bool.and_true]
    rcases h i List.mem_cons_self with e | e <;> subst e <;> rfl
theorem all_getD {p : PD → Bool} {xs : List PD} : xs.all p = true ↔ ∀ i, i < xs.length → p (xs.getD i .none) = true := by
  rw [List.all_eq_true]
  constructor
  · intro h i hi
    rw [List.getD_eq_getElem?_getD, List.getElem?_eq_getElem hi]
    exact h _ (List.getElem_mem hi)
  · intro h x hx
    obtain ⟨i, hi, e⟩ := List.getElem_of_mem hx
    have := h i hi
    rw [List.getD_eq_getElem?_getD, List.getElem?_eq_getElem hi, e] at this
    exact this
theorem inW_int {d : PD} {lo hi : Int} (h : inW d lo hi = true) : ∃ i : Int, d = .int i ∧ lo ≤ i ∧ i ≤ hi := by
  cases d with
  | int i =>
    simp only [inW, Bool.and_eq_true, decide_eq_true_eq] at h
    exact ⟨i, rfl, h.1, h.2⟩
  | _ => cases h
theorem all_ints {lo hi : Int} : ∀ {xs : List PD}, (xs.all fun x => inW x lo hi) = true → ∃ l : List Int, xs = l.map .int ∧ ∀ x ∈ l, lo ≤ x ∧ x ≤ hi
  | [], _ => ⟨[], rfl, fun x hx => by cases hx⟩
  | d :: xs, h => by
    rw [List.all_cons, Bool.and_eq_true] at h
    obtain ⟨i, rfl, h1, h2⟩ := inW_int h.1
    obtain ⟨l, rfl, hl⟩ := all_ints h.2
    exact ⟨i :: l, rfl, fun x hx => by
      rcases List.mem_cons.mp hx with e | e
      · rw [e]; exact ⟨h1, h2⟩
      · exact hl x e⟩
theorem ints_all {lo hi : Int} : ∀ {l : List Int}, (∀ x ∈ l, lo ≤ x ∧ x ≤ hi) → ((l.map PyData.int).all fun x => inW x lo hi) = true
  | [], _ => rfl
  | i :: l, h => by
    rw [List.map_cons, List.all_cons, ints_all fun x hx => h x (List.mem_cons_of_mem _ hx), Bool.and_true]
    have := h i List.mem_cons_self
    show (decide (lo ≤ i) && decide (i ≤ hi)) = true
    rw [decide_eq_true this.1, decide_eq_true this.2]
    rfl
/-- a list of numbers: 1 to n of them, each from 1 to v -/
def numsOk (n v : Int) (d : PD) : Bool := match d with
  | .list xs => decide (1 ≤ (xs.length : Int)) && decide ((xs.length : Int) ≤ n) && xs.all fun x => inW x 1 v
  | _ => false
theorem nums_good {n v : Int} {ns : List Int} (h1 : ns ≠ []) (h2 : (ns.length : Int) ≤ n) (h3 : ∀ x ∈ ns, 1 ≤ x ∧ x ≤ v) : numsOk n v (.list (ns.map .int)) = true := by
  have := List.length_pos_iff.mpr h1
  unfold numsOk
  dsimp only
  rw [ints_all h3, List.length_map, decide_eq_true (by omega), decide_eq_true h2]
  rfl
theorem nums_ok {n v : Int} {d : PD} (h : numsOk n v d = true) : ∃ ns : List Int, d = .list (ns.map .int) ∧ ns ≠ [] ∧ (ns.length : Int) ≤ n ∧ ∀ x ∈ ns, 1 ≤ x ∧ x ≤ v := by
  unfold numsOk at h
  split at h
  · rename_i xs
    simp only [Bool.and_eq_true, decide_eq_true_eq] at h
    obtain ⟨ns, rfl, h3⟩ := all_ints h.2
    rw [List.length_map] at h
    exact ⟨ns, rfl, fun e => by subst e; simp at h, h.1.2, h3⟩
  · cases h
theorem eqv_LB (a b : List Bool) : PyData.eqv (.list (a.map .bool)) (.list (b.map .bool)) = (a == b) := by rw [PyData.eqv, eqvAll_bool]
theorem shp_LB (a : List Bool) : SeqAt.shaped (.list (a.map .bool)) = true := by simp [SeqAt.shaped, PyData.canLay0, PyData.depth, layAll_bool, depAll_bool]
theorem getD_ints {l : List Int} {i : Nat} (h : i < l.length) : (l.map PyData.int).getD i .none = .int (l.getD i 0) := by
  rw [List.getD_eq_getElem?_getD, List.getD_eq_getElem?_getD, List.getElem?_map, List.getElem?_eq_getElem h]
  rfl
theorem atI_of {ds : List PD} {i : Nat} (h : i < ds.length) : atI ds (i : Int) = some (ds.getD i .none) := atI_nat (by rw [List.getD_eq_getElem?_getD, List.getElem?_eq_getElem h]; rfl)
theorem ixN_nat {n k : Nat} (h : k < n) : ixN n ((k : Nat) : Int) = some k := by
  simp [ixN]
  omega
theorem at_bools {bs : List Bool} {i : Nat} (h : i < bs.length) : atI (bs.map PyData.bool) (i : Int) = some (.bool (bs.getD i false)) := by
  refine atI_nat ?_
  rw [List.getElem?_map, List.getElem?_eq_getElem h, List.getD_eq_getElem?_getD, List.getElem?_eq_getElem h]
  rfl
section
variable {K : PySem.W.Frag} {σ : L2.St} {H H' : Hp} {ta tb tc te tl : TE} {t u : TT} {v : V} {d e f : PD} {ds es : List PD} {r : R2} {ar : TA} {n : Nat} {item : Nat → PD} {wi wj : TI}
theorem inV_ints (i : Int) : ∀ ns : List Int, inV (.int i) (ns.map V.int) = ns.contains i
  | [] => rfl
  | n :: r => by
    have ih := inV_ints i r
    unfold inV at ih ⊢
    rw [List.map_cons, List.any_cons, ih, List.contains_cons]
    show ((n == i) || _) = _
    rw [Bool.beq_comm]
theorem flat_ints : ∀ ns : List Int, (ns.map V.int).all flatV = true
  | [] => rfl
  | _ :: r => by rw [List.map_cons, List.all_cons, flat_ints r]; rfl
/-- xs.index(i), of ints -/
theorem ed_index {ns : List Int} {i : Int} {j : Nat} (ha : EvD K ta σ H (.list (ns.map .int))) (hb : EvD K tb σ H (.int i)) (hj : j < ns.length) (hv : ns.getD j 0 = i) (hno : ∀ m, m < j → ns.getD m 0 ≠ i) : EvD K (tBM K "list" (rIndex K) ta (tCons tb tNil)) σ H (.int (j : Nat)) := fun H1 x Q q => ha H1 x _ fun v H2 x2 hv2 => by
  obtain ⟨a, xs, rfl, hs, ha2⟩ := dp_lst hv2
  have e := dpa_ints ha2
  subst e
  refine ⟨Or.inl ⟨rfl, _, hs⟩, hb H2 (x.trans x2) _ fun w H3 x3 hw => ?_⟩
  have e2 := dp_int hw
  subst e2
  have gt : ∀ m, m < ns.length → (ns.map V.int)[m]? = some (.int (ns.getD m 0)) := fun m hm => by
    rw [List.getElem?_map, List.getElem?_eq_getElem hm, List.getD_eq_getElem?_getD, List.getElem?_eq_getElem hm]
    rfl
  refine ⟨a, ns.map V.int, .int i, j, .int i, rfl, rfl, ex_l x3 hs, rfl, flat_ints ns, by rw [gt j hj, hv], by show (i == i) = true; simp, fun m z hm hz => ?_, q _ H3 (x2.trans x3) (.int _)⟩
  rw [gt m (by omega)] at hz
  cases hz
  show (ns.getD m 0 == i) = false
  rw [beq_eq_false_iff_ne]
  exact hno m hm
theorem max_ex : ∀ {ns : List Int}, ns ≠ [] → ∃ m, m ∈ ns ∧ ∀ y ∈ ns, y ≤ m
  | [x], _ => ⟨x, List.mem_cons_self, fun y hy => by rw [List.mem_singleton.mp hy]; exact Int.le_refl _⟩
  | x :: z :: r, _ => by
    obtain ⟨m, h1, h2⟩ := max_ex (ns := z :: r) (by simp)
    by_cases h : m ≤ x
    · exact ⟨x, List.mem_cons_self, fun y hy => by
        rcases List.mem_cons.mp hy with e | e
        · omega
        · have := h2 y e; omega⟩
    · exact ⟨m, List.mem_cons_of_mem _ h1, fun y hy => by
        rcases List.mem_cons.mp hy with e | e
        · omega
        · exact h2 y e⟩
theorem ed_maxL {ns : List Int} {m : Int} (ha : EvD K ta σ H (.list (ns.map .int))) (h1 : m ∈ ns) (h2 : ∀ y ∈ ns, y ≤ m) : EvD K (tCB (rMax K) (tCons ta tNil)) σ H (.int m) := ed_cb (eds_cons ha eds_nil) fun H1 _ vs hv Q q => by
  obtain ⟨x, rfl, hx⟩ := dpa1 hv
  obtain ⟨a, xs, rfl, hs, ha2⟩ := dp_lst hx
  have e := dpa_ints ha2
  subst e
  refine ⟨a, ns, rfl, hs, List.length_pos_iff.mpr fun e => by (subst e; cases h1), fun m' m1 m2 => ?_⟩
  have e2 : m' = m := by
    have := h2 m' m1
    have := m2 m h1
    omega
  subst e2
  exact q _ H1 (Ex.refl H1) (.int _)
/-- any, of truths -/
theorem ed_any {bs : List Bool} (ha : EvD K ta σ H (.list (bs.map .bool))) : EvD K (tCB (rAny K) (tCons ta tNil)) σ H (.bool (bs.any id)) := ed_cb (eds_cons ha eds_nil) fun H1 _ vs hv Q q => by
  obtain ⟨x, rfl, hx⟩ := dpa1 hv
  obtain ⟨a, xs, rfl, hs, ha2⟩ := dp_lst hx
  have e := dpa_bls ha2
  subst e
  exact ⟨a, bs, rfl, hs, q _ H1 (Ex.refl H1) (.bl _)⟩
/-- [e for x in xs], xs of ints -/
theorem en_lcM {j : Nat} {vs : List Nat} {ns : List Int} (d : Int → PD) (hi : EvI K wi σ H (ns.map PyData.int).length (fun i => (ns.map PyData.int).getD i .none)) (hz : ns.length ≤ 90000) (hL : ∀ k, noL (d k) = true) (hw : ∀ x, wipe ((wipe σ vs).set j (some x)) vs = wipe σ vs)
    (he : ∀ k H1, k ∈ ns → Ex H H1 → EvD K te ((wipe σ vs).set j (some (.int k))) H1 (d k)) : EvN K (tLc wi (gName j) tYes te vs) σ H (ns.map d) := by
  have h := en_lc1 (K := K) (te := te) (fun i => d (ns.getD i 0)) hi (by rw [List.length_map]; exact hz) (fun _ _ => hL _) hw (fun i x H1 hi x1 hx => by
    rw [List.length_map] at hi
    rw [getD_ints hi] at hx
    rw [dp_int hx]
    exact he _ H1 (by rw [List.getD_eq_getElem?_getD, List.getElem?_eq_getElem hi]; exact List.getElem_mem hi) x1)
  rw [List.length_map] at h
  have e : (List.range ns.length).map (fun i => d (ns.getD i 0)) = ns.map d := by
    apply List.ext_getElem
    · simp
    · intro i h1 h2
      rw [List.length_map] at h2
      rw [List.getElem_map, List.getElem_map, List.getElem_range, List.getD_eq_getElem?_getD, List.getElem?_eq_getElem h2]
      rfl
  rw [e] at h
  exact h
/-- sorted, of ints -/
def sortM (ns : List Int) : List Int := ns.mergeSort (fun a b => decide (a ≤ b))
theorem sort_perm (ns : List Int) : (sortM ns).Perm ns := List.mergeSort_perm _ _
theorem sort_pw (ns : List Int) : (sortM ns).Pairwise (· ≤ ·) := by
  have := List.pairwise_mergeSort (le := fun a b : Int => decide (a ≤ b)) (fun a b c h1 h2 => by simp at *; omega) (fun a b => by simp; omega) ns
  exact this.imp fun h => of_decide_eq_true h
theorem ed_sorted {ns : List Int} (ha : EvD K ta σ H (.list (ns.map .int))) (hl : ns.length < 64) : EvD K (tCB (rSorted K) (tCons ta tNil)) σ H (.list ((sortM ns).map .int)) := ed_cb (eds_cons ha eds_nil) fun H1 _ vs hv Q q => by
  obtain ⟨x, rfl, hx⟩ := dpa1 hv
  obtain ⟨a, xs, rfl, hs, ha2⟩ := dp_lst hx
  have e := dpa_ints ha2
  subst e
  refine ⟨a, ns, rfl, hs, hl, fun ns' p hp hw hn => ?_⟩
  have e : ns' = sortM ns := List.Perm.eq_of_pairwise (le := fun a b : Int => a ≤ b) (fun a b _ _ h1 h2 => Int.le_antisymm h1 h2) hw (sort_pw ns) (hp.trans (sort_perm ns).symm)
  subst e
  exact q _ _ (Ex.new hn) (.lst (sq_of upd_same) dpa_of_ints)
/-- a comprehension that picks nothing -/
theorem en_lc0 {j : Nat} {vs : List Nat} {tt : TT} (hi : EvI K wi σ H n item) (hz : n ≤ 90000) (hw : ∀ x, wipe ((wipe σ vs).set j (some x)) vs = wipe σ vs)
    (ht : ∀ i x H1, i < n → Ex H H1 → Dp K H1 x (item i) → EvT tt ((wipe σ vs).set j (some x)) H1 false) : EvN K (tLc wi (gName j) tt te vs) σ H [] := by
  have h := en_lc2 (K := K) (te := te) (fun _ => false) (fun _ => PyData.none) hi hz (fun _ _ h => by cases h) hw ht (fun _ _ _ _ _ _ h => by cases h)
  have e : gv n (fun _ => false) (fun _ => PyData.none) = [] := by simp [gv]
  rw [e] at h
  exact h
theorem gv_nil {α : Type} {n : Nat} {f : Nat → Bool} {d : Nat → α} : gv n f d = [] ↔ ∀ i, i < n → f i = false := by
  unfold gv
  rw [List.map_eq_nil_iff, List.filter_eq_nil_iff]
  constructor
  · intro h i hi
    have := h i (List.mem_range.mpr hi)
    simpa using this
  · intro h i hi
    rw [h i (List.mem_range.mp hi)]
    decide
theorem gv_filter {α : Type} {ns : List Int} {f : Int → Bool} {g : Int → α} : gv ns.length (fun i => f (ns.getD i 0)) (fun i => g (ns.getD i 0)) = (ns.filter f).map g := by
  have e : (List.range ns.length).map (fun i => ns.getD i 0) = ns := by
    apply List.ext_getElem
    · simp
    · intro i h1 h2
      rw [List.getElem_map, List.getElem_range, List.getD_eq_getElem?_getD, List.getElem?_eq_getElem h2]
      rfl
  unfold gv
  conv => rhs; rw [← e]
  rw [List.filter_map, List.map_map]
  rfl
theorem filt_nil {p : Int → Bool} : ∀ {l : List Int}, (l.filter p == []) = !l.any p
  | [] => rfl
  | x :: r => by
    rw [List.filter_cons, List.any_cons]
    cases h : p x with
    | true => rfl
    | false =>
      rw [if_neg (by decide), filt_nil]
      rfl
/-- [e for x in xs if t], xs of ints -/
theorem en_lcF {j : Nat} {vs : List Nat} {tt : TT} {ns : List Int} (f : Int → Bool) (d : Int → Int) (hi : EvI K wi σ H (ns.map PyData.int).length (fun i => (ns.map PyData.int).getD i .none)) (hz : ns.length ≤ 90000) (hw : ∀ x, wipe ((wipe σ vs).set j (some x)) vs = wipe σ vs)
    (ht : ∀ k H1, k ∈ ns → Ex H H1 → EvT tt ((wipe σ vs).set j (some (.int k))) H1 (f k)) (he : ∀ k H1, k ∈ ns → Ex H H1 → f k = true → EvD K te ((wipe σ vs).set j (some (.int k))) H1 (.int (d k))) : EvN K (tLc wi (gName j) tt te vs) σ H (((ns.filter f).map d).map .int) := by
  have h := en_lc2 (K := K) (te := te) (fun i => f (ns.getD i 0)) (fun i => PyData.int (d (ns.getD i 0))) hi (by rw [List.length_map]; exact hz) (fun _ _ _ => rfl) hw (fun i x H1 hi x1 hx => by
    rw [List.length_map] at hi
    rw [getD_ints hi] at hx
    rw [dp_int hx]
    exact ht _ H1 (by rw [List.getD_eq_getElem?_getD, List.getElem?_eq_getElem hi]; exact List.getElem_mem hi) x1) (fun i x H1 hi x1 hx hf => by
    rw [List.length_map] at hi
    rw [getD_ints hi] at hx
    rw [dp_int hx]
    exact he _ H1 (by rw [List.getD_eq_getElem?_getD, List.getElem?_eq_getElem hi]; exact List.getElem_mem hi) x1 hf)
  rw [List.length_map, gv_filter (f := f) (g := fun k => PyData.int (d k))] at h
  rw [List.map_map]
  exact h
/-! in: ints in a list of ints -/
theorem rd_in {neg : Bool} {i : Int} {ns : List Int} : RD2 K (rIn K neg) H (.int i) (.list (ns.map .int)) (.bool (if neg then !ns.contains i else ns.contains i)) := fun H1 _ v w hv hw Q q => by
  rw [dp_int hv]
  obtain ⟨a, xs, rfl, hs, ha⟩ := dp_lst hw
  have e := dpa_ints ha
  subst e
  refine ⟨a, _, rfl, .inl hs, rfl, flat_ints ns, q _ H1 (Ex.refl H1) ?_⟩
  rw [inV_ints]
  exact .bl _
theorem ed_inI {i : Int} {ns : List Int} (ha : EvD K ta σ H (.int i)) (hb : EvD K tb σ H (.list (ns.map .int))) : EvD K (tOp (rInX K) ta tb) σ H (.bool (ns.contains i)) := ed_op ha hb (RD2.or (rd_in (neg := false)))
theorem ed_notInI {i : Int} {ns : List Int} (ha : EvD K ta σ H (.int i)) (hb : EvD K tb σ H (.list (ns.map .int))) : EvD K (tOp (rNotInX K) ta tb) σ H (.bool (!ns.contains i)) := ed_op ha hb (RD2.or (rd_in (neg := true)))
theorem ej_ixT {i : Nat} {k : Int} (hv : σ[i]? = some (some v)) (h : Dp K H v (.tuple ds)) (hk : atI ds k = some (.tuple es)) : EvJ K (iTup K (tOp (rIx K) (tVar i) (tC (.int k)))) σ H es.length (fun i => es.getD i .none) := fun H1 x R q => by
  obtain ⟨a, xs, rfl, hs, ha⟩ := dp_tup h
  obtain ⟨y, hy, hd⟩ := atI_dpa ha hk
  obtain ⟨b, ys, rfl, hs2, ha2⟩ := dp_tup hd
  exact ⟨_, hv, .inr (.inl ⟨a, xs, k, .ref b, rfl, rfl, ex_t x hs, hy, b, rfl, ⟨ys, ex_t x hs2⟩, q (Itt K b) H1 _ _ (Ex.refl H1) (dpa_len ha2 ▸ walk_tup (xs := ys)) (fun H3 x3 => ex_t x3 hs2) fun i Hx z Hy hi x3 y => yat_dp (a := b) ha2 (by rw [dpa_len ha2]; exact hi) x3 y⟩)⟩
variable {D : Ends} {tu tw tz : TS} {g : TG}
theorem gn {i : Nat} {x : V} {Q : L2.St → Hp → Prop} (h : Q (σ.set i (some x)) H) : gName i x σ H Q := h
/-- xs[k] = e -/
theorem sd_setI {i : Nat} {p : Addr} {xs : List V} {k : Int} {j : Nat} (hi : σ[i]? = some (some (.ref p))) (hp : H p = some (.lst xs)) (hk : EvD K tb σ H (.int k)) (h : EvD K te σ H d) (hj : ixN xs.length k = some j) (q : ∀ v H1, Ex H H1 → Dp K H1 v d → D.nx σ (upd H1 p (.lst (xs.set j v)))) :
    tAsg te (gSub (tVar i) tb rSetL) D σ H := h H (Ex.refl H) _ fun v H1 x hv => ⟨_, hi, hk H1 x _ fun w H2 x2 hw => by
  have e := dp_int hw
  subst e
  exact ⟨p, xs, k, j, rfl, rfl, x2 _ _ (x _ _ hp), hj, q v H2 (x.trans x2) (dp_ex x2 hv)⟩⟩
theorem qd_setI {i : Nat} {p : Addr} {xs : List V} {k : Int} {j : Nat} (hi : σ[i]? = some (some (.ref p))) (hp : H p = some (.lst xs)) (hk : EvD K tb σ H (.int k)) (h : EvD K te σ H d) (hj : ixN xs.length k = some j) (q : ∀ v H1, Ex H H1 → Dp K H1 v d → tz D σ (upd H1 p (.lst (xs.set j v)))) :
    tSeq (tAsg te (gSub (tVar i) tb rSetL)) tz D σ H := sd_setI (D := { D with nx := tz D }) hi hp hk h hj q
theorem dpa_set : ∀ {xs : List V} {ds : List PD} {j : Nat} {v : V} {d : PD}, DpAll K H xs ds → Dp K H v d → DpAll K H (xs.set j v) (ds.set j d)
  | _, _, _, _, _, .nil, _ => .nil
  | _, _, 0, _, _, .cons _ t, hv => .cons hv t
  | _, _, j + 1, _, _, .cons h t, hv => .cons h (dpa_set t hv)
/-- d[k] = e -/
theorem qd_dputK {i j : Nat} {a : Addr} {kvs : List (Key × V)} {k : Key} (hi : σ[i]? = some (some (.ref a))) (hj : σ[j]? = some (some (kV k))) (ha : H a = some (.dK kvs)) (h : EvD K te σ H d) (hl : kvs.length ≤ 100000) (q : ∀ v H1, Ex H H1 → Dp K H1 v d → tz D σ (upd H1 a (.dK (putK kvs k v)))) :
    tSeq (sDPut (tVar i) (tVar j) te) tz D σ H := h H (Ex.refl H) _ fun v H1 x hv => ⟨_, hi, _, hj, a, _, rfl, DPut.k (x _ _ ha) (Nat.lt_of_le_of_lt hl (by rw [sizeLine_eq]; decide)), q v H1 x hv⟩
theorem sd_dputT {i j : Nat} {a b : Addr} {kvs : List (List Key × V)} {k : List Key} (hi : σ[i]? = some (some (.ref a))) (hj : σ[j]? = some (some (.ref b))) (ha : H a = some (.dT kvs)) (hb : H b = some (.tup (k.map kV))) (h : EvD K te σ H d) (hl : kvs.length ≤ 100000) (q : ∀ v H1, Ex H H1 → Dp K H1 v d → D.nx σ (upd H1 a (.dT (putK kvs k v)))) :
    sDPut (tVar i) (tVar j) te D σ H := h H (Ex.refl H) _ fun v H1 x hv => ⟨_, hi, _, hj, a, _, rfl, DPut.t (x _ _ ha) (x _ _ hb) (Nat.lt_of_le_of_lt hl (by rw [sizeLine_eq]; decide)), q v H1 x hv⟩
/-- x = tuple(ys), ys a list: a new tuple -/
theorem qd_asgTup {i : Nat} (h : EvD K te σ H (.list ds)) (k : ∀ p H1 xs, H p = none → Ex H H1 → H1 p = some (.tup xs) → DpAll K H1 xs ds → tz D (σ.set i (some (.ref p))) H1) : tSeq (tAsg (tCB (rTupleOf K) (tCons te tNil)) (gName i)) tz D σ H := by
  refine (eds_cons h eds_nil) H (Ex.refl H) (fun vs H1 => rTupleOf K vs H1 fun x H2 => gName i x σ H2 (tz D)) fun vs H1 x1 hv => ?_
  obtain ⟨v, rfl, hd⟩ := dpa1 hv
  obtain ⟨a, xs, rfl, hs, ha⟩ := dp_lst hd
  exact ⟨a, xs, rfl, .inl ⟨hs, fun l hl => k l _ xs (fresh_back x1 hl) (x1.trans (Ex.new hl)) upd_same (dpa_ex (Ex.new hl) ha)⟩⟩
theorem qd_dnewT {i : Nat} (k : ∀ p, H p = none → tz D (σ.set i (some (.ref p))) (upd H p (.dT []))) : tSeq (tAsg tDNewT (gName i)) tz D σ H := fun p hp => k p hp
theorem qd_dnewK {i : Nat} (k : ∀ p, H p = none → tz D (σ.set i (some (.ref p))) (upd H p (.dK []))) : tSeq (tAsg tDNewK (gName i)) tz D σ H := fun p hp => k p hp
theorem s_brk (h : D.bk σ H) : tBreak D σ H := h
/-- xs.extend(ys) -/
theorem sd_ext {l : Addr} {xs : List V} (hl : H l = some (.lst xs)) (ha : Ev ta σ H (.ref l)) (h : EvN K te σ H ds) (hz : xs.length + ds.length ≤ 100000) (k : ∀ H1 zs, Ex H H1 → DpAll K H1 zs ds → D.nx σ (upd H1 l (.lst (xs ++ zs)))) :
    tDrop (tBM K "list" rExtend ta (tCons te tNil)) D σ H := ha H (Ex.refl H) _ fun H1 e1 =>
  ⟨Or.inl ⟨rfl, xs, sq_of (e1 l _ hl)⟩, h H1 e1 _ fun p H2 zs hp e2 hp2 hd => ⟨l, p, xs, zs, rfl, rfl, e2 l _ (e1 l _ hl), hp2, sz_of (by rw [dpa_len hd]; exact hz), k H2 zs (e1.trans e2) hd⟩⟩
/-- a promise that tells of the objects themselves -/
def SpG {γ : Type} (K : PySem.W.Frag) (args : γ → List PD) (side : γ → Prop) (Res : γ → Hp → V → Hp → Prop) : Sp := fun vs H Q _ => ∃ g, DpAll K H vs (args g) ∧ side g ∧ ∀ v H', Ex H H' → Res g H v H' → Q v H'
theorem qd_callG {γ : Type} {args : γ → List PD} {side : γ → Prop} {Res : γ → Hp → V → Hp → Prop} {E : XK} (x : γ) (ha : EvDs K ar σ H (args x)) (hs : side x) (k : ∀ v H0 H1, Ex H H0 → Ex H0 H1 → Res x H0 v H1 → g v σ H1 (tz D)) : tSeq (tAsg (tCall (SpG K args side Res) [] E ar) g) tz D σ H :=
  ha H (Ex.refl H) _ fun vs H1 x1 hv => by
    show SpG K args side Res (vs ++ []) H1 _ E
    rw [List.append_nil]
    exact ⟨x, hv, hs, fun v H2 x2 r => k v H1 H2 x1 x2 r⟩
/-- an if whose ends meet at M -/
theorem q_ifM {b : Bool} (M : L2.St → Hp → Prop) (h : EvT t σ H b) (h1 : (∀ σ' H', M σ' H' → tz D σ' H') → b = true → ∀ H1, Ex H H1 → tu { D with nx := tz D } σ H1) (h2 : b = false → ∀ H1, Ex H H1 → M σ H1) (k : ∀ σ' H', M σ' H' → tz D σ' H') : tSeq (tIfS t tu tNext) tz D σ H :=
  q_when h (h1 k) fun hb H1 x => k _ _ (h2 hb H1 x)
theorem q_ifE {b : Bool} (M : L2.St → Hp → Prop) (h : EvT t σ H b) (h1 : (∀ σ' H', M σ' H' → tz D σ' H') → b = true → ∀ H1, Ex H H1 → tu { D with nx := tz D } σ H1) (h2 : (∀ σ' H', M σ' H' → tz D σ' H') → b = false → ∀ H1, Ex H H1 → tw { D with nx := tz D } σ H1) (k : ∀ σ' H', M σ' H' → tz D σ' H') : tSeq (tIfS t tu tw) tz D σ H :=
  s_if (D := { D with nx := tz D }) h (h1 k) (h2 k)
end
section
variable {P : Program} {w : World} {K : PySem.W.Frag} {mg : Str → Option Value} {base : Heap}
theorem can_G {x : Str} {st : Stmt} {N ps : List Str} {k : Nat} {γ : Type} {args : γ → List PD} {side : γ → Prop} {Res : γ → Hp → V → Hp → Prop} (F : Dfn K mg x st ps) (S : FnScope N ps (defScope st)) (len : ∀ g, (args g).length = ps.length)
    (hbody : ∀ (cdv : Value) (A : Around) (outer : List Env) (s : Shared) (H : Hp) (vs : List V) (Q : VK) (E : XK) (f : Addr) (g : γ), Room k (A.deeper (envOfC x (defScope st) s.heap.objs.size f cdv)) → DpAll K H vs (args g) → side g → (∀ v H', Ex H H' → Res g H v H' → Q v H') →
      ∃ t, PSs (cxOf CX0 P w K mg base N x (defScope st) f cdv A outer s H E).nox (defBody st) t ∧ t { nx := fun _ H' => Q .non H', rt := Q } (start N vs) H) : Can P w K mg base CX0 (k + 1) x (SpG K args side Res) := by
  obtain ⟨f, fd, F, hm, b⟩ := F.ex
  exact ⟨f, fd, ps, F.ok S (fun vs H Q E ⟨g, hv, _⟩ => (dpa_len hv).trans (len g)) (fun cdv A outer s H vs Q E hr ⟨g, hv, hs, q⟩ => hbody cdv A outer s H vs Q E f g hr hv hs q), hm, F.kp, b⟩
end
end Pb

namespace Pb
open PySem PySem.Spec PyProof.Rows L2 Evn
variable [Evn.Tbs]
/-! ### what may be raised -/
/-- what a def that may raise hands on: data, or an error of the class at C -/
def Out (K : PySem.W.Frag) (H : Hp) (Q : VK) (E : XK) : Except Addr PD → Prop
  | .ok d => ∀ v H', Ex H H' → Dp K H' v d → Q v H'
  | .error C => ∀ H', Ex H H' → E (.ref C) none H'
def SpX {γ : Type} (K : PySem.W.Frag) (args : γ → List PD) (side : γ → Prop) (res : γ → Except Addr PD) : Sp := fun vs H Q E => ∃ g, DpAll K H vs (args g) ∧ side g ∧ Out K H Q E (res g)
theorem Out.ok {K : PySem.W.Frag} {H : Hp} {Q : VK} {E : XK} {r : Except Addr PD} {d : PD} (o : Out K H Q E r) (e : r = .ok d) : ∀ v H', Ex H H' → Dp K H' v d → Q v H' := by subst e; exact o
theorem Out.er {K : PySem.W.Frag} {H : Hp} {Q : VK} {E : XK} {r : Except Addr PD} {C : Addr} (o : Out K H Q E r) (e : r = .error C) : ∀ H', Ex H H' → E (.ref C) none H' := by subst e; exact o
/-- te never comes back: what it raises is seen to -/
def EvR (te : TE) (σ : L2.St) (H : Hp) : Prop := ∀ H1, Ex H H1 → ∀ Q : VK, te σ H1 Q
def EvRs (ta : TA) (σ : L2.St) (H : Hp) : Prop := ∀ H1, Ex H H1 → ∀ Q : List V → Hp → Prop, ta σ H1 Q
section
variable {K : PySem.W.Frag} {σ : L2.St} {H H' : Hp} {ar : TA} {te : TE} {d : PD} {ds : List PD} {D : Ends} {g : TG} {tz : TS}
theorem ed_callX {γ : Type} {args : γ → List PD} {side : γ → Prop} {res : γ → Except Addr PD} {E : XK} {d : PD} (g : γ) (ha : EvDs K ar σ H (args g)) (hs : side g) (hr : res g = .ok d) : EvD K (tCall (SpX K args side res) [] E ar) σ H d :=
  ed_call ha fun H1 vs x hv Q q => ⟨g, hv, hs, by rw [hr]; exact q⟩
theorem er_callX {γ : Type} {args : γ → List PD} {side : γ → Prop} {res : γ → Except Addr PD} {E : XK} {C : Addr} (g : γ) (ha : EvDs K ar σ H (args g)) (hs : side g) (hr : res g = .error C) (k : ∀ H2, Ex H H2 → E (.ref C) none H2) : EvR (tCall (SpX K args side res) [] E ar) σ H := fun H1 x Q =>
  ha H1 x _ fun vs H2 x2 hv => by
    show SpX K args side res (vs ++ []) H2 Q E
    rw [List.append_nil]
    exact ⟨g, hv, hs, by rw [hr]; exact fun H3 x3 => k H3 ((x.trans x2).trans x3)⟩
/-- in a try's body -/
theorem ed_S {sp : Sp} {E : L2.St → XK} (h : EvD K (tCall sp [] (E σ) ar) σ H d) : EvD K (tCallS sp E ar) σ H d := by
  have e : (tCall sp [] (E σ) ar) σ = (tCallS sp E ar) σ := by
    funext H1 Q
    show (ar σ H1 fun vs H2 => sp (vs ++ []) H2 Q (E σ)) = ar σ H1 fun vs H2 => sp vs H2 Q (E σ)
    simp only [List.append_nil]
  intro H1 x Q q
  have := h H1 x Q q
  rw [e] at this
  exact this
theorem er_S {sp : Sp} {E : L2.St → XK} (h : EvR (tCall sp [] (E σ) ar) σ H) : EvR (tCallS sp E ar) σ H := by
  have e : (tCall sp [] (E σ) ar) σ = (tCallS sp E ar) σ := by
    funext H1 Q
    show (ar σ H1 fun vs H2 => sp (vs ++ []) H2 Q (E σ)) = ar σ H1 fun vs H2 => sp vs H2 Q (E σ)
    simp only [List.append_nil]
  intro H1 x Q
  have := h H1 x Q
  rw [e] at this
  exact this
theorem EvR.ex (x : Ex H H') (h : EvR te σ H) : EvR te σ H' := fun H1 a Q => h H1 (x.trans a) Q
theorem er_cons1 {ta : TA} (h : EvR te σ H) : EvRs (tCons te ta) σ H := fun H1 x Q => h H1 x _
theorem er_cons2 {ta : TA} (h : EvD K te σ H d) (h2 : EvRs ta σ H) : EvRs (tCons te ta) σ H := fun H1 x Q => h H1 x _ fun v H2 x2 _ => h2 H2 (x.trans x2) _
theorem er_call {sp : Sp} {E : XK} (h : EvRs ar σ H) : EvR (tCall sp [] E ar) σ H := fun H1 x Q => h H1 x _
theorem sx_asg (h : EvR te σ H) : tAsg te g D σ H := h H (Ex.refl H) _
theorem qx_asg (h : EvR te σ H) : tSeq (tAsg te g) tz D σ H := h H (Ex.refl H) _
theorem sx_ret (h : EvR te σ H) : tRet te D σ H := h H (Ex.refl H) _
theorem qx_ret (h : EvR te σ H) : tSeq (tRet te) tz D σ H := h H (Ex.refl H) _
theorem sx_drop (h : EvR te σ H) : tDrop te D σ H := h H (Ex.refl H) _
theorem qx_drop (h : EvR te σ H) : tSeq (tDrop te) tz D σ H := h H (Ex.refl H) _
theorem sd_drop (h : EvD K te σ H d) (k : ∀ H1, Ex H H1 → D.nx σ H1) : tDrop te D σ H := h H (Ex.refl H) _ fun _ H1 x _ => k H1 x
theorem qd_drop (h : EvD K te σ H d) (k : ∀ H1, Ex H H1 → tz D σ H1) : tSeq (tDrop te) tz D σ H := h H (Ex.refl H) _ fun _ H1 x _ => k H1 x
end
section
variable {K : PySem.W.Frag} {σ : L2.St} {H H' H0 : Hp} {ar : TA} {te : TE} {d : PD} {ds : List PD} {D : Ends} {g : TG} {tz : TS}
variable {γ : Type} {args : γ → List PD} {side : γ → Prop} {res : γ → Except Addr PD} {r : Except Addr PD}
/-- return f(..), f and the def that may raise, what f hands on being handed on -/
theorem sd_retO {E : XK} (g : γ) (ha : EvDs K ar σ H (args g)) (hs : side g) (x : Ex H0 H) (q : Out K H0 D.rt E r) (e : res g = r) : tRet (tCall (SpX K args side res) [] E ar) D σ H := by
  subst e
  cases hr : res g with
  | ok d => exact sd_ret (ed_callX g ha hs hr) fun v H1 x1 hv => q.ok hr v H1 (x.trans x1) hv
  | error C => exact sx_ret (er_callX g ha hs hr fun H2 x2 => q.er hr H2 (x.trans x2))
/-- .. in a try -/
theorem sd_retS {E : L2.St → XK} (g : γ) (ha : EvDs K ar σ H (args g)) (hs : side g) (k1 : ∀ d, res g = .ok d → ∀ v H1, Ex H H1 → Dp K H1 v d → D.rt v H1) (k2 : ∀ C, res g = .error C → ∀ H1, Ex H H1 → E σ (.ref C) none H1) : tRet (tCallS (SpX K args side res) E ar) D σ H := by
  cases hr : res g with
  | ok d => exact sd_ret (ed_S (ed_callX g ha hs hr)) (k1 d hr)
  | error C => exact sx_ret (er_S (er_callX g ha hs hr (k2 C hr)))
theorem sd_dropS {E : L2.St → XK} (g : γ) (ha : EvDs K ar σ H (args g)) (hs : side g) (k1 : ∀ d, res g = .ok d → ∀ H1, Ex H H1 → D.nx σ H1) (k2 : ∀ C, res g = .error C → ∀ H1, Ex H H1 → E σ (.ref C) none H1) : tDrop (tCallS (SpX K args side res) E ar) D σ H := by
  cases hr : res g with
  | ok d => exact sd_drop (ed_S (ed_callX g ha hs hr)) (k1 d hr)
  | error C => exact sx_drop (er_S (er_callX g ha hs hr (k2 C hr)))
end
/-! ### defs that may raise -/
section
variable {P : Program} {w : World} {K : PySem.W.Frag} {mg : Str → Option Value} {base : Heap}
theorem can_X {x : Str} {st : Stmt} {N ps : List Str} {k : Nat} {γ : Type} {args : γ → List PD} {side : γ → Prop} {res : γ → Except Addr PD} (F : Dfn K mg x st ps) (S : FnScope N ps (defScope st)) (len : ∀ g, (args g).length = ps.length)
    (hbody : ∀ (cdv : Value) (A : Around) (outer : List Env) (s : Shared) (H : Hp) (vs : List V) (Q : VK) (E : XK) (f : Addr) (g : γ), Room k (A.deeper (envOfC x (defScope st) s.heap.objs.size f cdv)) → DpAll K H vs (args g) → side g → Out K H Q E (res g) →
      ∃ t, PSs (cxOf (L2.CX P w) P w K mg base N x (defScope st) f cdv A outer s H E) (defBody st) t ∧ t { nx := fun _ H' => Q .non H', rt := Q } (start N vs) H) : Can P w K mg base (L2.CX P w) (k + 1) x (SpX K args side res) := by
  obtain ⟨f, fd, F, hm, b⟩ := F.ex
  exact ⟨f, fd, ps, F.okX S (fun vs H Q E ⟨g, hv, _⟩ => (dpa_len hv).trans (len g)) (fun cdv A outer s H vs Q E hr ⟨g, hv, hs, q⟩ => hbody cdv A outer s H vs Q E f g hr hv hs q), hm, F.kp, b⟩
end
section
variable {X : Cx} {k j : Nat} {x : Str} {p pos : Pos} {e : Expr} {es : List Expr} {t : TA} {sp : Sp}
theorem pcX {E : XK} (c : Can X.prog X.w X.K X.mg X.base (L2.CX X.prog X.w) k x sp) (hr : Room j X.A) (hk : k ≤ j) (hg : Gl X x) (hx : Passes (L2.CX X.prog X.w) X E) (ha : PA X (e :: es) t)
    (hdb : (x == ("__debug__" : Str)) = false := by decide) (he : starEach (e :: es) X.env = (false, eval e X.env) :: starEach es X.env := by rfl) (hpl : (backTo pos (starEach es X.env)).any (·.1) = false := by rfl) :
    PE X (.Call (.Name x p) (e :: es) [] pos) (tCall sp [] E t) := by
  obtain ⟨f, fd, ps, F, hm, kp, b⟩ := c.ex
  exact pe_call F (hr.mono hk) hg hm kp b .nil hx ha hdb he hpl
theorem pcS {W : WX} (c : Can X.prog X.w X.K X.mg X.base (L2.CX X.prog X.w) k x sp) (hr : Room j X.A) (hk : k ≤ j) (hg : Gl X x) (tk : L2.Takes X W) (ha : PA X (e :: es) t)
    (hdb : (x == ("__debug__" : Str)) = false := by decide) (he : starEach (e :: es) X.env = (false, eval e X.env) :: starEach es X.env := by rfl) (hpl : (backTo pos (starEach es X.env)).any (·.1) = false := by rfl) :
    PE X (.Call (.Name x p) (e :: es) [] pos) (tCallS sp (WE W) t) := by
  obtain ⟨f, fd, ps, F, hm, kp, b⟩ := c.ex
  exact pe_callS F (hr.mono hk) hg hm kp b (fun σ => passAt tk σ) ha hdb he hpl
end
/-! ### classes -/
/-- an own class of errors, without own __init__ -/
structure ExcAt (K : PySem.W.Frag) (mg : Str → Option Value) (x : Str) (C : Addr) : Prop where
  g : mg x = some (.ref C)
  x : PySem.W.excIn K C [.type "ValueError", .type "Exception", .type "BaseException", .type "object"] "ValueError.__new__" = true
  k : PySem.W.keepIn K (.ref C) = true
  b : PySem.W.subIn K (.ref C) (.type "BaseException") = some true
  t : PySem.W.typeIn K (.ref C) = some (.type "type")
  i : PySem.W.isClsIn K C = true
  v : PySem.W.subIn K (.ref C) (.type "ValueError") = some true
  e : ExcC K C
theorem exm_of {K : PySem.W.Frag} {S C : Addr} {b : Bool} (h1 : PySem.W.subIn K (.ref C) (.type "BaseException") = some true) (h2 : PySem.W.isClsIn K C = true) (h3 : PySem.W.typeIn K (.ref C) = some (.type "type")) (h4 : PySem.W.subIn K (.ref S) (.ref C) = some b) :
    PySem.W.exmOne K (.ref S) (.ref C) = some b := by
  have e1 : (PySem.W.subIn K (.ref C) (.type "BaseException") == some true) = true := by rw [h1] <;> rfl
  have e2 : ((PySem.W.clsIn K C).isSome && PySem.W.typeIn K (.ref C) == some (.type "type")) = true := by
    have h2' : (PySem.W.clsIn K C).isSome = true := h2
    rw [h2', h3] <;> rfl
  show (if (PySem.W.subIn K (.ref C) (.type "BaseException") == some true) = true then (if ((PySem.W.clsIn K C).isSome && PySem.W.typeIn K (.ref C) == some (.type "type")) = true then PySem.W.subIn K (.ref S) (.ref C) else none) else none) = some b
  rw [if_pos e1, if_pos e2]
  exact h4
theorem kit_of {K : PySem.W.Frag} {S C : Addr} {b : Bool} (h2 : PySem.W.isClsIn K C = true) (h3 : PySem.W.typeIn K (.ref C) = some (.type "type")) (h4 : PySem.W.subIn K (.ref S) (.ref C) = some b) (h5 : PySem.W.subIn K (.ref C) (.ref C) = some true) :
    PySem.W.kitOne K (.ref S) (.ref C) = some b := by
  unfold PySem.W.kitOne
  by_cases q : ((Value.ref S == Value.ref C) = true)
  · rw [if_pos q]
    have e : S = C := Value.ref.inj (beq_iff_eq.mp q)
    subst e
    rw [h5] at h4
    exact h4
  · rw [if_neg q]
    have e2 : ((PySem.W.clsIn K C).isSome && PySem.W.typeIn K (.ref C) == some (.type "type")) = true := by
      have h2' : (PySem.W.clsIn K C).isSome = true := h2
      rw [h2', h3] <;> rfl
    show (if ((PySem.W.clsIn K C).isSome && PySem.W.typeIn K (.ref C) == some (.type "type")) = true then PySem.W.subIn K (.ref S) (.ref C) else none) = some b
    rw [if_pos e2]
    exact h4
theorem kit_val {K : PySem.W.Frag} {S : Addr} {b : Bool} (h4 : PySem.W.subIn K (.ref S) (.type "ValueError") = some b) : PySem.W.kitOne K (.ref S) (.type "ValueError") = some b := by
  unfold PySem.W.kitOne
  rw [if_neg (by intro q; exact nomatch (beq_iff_eq.mp q))]
  show (if PySem.W.kitMeta "ValueError" = true then PySem.W.subIn K (.ref S) (.type "ValueError") else none) = some b
  rw [if_pos (by decide +kernel)]
  exact h4
/-- an error of the class at S, the class at C: does a clause catch it, is it an instance -/
structure Rel (K : PySem.W.Frag) (S C : Addr) (b : Bool) : Prop where
  m : PySem.W.exmOne K (.ref S) (.ref C) = some b
  i : PySem.W.kitOne K (.ref S) (.ref C) = some b
/-- raise X('m') -/
theorem px_raise {X : Cx} {W : WX} {x m : Str} {C : Addr} {j : Nat} {p p2 pos pos' : Pos} (h : ExcAt X.K X.mg x C) (hc : X.calm = true) (tk : L2.Takes X W) (hg : Gl X x) (hdb : (x == ("__debug__" : Str)) = false := by decide) :
    PS X (.Raise (some (.Call (.Name x p) [.Constant (.str m) j p2] [] pos)) none pos') (fun _ σ H => W (.ref C) none σ H) :=
  ps_raise hc tk (L2.pmk_own PySem.F.excBase_ValueError h.x h.g h.k (raises_own h.b h.t) hg hdb)
/-- isinstance(e, c) of what is caught -/
theorem pss_exD {X : Cx} {ss : List Stmt} {t : Addr → TS} {p : Addr → Prop} (h : ∀ D0, p D0 → PSs X ss (t D0)) : PSs X ss (fun D σ H => ∃ D0, p D0 ∧ t D0 D σ H) := ⟨fun pins s σ H D I ⟨D0, hp, q⟩ => (h D0 hp).run pins s σ H D I q⟩
theorem call_isEK {X : Cx} {K : PySem.W.Frag} {a S : Addr} {oe : Obj} {pn : List (Addr × Obj)} {cls : Value} {d : Option Addr} (e : X.K = K) (hp : cls = .ref S ∧ d = none ∧ ExcC K S) (hz : Zc cls d oe) (hf : ∃ vs, oe.data = .fields vs) : CallR (X.suite a ((a, oe) :: pn)) (.builtin "isinstance") (rIsE K S a) := by
  subst e
  obtain ⟨rfl, rfl, h⟩ := hp
  exact call_isE h hz hf
theorem q_seq {D : Ends} {σ : L2.St} {H : Hp} {t tz : TS} (h : t { D with nx := tz D } σ H) : tSeq t tz D σ H := h
section
variable {K : PySem.W.Frag} {σ : L2.St} {H : Hp} {i : Nat} {a S C : Addr} {b : Bool}
theorem ed_isE (hv : σ[i]? = some (some (.ref a))) (h : PySem.W.kitOne K (.ref S) (.ref C) = some b) : EvD K (tCB (rIsE K S a) (tCons (tVar i) (tCons (tC (.ref C)) tNil))) σ H (.bool b) := fun H1 x Q q =>
  ⟨_, hv, .ref C, .ref C, b, rfl, fun u r => r, h, q _ H1 (Ex.refl H1) (.bl b)⟩
theorem ed_isEV (hv : σ[i]? = some (some (.ref a))) (h : PySem.W.kitOne K (.ref S) (.type "ValueError") = some b) : EvD K (tCB (rIsE K S a) (tCons (tVar i) (tCons (tC (.ty "ValueError")) tNil))) σ H (.bool b) := fun H1 x Q q =>
  ⟨_, hv, .ty "ValueError", .type "ValueError", b, rfl, fun u r => r, h, q _ H1 (Ex.refl H1) (.bl b)⟩
end
end Pb

/-! texts; a suite that raises -/
namespace Pb
open PySem PySem.Spec PyProof.Rows L2 Evn
variable [Evn.Tbs]
abbrev Sg (l : List Nat) : Str := SX.S l
theorem sg_len (l : List Nat) : (Sg l).length = l.length := by simp [Sg, SX.S, Str.length]
theorem sg_app (a b : List Nat) : Sg a ++ Sg b = Sg (a ++ b) := TL.ext_tl (by rw [TL.tl_append])
theorem sg_inj {a b : List Nat} (h : Sg a = Sg b) : a = b := congrArg TL.tl h
theorem sg_tl (z : Str) : Sg z.cps.toList = z := TL.mk_tl z
def rJoin (K : PySem.W.Frag) : V → List V → Hp → VK → Prop := fun x xs H Q => ∃ a p, ∃ ys : List Str, x = .str a ∧ xs = [.ref p] ∧ (SqL K H p (ys.map V.str) ∨ SqT K H p (ys.map V.str)) ∧ (ys.map (·.length)).sum + ys.length * a.length ≤ 16777216 ∧ Q (.str (Txt.join a ys)) H
theorem pe_joinK {X : Cx} {K : PySem.W.Frag} {o e : Expr} {to te : TE} {apos pos : Pos} (e0 : X.K = K) (ho : PE X o to) (he : PE X e te) (hs : starEach [e] X.env = [(false, eval e X.env)] := by rfl) (hbase : attributeBase o "join" X.env (eval o X.env) = eval o X.env := by rfl) (hline : (apos.endLine == pos.line) = true := by rfl) :
    PE X (.Call (.Attribute o "join" apos) [e] [] pos) (tM1 (rJoin K) to te) := by subst e0; exact pe_join ho he hs hbase hline
def rSplit1 : V → List V → Hp → VK → Prop := fun x xs H Q => ∃ a b, x = .str a ∧ xs = [.str b] ∧ (b.length == 0) = false ∧ a.length + 2 ≤ sizeLine ∧ rNewStrs (Txt.split a b) H Q
theorem pe_split1 {X : Cx} {o e : Expr} {to te : TE} {apos pos : Pos} (ho : PE X o to) (he : PE X e te) (hs : starEach [e] X.env = [(false, eval e X.env)] := by rfl) (hbase : attributeBase o "split" X.env (eval o X.env) = eval o X.env := by rfl) (hline : (apos.endLine == pos.line) = true := by rfl) :
    PE X (.Call (.Attribute o "split" apos) [e] [] pos) (tM1 rSplit1 to te) := pe_split ho he hs hbase hline
def rStr1 : List V → Hp → VK → Prop := fun xs H Q => ∃ i : Int, xs = [.int i] ∧ i.natAbs.log2 < 1920 ∧ Q (.str (toString i)) H
theorem call_str1 {X : Cx} : CallR X (.type "str") rStr1 := call_str_int
section
variable {K : PySem.W.Frag} {σ : L2.St} {H : Hp} {ta tb : TE}
theorem ed_joinL {a : Str} {ys : List Str} (ha : EvD K ta σ H (.str a)) (hb : EvD K tb σ H (.list (ys.map .str))) (hz : (ys.map (·.length)).sum + ys.length * a.length ≤ 16777216) : EvD K (tM1 (rJoin K) ta tb) σ H (.str (Txt.join a ys)) := fun H1 x Q q =>
  ha H1 x _ fun v H2 x2 hv => by
    have ev := dp_str hv
    subst ev
    refine ⟨⟨a, rfl⟩, hb H2 (x.trans x2) _ fun w H3 x3 hw => ?_⟩
    obtain ⟨p, xs, rfl, hs, hl⟩ := dp_lst hw
    have e := dpa_strs hl
    subst e
    exact ⟨a, p, ys, rfl, rfl, .inl hs, hz, q _ H3 (x2.trans x3) (.str _)⟩
theorem ed_split {a b : Str} (ha : EvD K ta σ H (.str a)) (hb : EvD K tb σ H (.str b)) (h0 : (b.length == 0) = false) (hz : a.length ≤ 90000) : EvD K (tM1 rSplit1 ta tb) σ H (.list ((Txt.split a b).map .str)) := fun H1 x Q q =>
  ha H1 x _ fun v H2 x2 hv => by
    have ev := dp_str hv
    subst ev
    refine ⟨⟨a, rfl⟩, hb H2 (x.trans x2) _ fun w H3 x3 hw => ?_⟩
    have ew := dp_str hw
    subst ew
    exact ⟨a, b, rfl, rfl, h0, sz_of (by omega), fun p hp => q _ _ ((x2.trans x3).trans (Ex.new hp)) (.lst (sq_of upd_same) dpa_of_strs)⟩
theorem ed_str1 {i : Int} (ha : EvD K ta σ H (.int i)) (h : i.natAbs.log2 < 1920) : EvD K (tCB rStr1 (tCons ta tNil)) σ H (.str (toString i)) := ed_cb (eds_cons ha eds_nil) fun H1 _ vs hv Q q => by
  obtain ⟨x, r, rfl, hx, hr⟩ := dpa_cons hv
  cases dpa_nil hr
  rw [dp_int hx]
  exact ⟨i, rfl, h, q _ _ (Ex.refl H1) (.str _)⟩
theorem ed_notInS {c : Nat} {z : Str} (ha : EvD K ta σ H (.str ⟨#[c]⟩)) (hb : EvD K tb σ H (.str z)) : EvD K (tOp (rNotInX K) ta tb) σ H (.bool (!decide (c ∈ z.cps.toList))) := ed_op ha hb fun H1 _ v w hv hw Q q =>
  .inl ⟨c, z, dp_str hv, dp_str hw, q _ _ (Ex.refl H1) (.bl _)⟩
end
theorem er_tup {ta : TA} {σ : L2.St} {H : Hp} (h : EvRs ta σ H) : EvR (tTup ta) σ H := fun H1 x Q => h H1 x _
/-! the figures -/
def cpB (x : Int) : Nat := if x = 1 then 49 else 48
theorem str_bit {x : Int} (h : x = 0 ∨ x = 1) : ((toString x : String) : Str) = Sg [cpB x] := by
  rcases h with e | e <;> subst e <;> decide +kernel
def figS (l : List Int) : Str := Sg (l.map cpB)
theorem joinL_nil : ∀ ys : List (List Nat), TL.joinL [] ys = ys.flatten
  | [] => rfl
  | [p] => by simp [TL.joinL]
  | p :: q :: r => by
    show p ++ ([] ++ TL.joinL [] (q :: r)) = _
    rw [joinL_nil (q :: r)]
    rfl
theorem join_figs (l : List Int) : Txt.join (Sg []) (l.map fun x => Sg [cpB x]) = figS l := by
  have := SX.join_S [] (l.map fun x => [cpB x])
  rw [List.map_map] at this
  refine this.trans ?_
  rw [joinL_nil]
  unfold figS
  congr 1
  induction l with
  | nil => rfl
  | cons x l ih => rw [List.map_cons, List.flatten_cons, List.map_cons, ih (SX.join_S [] _ |>.trans rfl |> fun h => by rw [List.map_map] at h; exact h)]; rfl
theorem figs_sum (l : List Int) : ((l.map fun x => Sg [cpB x]).map (·.length)).sum = l.length := by
  induction l with
  | nil => rfl
  | cons x l ih =>
    rw [List.map_cons, List.map_cons, List.sum_cons, ih, sg_len]
    simp
    omega
theorem str_nil : ((("" : String)) : Str) = Sg [] := by decide +kernel
theorem str_bar : ((("|" : String)) : Str) = Sg [124] := by decide +kernel
theorem str_01 : ((("01" : String)) : Str) = Sg [48, 49] := by decide +kernel
/-- the text of a form -/
def txtP (h b : List Int) : Str := Sg (h.map cpB ++ 124 :: b.map cpB)
theorem txt_cat (h b : List Int) : figS h ++ Sg [124] ++ figS b = txtP h b := by
  unfold figS txtP
  rw [sg_app, sg_app, List.append_assoc]
  rfl
/-- signs read -/
def bitC (c : Nat) : Int := if c = 49 then 1 else 0
def okC (l : List Nat) : Bool := l.all fun c => c == 48 || c == 49
theorem int_bit {c : Nat} (h : (c == 48 || c == 49) = true) : PySem.intText? ⟨#[c]⟩ = some (bitC c) := by
  rw [Bool.or_eq_true, beq_iff_eq, beq_iff_eq] at h
  rcases h with e | e <;> subst e <;> decide +kernel
theorem bitC_bits (l : List Nat) : Bits (l.map bitC) := fun x hx => by
  obtain ⟨c, _, e⟩ := List.mem_map.mp hx
  rw [← e]
  unfold bitC
  split
  · exact .inr rfl
  · exact .inl rfl
theorem bit_cp {x : Int} (h : x = 0 ∨ x = 1) : bitC (cpB x) = x := by rcases h with e | e <;> subst e <;> rfl
theorem cp_bit {c : Nat} (h : (c == 48 || c == 49) = true) : cpB (bitC c) = c := by
  rw [Bool.or_eq_true, beq_iff_eq, beq_iff_eq] at h
  rcases h with e | e <;> subst e <;> rfl
theorem bits_cp {l : List Int} (h : Bits l) : (l.map cpB).map bitC = l := by
  rw [List.map_map]
  conv => rhs; rw [← List.map_id l]
  exact List.map_congr_left fun x hx => bit_cp (h x hx)
theorem cp_bits {l : List Nat} (h : okC l = true) : (l.map bitC).map cpB = l := by
  rw [List.map_map]
  conv => rhs; rw [← List.map_id l]
  exact List.map_congr_left fun x hx => cp_bit (List.all_eq_true.mp h x hx)
theorem ok_cp (l : List Int) : okC (l.map cpB) = true := by
  unfold okC
  rw [List.all_map, List.all_eq_true]
  intro x _
  show ((cpB x == 48) || (cpB x == 49)) = true
  unfold cpB
  split <;> rfl
theorem no_bar {l : List Nat} (h : okC l = true) : 124 ∉ l := fun z => by
  have := List.all_eq_true.mp h 124 z
  revert this
  decide
def LtS (l : List Nat) : Prop := ∀ c ∈ l, c < 256
theorem shp_sg {l : List Nat} (h : LtS l) : SeqAt.shaped (.str (Sg l)) = true := by
  have e : PyData.strOk (Sg l) = true := by
    unfold PyData.strOk
    rw [← Array.all_toList, List.all_eq_true]
    intro c hc
    have := h c hc
    rw [decide_eq_true_eq]
    omega
  unfold SeqAt.shaped
  rw [PyData.canLay0, PyData.depth, e]
  rfl
theorem eqv_sg (a b : List Nat) : PyData.eqv (.str (Sg a)) (.str (Sg b)) = decide (a = b) := by
  show (Sg a == Sg b) = _
  rw [Bool.eq_iff_iff, beq_iff_eq, decide_eq_true_eq]
  exact ⟨sg_inj, fun e => by rw [e]⟩
theorem cpB_lt (x : Int) : cpB x < 256 := by unfold cpB; split <;> decide
def txtL (h b : List Int) : List Nat := h.map cpB ++ 124 :: b.map cpB
theorem txt_lt (h b : List Int) : LtS (txtL h b) := fun c hc => by
  rcases List.mem_append.mp hc with z | z
  · obtain ⟨x, _, e⟩ := List.mem_map.mp z
    rw [← e]; exact cpB_lt x
  · rcases List.mem_cons.mp z with e | z
    · omega
    · obtain ⟨x, _, e⟩ := List.mem_map.mp z
      rw [← e]; exact cpB_lt x
theorem ed_eqS {K : PySem.W.Frag} {σ : L2.St} {H : Hp} {ta tb : TE} {a b : List Nat} (ha : EvD K ta σ H (.str (Sg a))) (hb : EvD K tb σ H (.str (Sg b))) (h1 : LtS a) (h2 : LtS b) : EvD K (tOp (rEqD K) ta tb) σ H (.bool (decide (a = b))) := EvD.to (ed_eq ha hb (shp_sg h1) (shp_sg h2)) (by rw [eqv_sg])
/-! cut at a sign -/
def cutB (b : Nat) : List Nat → List (List Nat)
  | [] => [[]]
  | c :: r => if c = b then [] :: cutB b r else match cutB b r with
    | [] => [[c]]
    | p :: q => (c :: p) :: q
theorem cutB_ne (b : Nat) : ∀ l, cutB b l ≠ []
  | [] => by simp [cutB]
  | c :: r => by
    unfold cutB
    split
    · simp
    · split <;> simp
theorem spl_cut (b : Nat) : ∀ (l acc : List Nat), TL.spl [b] 0 acc l = (match cutB b l with | [] => [acc] | p :: q => (acc ++ p) :: q)
  | [], acc => by simp [TL.spl, cutB]
  | c :: r, acc => by
    unfold cutB
    by_cases h : c = b
    · subst h
      rw [if_pos rfl, TL.spl_hit (by simp [TL.pre])]
      show acc :: TL.spl [c] 0 [] r = _
      rw [spl_cut c r []]
      have := cutB_ne c r
      cases e : cutB c r with
      | nil => exact absurd e this
      | cons p q => simp
    · rw [if_neg h, TL.spl_miss (TL.pre_of_head _ _ h), spl_cut b r]
      have := cutB_ne b r
      cases e : cutB b r with
      | nil => exact absurd e this
      | cons p q => simp
theorem split_cut {b : Nat} (hb : b < 256) (l : List Nat) : Txt.split (Sg l) (Sg [b]) = (cutB b l).map Sg := by
  rw [SX.split_S (by simp) (by simpa using hb), spl_cut]
  have := cutB_ne b l
  cases e : cutB b l with
  | nil => exact absurd e this
  | cons p q => rfl
theorem cut_free {b : Nat} : ∀ {l : List Nat}, b ∉ l → cutB b l = [l]
  | [], _ => rfl
  | c :: r, h => by
    unfold cutB
    rw [if_neg fun e => h (by rw [e]; exact List.mem_cons_self), cut_free fun z => h (List.mem_cons_of_mem _ z)]
theorem cut_two {b : Nat} : ∀ {l m : List Nat}, b ∉ l → cutB b (l ++ b :: m) = l :: cutB b m
  | [], m, _ => by
    show cutB b (b :: m) = _
    conv => lhs; unfold cutB
    rw [if_pos rfl]
  | c :: r, m, h => by
    show cutB b (c :: (r ++ b :: m)) = _
    conv => lhs; unfold cutB
    rw [if_neg fun e => h (by rw [e]; exact List.mem_cons_self), cut_two fun z => h (List.mem_cons_of_mem _ z)]
theorem cut_parts {b : Nat} : ∀ {l p q : List Nat}, cutB b l = [p, q] → l = p ++ b :: q ∧ b ∉ p ∧ b ∉ q
  | [], p, q, h => by simp [cutB] at h
  | c :: r, p, q, h => by
    unfold cutB at h
    by_cases hc : c = b
    · subst hc
      rw [if_pos rfl] at h
      injection h with h1 h2
      subst h1
      have one : ∀ {m x : List Nat}, cutB c m = [x] → m = x ∧ c ∉ m := by
        intro m
        induction m with
        | nil => intro x h; simp [cutB] at h; subst h; simp
        | cons d m ih =>
          intro x h
          unfold cutB at h
          by_cases hd : d = c
          · rw [if_pos hd] at h
            injection h with _ h3
            exact absurd h3 (cutB_ne c m)
          · rw [if_neg hd] at h
            cases e : cutB c m with
            | nil => exact absurd e (cutB_ne c m)
            | cons y ys =>
              rw [e] at h
              injection h with h3 h4
              subst h4
              obtain ⟨e1, e2⟩ := ih e
              subst e1
              exact ⟨h3, fun z => (List.mem_cons.mp z).elim (fun e => hd e.symm) e2⟩
      obtain ⟨e1, e2⟩ := one h2
      subst e1
      exact ⟨rfl, by simp, e2⟩
    · rw [if_neg hc] at h
      cases e : cutB b r with
      | nil => exact absurd e (cutB_ne b r)
      | cons y ys =>
        rw [e] at h
        injection h with h3 h4
        subst h4
        obtain ⟨e1, e2, e3⟩ := cut_parts e
        subst h3
        exact ⟨by rw [e1]; rfl, fun z => (List.mem_cons.mp z).elim (fun e => hc e.symm) e2, e3⟩
/-! a text times a number; parts of a text; a sign of it -/
def rMulS : R2 := fun x y H Q => ∃ z n, x = .str z ∧ y = .int n ∧ MulOk z n ∧ Q (.str (Txt.mul z n)) H
theorem op_mulS {X : Cx} : OpR X (binaryOp .Mult) rMulS := by
  intro pins s σ H x y v u Q I rx ry h
  obtain ⟨z, n, rfl, rfl, hz, q⟩ := h
  obtain ⟨t, rfl⟩ := rx
  obtain ⟨t', rfl⟩ := ry
  exact SB.mul hz fun t' tk => ⟨.str _, H, I.tok _, ⟨_, rfl⟩, q⟩
def rMulXS (K : PySem.W.Frag) : R2 := fun x y H Q => rMulX K x y H Q ∨ rMulS x y H Q
theorem op_mulKS {X : Cx} {K : PySem.W.Frag} (e : X.K = K) : OpR X (binaryOp .Mult) (rMulXS K) := (op_mulK e).or op_mulS
def rSlXS (K : PySem.W.Frag) : V → Option Int → Option Int → Hp → VK → Prop := fun x lo hi H Q => rSlX K x lo hi H Q ∨ rSlS x lo hi H Q
theorem sl_KS {X : Cx} {K : PySem.W.Frag} (e : X.K = K) : SlR X (rSlXS K) := (sl_K e).or sl_str
theorem cutS_sg (l : List Nat) (lo hi : Option Int) : cutS (Sg l) lo hi = Sg (cutD l lo hi) := by
  unfold cutS cutD
  rw [sg_len]
section
variable {K : PySem.W.Frag} {σ : L2.St} {H : Hp} {ta tb te : TE}
theorem ed_mulS {z : Str} {n : Int} (ha : EvD K ta σ H (.str z)) (hb : EvD K tb σ H (.int n)) (h : MulOk z n) : EvD K (tOp (rMulXS K) ta tb) σ H (.str (Txt.mul z n)) := ed_op ha hb fun H1 _ v w hv hw Q q =>
  .inr ⟨z, n, dp_str hv, dp_int hw, h, q _ _ (Ex.refl H1) (.str _)⟩
theorem ed_slS {tl th : TO} {lo hi : Option Int} {l : List Nat} (h : EvD K te σ H (.str (Sg l))) (h1 : EvO tl σ H lo) (h2 : EvO th σ H hi) (hz : l.length ≤ 90000) : EvD K (tSl (rSlXS K) te tl th) σ H (.str (Sg (cutD l lo hi))) := fun H1 x Q q =>
  h H1 x _ fun v H2 x2 hv => h1 H2 (x.trans x2) _ fun H3 x3 => h2 H3 ((x.trans x2).trans x3) _ fun H4 x4 => by
    have ev := dp_str hv
    subst ev
    exact .inr ⟨_, rfl, sz_of (by rw [sg_len]; omega), by rw [cutS_sg]; exact q _ _ ((x2.trans x3).trans x4) (.str _)⟩
theorem ed_ixS {i : Int} {l : List Nat} {c : Nat} (ha : EvD K ta σ H (.str (Sg l))) (hb : EvD K tb σ H (.int i)) (h : atI l i = some c) (hz : l.length ≤ 90000) : EvD K (tOp (rIx K) ta tb) σ H (.str (Sg [c])) := ed_op ha hb fun H1 _ v w hv hw Q q => by
  have ev := dp_str hv
  have ew := dp_int hw
  subst ev
  subst ew
  exact .inr (.inr ⟨_, _, c, rfl, rfl, sz_of (by rw [sg_len]; omega), h, q _ _ (Ex.refl H1) (.str _)⟩)
end
/-! raise in a suite; a try whose suite raises -/
theorem px_raiseH {X : Cx} {W : WX} {x m : Str} {C : Addr} {j : Nat} {p p2 pos pos' : Pos} (h : ExcAt X.K X.mg x C) (hc : L2H.HotC X) (tk : L2.Takes X W) (hg : Gl X x) (hdb : (x == ("__debug__" : Str)) = false := by decide) :
    PS X (.Raise (some (.Call (.Name x p) [.Constant (.str m) j p2] [] pos)) none pos') (fun _ σ H => W (.ref C) none σ H) :=
  L2H.ps_raiseH hc tk (L2N.pmk_own PySem.F.excBase_ValueError h.x h.g h.k (raises_own h.b h.t) hg hdb)
/-- raise, where nothing is handled: what flies has no context -/
theorem px_raiseN {X : Cx} {W : WX} {x m : Str} {C : Addr} {j : Nat} {p p2 pos pos' : Pos} (h : ExcAt X.K X.mg x C) (hc : X.calm = true) (tk : L2N.Takes X W) (hg : Gl X x) (hdb : (x == ("__debug__" : Str)) = false := by decide) :
    PS X (.Raise (some (.Call (.Name x p) [.Constant (.str m) j p2] [] pos)) none pos') (fun _ σ H => W (.ref C) none σ H) :=
  L2N.ps_raise hc tk (L2N.pmk_own PySem.F.excBase_ValueError h.x h.g h.k (raises_own h.b h.t) hg hdb)
section
variable {P : Program} {w : World} {K : PySem.W.Frag} {mg : Str → Option Value} {base : Heap}
theorem okXN {x qual : Str} {st : Stmt} {f : Addr} {fd : FuncData} {N ps : List Str} {k : Nat} {sp : Sp} (F : L2.Fun K x qual st f fd) (S : FnScope N ps (defScope st)) (len : ∀ vs H Q E, sp vs H Q E → vs.length = ps.length)
    (hbody : ∀ (cdv : Value) (A : Around) (outer : List Env) (s : Shared) (H : Hp) (vs : List V) (Q : VK) (E : XK), Room k (A.deeper (envOfC qual (defScope st) s.heap.objs.size f cdv)) → sp vs H Q E →
      ∃ t, PSs (cxOf (L2N.CX P w) P w K mg base N qual (defScope st) f cdv A outer s H E) (defBody st) t ∧ t { nx := fun _ H' => Q .non H', rt := Q } (start N vs) H) : FnOk P w K mg base (L2N.CX P w) (k + 1) f fd ps sp := by
  obtain ⟨oc, od, kV, doc, pm, an, cdv, ct, osl, rfl, lk, hcd⟩ := F.ex
  exact fn_of lk hcd S len fun A outer s H vs Q E hr hsp => hbody cdv A outer s H vs Q E hr hsp
theorem can_XN {x : Str} {st : Stmt} {N ps : List Str} {k : Nat} {γ : Type} {args : γ → List PD} {side : γ → Prop} {res : γ → Except Addr PD} (F : Dfn K mg x st ps) (S : FnScope N ps (defScope st)) (len : ∀ g, (args g).length = ps.length)
    (hbody : ∀ (cdv : Value) (A : Around) (outer : List Env) (s : Shared) (H : Hp) (vs : List V) (Q : VK) (E : XK) (f : Addr) (g : γ), Room k (A.deeper (envOfC x (defScope st) s.heap.objs.size f cdv)) → DpAll K H vs (args g) → side g → Out K H Q E (res g) →
      ∃ t, PSs (cxOf (L2N.CX P w) P w K mg base N x (defScope st) f cdv A outer s H E) (defBody st) t ∧ t { nx := fun _ H' => Q .non H', rt := Q } (start N vs) H) : Can P w K mg base (L2N.CX P w) (k + 1) x (SpX K args side res) := by
  obtain ⟨f, fd, F, hm, b⟩ := F.ex
  exact ⟨f, fd, ps, okXN F S (fun vs H Q E ⟨g, hv, _⟩ => (dpa_len hv).trans (len g)) (fun cdv A outer s H vs Q E hr ⟨g, hv, hs, q⟩ => hbody cdv A outer s H vs Q E f g hr hv hs q), hm, F.kp, b⟩
end
section
variable {X : Cx} {k j : Nat} {x : Str} {p pos : Pos} {e : Expr} {es : List Expr} {t : TA} {sp : Sp}
theorem pcXN {E : XK} (c : Can X.prog X.w X.K X.mg X.base (L2N.CX X.prog X.w) k x sp) (hr : Room j X.A) (hk : k ≤ j) (hg : Gl X x) (hx : Passes (L2N.CX X.prog X.w) X E) (ha : PA X (e :: es) t)
    (hdb : (x == ("__debug__" : Str)) = false := by decide) (he : starEach (e :: es) X.env = (false, eval e X.env) :: starEach es X.env := by rfl) (hpl : (backTo pos (starEach es X.env)).any (·.1) = false := by rfl) :
    PE X (.Call (.Name x p) (e :: es) [] pos) (tCall sp [] E t) := by
  obtain ⟨f, fd, ps, F, hm, kp, b⟩ := c.ex
  exact pe_call F (hr.mono hk) hg hm kp b .nil hx ha hdb he hpl
theorem pcSN {W : WX} (c : Can X.prog X.w X.K X.mg X.base (L2N.CX X.prog X.w) k x sp) (hr : Room j X.A) (hk : k ≤ j) (hg : Gl X x) (tk : L2N.Takes X W) (ha : PA X (e :: es) t)
    (hdb : (x == ("__debug__" : Str)) = false := by decide) (he : starEach (e :: es) X.env = (false, eval e X.env) :: starEach es X.env := by rfl) (hpl : (backTo pos (starEach es X.env)).any (·.1) = false := by rfl) :
    PE X (.Call (.Name x p) (e :: es) [] pos) (tCallS sp (WE W) t) := by
  obtain ⟨f, fd, ps, F, hm, kp, b⟩ := c.ex
  exact pe_callS F (hr.mono hk) hg hm kp b (fun σ => L2N.passAt tk σ) ha hdb he hpl
end
end Pb

namespace Pb
open PySem PySem.Spec PyProof.Rows L2 Evn
variable [Evn.Tbs]
local macro_rules | `(tactic| walk_at "dp") => `(tactic| first | exact .int _ | exact .bl _ | exact .non | exact .str _ | (with_reducible assumption) | ((with_reducible refine dp_ex (by assumption) ?_); walk_at "dp"))
local macro_rules | `(tactic| walk_at "shp") => `(tactic| first | rfl | exact shp_L _ | exact shp_T _ | exact shp_pul _ _)
local macro_rules | `(tactic| walk_at "om") => `(tactic| first | omega | (simp only [List.length_map, List.length_append, List.length_replicate, List.length_range, List.length_cons, List.length_nil]; omega))
local macro_rules | `(tactic| walk_at "at") => `(tactic| first | rfl | assumption | (refine at_intsI ?_ ?_ <;> walk_at "om"))
local macro_rules | `(tactic| walk_at "sd") => `(tactic| first | assumption | walk_at "om" | trivial | decide | (refine ⟨?_, ?_⟩ <;> walk_at "sd"))
local macro_rules | `(tactic| walk_at "ed") => `(tactic| first
  | (with_reducible exact ed_cint) | (with_reducible exact ed_cbl) | (with_reducible exact ed_cstr) | (with_reducible exact ed_cnon)
  | ((with_reducible apply ed_var); (· exact rfl); walk_at "dp")
  | ((with_reducible apply ed_add) <;> walk_at "ed")
  | ((with_reducible apply ed_sub) <;> walk_at "ed")
  | ((with_reducible apply ed_mod) <;> walk_at "ed")
  | ((with_reducible apply ed_fdiv) <;> walk_at "ed")
  | ((with_reducible apply ed_mul) <;> walk_at "ed")
  | ((with_reducible apply ed_pow) <;> walk_at "ed")
  | ((with_reducible apply ed_lt) <;> walk_at "ed")
  | ((with_reducible apply ed_le) <;> walk_at "ed")
  | ((with_reducible apply ed_gt) <;> walk_at "ed")
  | ((with_reducible apply ed_ge) <;> walk_at "ed")
  | ((with_reducible apply ed_eqI) <;> walk_at "ed")
  | ((with_reducible apply ed_neI) <;> walk_at "ed")
  | ((with_reducible apply ed_eqB) <;> walk_at "ed")
  | ((with_reducible apply ed_neB) <;> walk_at "ed")
  | ((with_reducible apply ed_eq) <;> walk_at "ed")
  | ((with_reducible apply ed_ne) <;> walk_at "ed")
  | ((with_reducible apply ed_lenT) <;> walk_at "ed")
  | ((with_reducible apply ed_lenL) <;> walk_at "ed")
  | ((with_reducible apply ed_neg) <;> walk_at "ed")
  | ((with_reducible apply ed_isN) <;> walk_at "ed")
  | ((with_reducible apply ed_notN) <;> walk_at "ed")
  | ((with_reducible apply ed_isB) <;> walk_at "ed")
  | ((with_reducible apply ed_max2) <;> walk_at "ed")
  | ((with_reducible apply ed_min2) <;> walk_at "ed")
  | ((with_reducible apply ed_intB') <;> walk_at "ed")
  | ((with_reducible apply ed_intI') <;> walk_at "ed")
  | ((with_reducible apply ed_not) <;> walk_at "ed")
  | ((with_reducible apply ed_isInt) <;> walk_at "ed")
  | ((with_reducible apply ed_isBool) <;> walk_at "ed")
  | ((with_reducible apply ed_isTup) <;> walk_at "ed")
  | ((with_reducible apply ed_isLst) <;> walk_at "ed")
  | ((with_reducible apply ed_isStr) <;> walk_at "ed")
  | ((with_reducible apply ed_slTK) <;> walk_at "ed")
  | ((with_reducible apply ed_slLK) <;> walk_at "ed")
  | ((with_reducible apply ed_tupT) <;> walk_at "ed")
  | ((with_reducible apply ed_tupL) <;> walk_at "ed")
  | ((with_reducible apply ed_listT) <;> walk_at "ed")
  | ((with_reducible apply ed_listL) <;> walk_at "ed")
  | ((with_reducible apply ed_tup) <;> walk_at "ed")
  | ((with_reducible apply ed_lst) <;> walk_at "ed")
  | ((with_reducible apply ed_ixT) <;> walk_at "ed")
  | ((with_reducible apply ed_ixL) <;> walk_at "ed")
  | (with_reducible exact eds_nil)
  | ((with_reducible apply eds_cons) <;> walk_at "ed")
  | (with_reducible exact eok_none)
  | ((with_reducible apply eok_int) <;> walk_at "ed")
  | ((with_reducible show (0 : Int) < _); try (first | walk_at "om" | decide))
  | ((with_reducible show CDiv _ _); try (refine cdiv_of ?_ ?_ <;> walk_at "om"))
  | ((with_reducible show CMul _ _); try (first | (refine cmul_l ?_ ?_ <;> walk_at "om") | (refine cmul_r ?_ ?_ <;> walk_at "om")))
  | ((with_reducible show CPow _ _); try (refine ⟨?_, ?_, ?_⟩ <;> decide))
  | ((with_reducible show SeqAt.shaped _ = true); try walk_at "shp")
  | ((with_reducible show atI _ _ = some _); walk_at "at")
  | ((with_reducible show _ ≤ (100000 : Nat)); try (first | (simp; done) | walk_at "om"))
  | ((fail_if_success (with_reducible show EvD _ _ _ _ _)); (fail_if_success (with_reducible show EvDs _ _ _ _ _)); (fail_if_success (with_reducible show EvOK _ _ _ _ _)); walk_at "sd"))

def topS (i : Nat) : Stmt := PySem.Challenge.pw_pulsebook_k21_spoilt_texts.main.body.getD i (.Pass ⟨0, 0, 0, 0⟩)
section
variable {P : Program} {w : World} {K : PySem.W.Frag} {mg : Str → Option Value} {base : Heap}
/-! ### is_within -/
abbrev s_is_within : Stmt := topS 6
theorem sc_is_within : FnScope ["thing", "low", "high"] ["thing", "low", "high"] (defScope s_is_within) := ⟨rfl, rfl, rfl, by decide +kernel, rfl, by decide +kernel, by decide +kernel⟩
def sp_is_within (K : PySem.W.Frag) : Sp := SpD K (fun g : PD × Int × Int => [g.1, .int g.2.1, .int g.2.2]) (fun _ => True) (fun g => .bool (inW g.1 g.2.1 g.2.2))
theorem ed_is_within {σ : L2.St} {H : Hp} {ta tb tc : TE} {E : XK} {d : PD} {lo hi : Int} (ha : EvD K ta σ H d) (hb : EvD K tb σ H (.int lo)) (hc : EvD K tc σ H (.int hi)) : EvD K (tCall (sp_is_within K) [] E (tCons ta (tCons tb (tCons tc tNil)))) σ H (.bool (inW d lo hi)) :=
  ed_callD (d, lo, hi) (eds_cons ha (eds_cons hb (eds_cons hc eds_nil))) trivial
local macro_rules | `(tactic| walk_at "ed") => `(tactic| ((with_reducible apply ed_is_within) <;> walk_at "ed"))
theorem can_is_within (F : Dfn K mg "is_within" s_is_within ["thing", "low", "high"]) (bt : Bt mg) : Can P w K mg base CX0 1 "is_within" (sp_is_within K) := by
  refine can_D F sc_is_within (fun g => rfl) (fun cdv A outer s H vs Q E f g hr hv hs q => ⟨_, ((pss_one (ps_ret (pe_and (pe_callB (call_isiK' (K := K) rfl) (by rfl) bt.isinstance (by decide +kernel) (pa_cons (pv 0) (pa_cons (pe_bltn (v := .ty "int") (by rfl) bt.int (by decide +kernel) rfl) pa_nil))) (pe_and (pe_not (pe_callB (call_isiK' (K := K) rfl) (by rfl) bt.isinstance (by decide +kernel) (pa_cons (pv 0) (pa_cons (pe_bltn (v := .ty "bool") (by rfl) bt.bool (by decide +kernel) rfl) pa_nil)))) (pe_one (pe_chain op_le op_le (pv 1) (pv 0) (pv 2)))))))), ?_⟩)
  try dsimp only [L2.cxOf, L2.Cx.nox, L2.Cx.wish]
  obtain ⟨d, lo, hi⟩ := g
  dsimp only at hv hs q
  obtain ⟨v0, v1, v2, rfl, h0, h1, h2⟩ := dpa3 hv
  have e1 := dp_int h1
  have e2 := dp_int h2
  subst e1 e2
  have key : isInt d = true → isBool d = false → ∃ i, d = .int i := by cases d <;> simp [isInt, isBool]
  refine sd_ret (K := K) (EvD.to (ed_and (b := inW d lo hi) (ed_isInt (ed_var rfl h0)) fun z => EvD.to (ed_and (b := inW d lo hi) (ed_not (ed_isBool (ed_var rfl h0))) fun z2 => ?_) ?_) ?_) fun v H3 x3 hv => q v H3 x3 hv
  · obtain ⟨i, e⟩ := key z (by simpa using z2)
    subst e
    have e0 := dp_int h0
    subst e0
    exact EvD.to (ed_chain (p := fun i j => decide (i ≤ j)) (q := fun i j => decide (i ≤ j)) (by walk_at "ed") (by walk_at "ed") fun _ => (by walk_at "ed")) rfl
  · cases d <;> rfl
  · cases d <;> rfl
/-! ### shortest_bar -/
abbrev s_shortest_bar : Stmt := topS 12
theorem sc_shortest_bar : FnScope ["bar", "size"] ["bar"] (defScope s_shortest_bar) := ⟨rfl, rfl, rfl, by decide +kernel, rfl, by decide +kernel, by decide +kernel⟩
def sp_shortest_bar (K : PySem.W.Frag) : Sp := SpD K (fun b : List Int => [.tuple (b.map .int)]) (fun b => b ≠ [] ∧ b.length ≤ 90000) (fun b => .tuple ((b.take (per b)).map .int))
theorem ed_shortest_bar {σ : L2.St} {H : Hp} {ta : TE} {E : XK} {b : List Int} (ha : EvD K ta σ H (.tuple (b.map .int))) (hs : b ≠ [] ∧ b.length ≤ 90000) : EvD K (tCall (sp_shortest_bar K) [] E (tCons ta tNil)) σ H (.tuple ((b.take (per b)).map .int)) :=
  ed_callD b (eds_cons ha eds_nil) hs
local macro_rules | `(tactic| walk_at "ed") => `(tactic| ((with_reducible apply ed_shortest_bar) <;> walk_at "ed"))
theorem can_shortest_bar (F : Dfn K mg "shortest_bar" s_shortest_bar ["bar"]) (bt : Bt mg) : Can P w K mg base CX0 1 "shortest_bar" (sp_shortest_bar K) := by
  refine can_D F sc_shortest_bar (fun g => rfl) (fun cdv A outer s H vs Q E f g hr hv hs q => ⟨_, ((pss_cons (ps_for PassesOwn.never rfl (pi_range2 (by rfl) bt.range (pa_cons pe_int (pa_cons (pe_op (op_addK (K := K) rfl) (pe_callB (call_lenK (K := K) rfl) (by rfl) bt.len (by decide +kernel) (pa_cons (pv 0) pa_nil)) pe_int) pa_nil))) (pg_name (i := 1) sc_shortest_bar.nd rfl (Or.inl rfl)) (pss_one (ps_if (PW.pt (pw_and (pt_cmpR (op_eqDK (K := K) rfl hr.units) (pe_op op_mod (pe_callB (call_lenK (K := K) rfl) (by rfl) bt.len (by decide +kernel) (pa_cons (pv 0) pa_nil)) (pv 1)) pe_int (nomark _)) (pw_and1 (pt_cmpR (op_eqDK (K := K) rfl hr.units) (pe_op (op_mulK (K := K) rfl) (pe_slice (sl_K (K := K) rfl) (pv 0) po_none (po_some (pv 1))) (pe_op op_fdiv (pe_callB (call_lenK (K := K) rfl) (by rfl) bt.len (by decide +kernel) (pa_cons (pv 0) pa_nil)) (pv 1))) (pv 0) (nomark _))))) (pss_one (ps_ret (pe_slice (sl_K (K := K) rfl) (pv 0) po_none (po_some (pv 1))))) pss_nil)))
  (pss_one (ps_ret (pv 0))))), ?_⟩)
  try dsimp only [L2.cxOf, L2.Cx.nox, L2.Cx.wish]
  try dsimp only at hv hs q
  obtain ⟨hb, hl⟩ := hs
  obtain ⟨v0, rfl, h0⟩ := dpa1 hv
  have hb0 : 0 < g.length := List.length_pos_iff.mpr hb
  obtain ⟨p1, p2, p3, p4⟩ := per_spec hb
  refine q_forJ (K := K) (Hb := H) (Ex.refl H) (ej_rng2 (K := K) (i := 1) (j := (g.length : Int) + 1) (EvDs.to (by walk_at "ed") (by simp)) ⟨by omega, by omega⟩) (fun i σ' H' => ∃ y, σ' = [some v0, y] ∧ Ex H H' ∧ ∀ t, 1 ≤ t → t < i + 1 → perOk g t = false)
    (fun H2 x2 => ⟨none, rfl, x2, fun d _ hd => absurd hd (by omega)⟩) (fun i σ' H' ⟨_, _, x, _⟩ => x) (fun i x σ' H' Hy hi ⟨y, e, x2, hp⟩ x3 hx => ?_) (fun σ' H' ⟨y, e, x2, hp⟩ => ?_)
  · subst e
    have es : (1 : Int) + (i : Int) = ((i + 1 : Nat) : Int) := by omega
    rw [es] at hx
    have ex := dp_int hx
    subst ex
    have x4 := x2.trans x3
    obtain ⟨s, hs⟩ : ∃ s, s = i + 1 := ⟨_, rfl⟩
    rw [← hs]
    have sle : s ≤ g.length := by omega
    have hd1 : (s : Int) < 1073741824 := by omega
    have k1 : 1 ≤ (g.length : Int) / (s : Int) := by
      rw [← Int.natCast_ediv]
      have := Nat.div_pos sle (by omega)
      omega
    have dv : Dp K Hy v0 (.tuple (g.map .int)) := dp_ex x4 h0
    have e3 : g.map PyData.int ≠ [] := by simpa using hb
    have nc : cutD (g.map PyData.int) none (some (s : Int)) ≠ [] := by
      rw [cutD_to]
      intro e
      have := congrArg List.length e
      rw [List.length_take, List.length_map, List.length_nil] at this
      omega
    have eb : (List.replicate ((g.length : Int) / (s : Int)).toNat (cutD (g.map PyData.int) none (some (s : Int)))).flatten = ((List.replicate (g.length / s) (g.take s)).flatten).map PyData.int := by
      rw [cutD_to, ← Int.natCast_ediv, Int.toNat_natCast]
      simp [List.map_flatten, List.map_replicate, List.map_take]
    have hz : (cutD (g.map PyData.int) none (some (s : Int))).length * ((g.length : Int) / (s : Int)).toNat ≤ 100000 := by
      rw [cutD_to, ← Int.natCast_ediv, Int.toNat_natCast, List.length_take, List.length_map, Nat.min_eq_left (by omega), Nat.mul_comm]
      have := Nat.div_mul_le_self g.length s
      omega
    refine s_when (EvT.to (et_and (et_tst (K := K) (ed_eqI (ed_mod (i := (g.length : Int)) (j := (s : Int)) (EvD.to (ed_lenT (ed_var rfl dv)) (by simp)) (ed_var rfl (.int _)) (by omega)) ed_cint)) fun _ => et_tst (K := K) (ed_eq (EvD.to (ed_repT (ed_slT (ed_var rfl dv) eo_none (eo_int (K := K) (ed_var rfl (.int (s : Int))))) (ed_fdiv (i := (g.length : Int)) (j := (s : Int)) (EvD.to (ed_lenT (ed_var rfl dv)) (by simp)) (ed_var rfl (.int _)) (cdiv_of (by omega) hd1)) nc k1 hz) (by rw [eb])) (ed_var rfl dv) (shp_T _) (shp_T _))) (c := perOk g s) ?_) (fun hb H3 x5 => ?_) (fun hb H3 x5 => ⟨_, rfl, x4.trans x5, fun t h1 h2 => ?_⟩)
    · rw [eqv_T]
      unfold perOk
      congr 1
      rw [← Int.natCast_emod]
      cases hm : g.length % s with
      | zero => simp
      | succ k => simp; omega
    · have ep : s = per g := by
        rcases Nat.lt_or_ge s (per g) with hh | hh
        · rw [p4 s (by omega) hh] at hb
          cases hb
        · rcases Nat.lt_or_ge (per g) s with hh2 | hh2
          · rw [hp (per g) p2 (by omega)] at p1
            cases p1
          · omega
      refine sd_ret (K := K) (EvD.to (ed_slT (ed_var rfl (dp_ex x5 dv)) eo_none (eo_int (K := K) (ed_var rfl (.int (s : Int))))) (by rw [cutD_to, ep, List.map_take])) fun v H4 x6 hv => q v H4 ((x4.trans x5).trans x6) hv
    · by_cases e : t = s
      · rw [e]; exact hb
      · exact hp t h1 (by omega)
  · have := hp g.length (by omega) (by omega)
    rw [perOk_self hb] at this
    cases this
/-! ### bits_read -/
abbrev s_bits_read : Stmt := topS 16
theorem sc_bits_read : FnScope ["text", "sign"] ["text"] (defScope s_bits_read) := ⟨rfl, rfl, rfl, by decide +kernel, rfl, by decide +kernel, by decide +kernel⟩
def bitsR (C : Addr) (l : List Nat) : Except Addr PD := if okC l = true then .ok (.tuple ((l.map bitC).map .int)) else .error C
def sp_bits_read (K : PySem.W.Frag) (C_BadText : Addr) : Sp := SpX K (fun l : List Nat => [.str (Sg l)]) (fun l => l.length ≤ 90000) (fun l => bitsR C_BadText l)
theorem ed_bits_read {σ : L2.St} {H : Hp} {ta : TE} {E : XK} {l : List Nat} {C_BadText : Addr} (ha : EvD K ta σ H (.str (Sg l))) (hs : l.length ≤ 90000) (ho : okC l = true) : EvD K (tCall (sp_bits_read K C_BadText) [] E (tCons ta tNil)) σ H (.tuple ((l.map bitC).map .int)) :=
  ed_callX l (eds_cons ha eds_nil) hs (if_pos ho)
theorem er_bits_read {σ : L2.St} {H : Hp} {ta : TE} {E : XK} {l : List Nat} {C_BadText : Addr} (ha : EvD K ta σ H (.str (Sg l))) (hs : l.length ≤ 90000) (ho : okC l = false) (k : ∀ H2, Ex H H2 → E (.ref C_BadText) none H2) : EvR (tCall (sp_bits_read K C_BadText) [] E (tCons ta tNil)) σ H :=
  er_callX l (eds_cons ha eds_nil) hs (if_neg (by rw [ho]; decide)) k
theorem sg_cps (l : List Nat) : (Sg l).cps.toList = l := rfl
theorem sg_size (l : List Nat) : (Sg l).cps.size = l.length := by simp [Sg, SX.S]
theorem okC_getD {l : List Nat} : okC l = true ↔ ∀ i, i < l.length → (l.getD i 0 == 48 || l.getD i 0 == 49) = true := by
  unfold okC
  rw [List.all_eq_true]
  constructor
  · intro h i hi
    rw [List.getD_eq_getElem?_getD, List.getElem?_eq_getElem hi]
    exact h _ (List.getElem_mem hi)
  · intro h x hx
    obtain ⟨i, hi, e⟩ := List.getElem_of_mem hx
    have := h i hi
    rw [List.getD_eq_getElem?_getD, List.getElem?_eq_getElem hi] at this
    rw [← e]
    exact this
theorem mem01 (c : Nat) : decide (c ∈ (Sg [48, 49]).cps.toList) = (c == 48 || c == 49) := by
  rw [sg_cps, Bool.eq_iff_iff, decide_eq_true_eq, Bool.or_eq_true, beq_iff_eq, beq_iff_eq]
  simp
/-- the form that a text writes -/
def formT (l : List Nat) : Option (List Int × List Int) := match cutB 124 l with
  | [a, b] => if okC a = true ∧ okC b = true then some (a.map bitC, b.map bitC) else none
  | _ => none
local macro_rules | `(tactic| walk_at "ed") => `(tactic| ((with_reducible apply ed_bits_read) <;> walk_at "ed"))
theorem can_bits_read {C_BadText : Addr} (F : Dfn K mg "bits_read" s_bits_read ["text"]) (bt : Bt mg) (x_BadText : ExcAt K mg "BadText" C_BadText) : Can P w K mg base (L2.CX P w) 1 "bits_read" (sp_bits_read K C_BadText) := by
  refine can_X F sc_bits_read (fun g => rfl) (fun cdv A outer s H vs Q E f g hr hv hs q => ⟨_, ((pss_cons (ps_for (passes_of rfl) rfl (pi_seqK (K := K) rfl (pv 0)) (pg_name (i := 1) sc_bits_read.nd rfl (Or.inl rfl)) (pss_one (ps_if (pt_cmpR (op_notInK (K := K) rfl) (pv 1) pe_str rfl) (pss_one (px_raise x_BadText rfl (takes_of rfl rfl rfl rfl) rfl)) pss_nil)))
  (pss_one (ps_ret (pe_callTy (call_tupleK (K := K) rfl) (by rfl) bt.tuple (by decide +kernel) (pa_cons (pe_lc (own := [("sign", 1)]) rfl sc_bits_read.nd (pi_seqK (K := K) rfl (pv 0)) (blkOk_by (N := ["text", "sign"]) (sc := defScope s_bits_read) (by decide +kernel)) (fun _ _ _ _ _ => (pg_name (i := 1) sc_bits_read.nd rfl (Or.inl rfl))) (fun _ _ _ _ _ => pts_nil) (fun _ _ _ _ _ => (pe_callTy call_intX (by rfl) bt.int (by decide +kernel) (pa_cons (pv 1) pa_nil)))) pa_nil)))))), ?_⟩)
  try dsimp only [L2.cxOf, L2.Cx.nox, L2.Cx.wish]
  try dsimp only at hv hs q
  obtain ⟨v0, rfl, h0⟩ := dpa1 hv
  have e0 := dp_str h0
  subst e0
  have sz := sg_size g
  have tx : ∀ {H' : Hp} {y : Option V}, EvD K (tVar 0) [some (.str (Sg g)), y] H' (.str (Sg g)) := fun {H' y} => ed_var rfl (.str _)
  refine q_forI (K := K) (EvI.or (EvI.or (ei_str (K := K) (ed_var rfl (.str (Sg g)))))) (fun Hb i σ' H' => ∃ z, σ' = [some (.str (Sg g)), z] ∧ Ex H Hb ∧ Ex Hb H' ∧ ∀ k, k < i → (g.getD k 0 == 48 || g.getD k 0 == 49) = true)
    (fun H1 x1 => ⟨none, rfl, x1, Ex.refl _, fun d hd => absurd hd (by omega)⟩) (fun Hb i σ' H' ⟨_, _, _, x, _⟩ => x) (fun Hb i x σ' H' Hy hi xb ⟨z, e, _, x5, hp⟩ x6 hx => ?_) (fun Hb σ' H' xb ⟨z, e, _, x5, hp⟩ => ?_)
  · subst e
    rw [sg_cps] at hx
    refine gn ?_
    show tIfS _ _ tNext _ _ _
    refine s_when (EvT.to (et_tst (K := K) (ed_notInS (ed_var rfl hx) (EvD.to ed_cstr (by rw [show ((("01" : String)) : Str) = Sg [48, 49] from str_01])))) (c := !(g.getD i 0 == 48 || g.getD i 0 == 49)) (by rw [mem01])) (fun c H4 x8 => ?_) (fun c H4 x8 => ⟨_, rfl, xb, (x5.trans x6).trans x8, fun d hd => ?_⟩)
    · refine q.er (if_neg fun z => ?_) _ ((xb.trans x5).trans (x6.trans x8))
      have := okC_getD.mp z i (by omega)
      rw [this] at c
      cases c
    · by_cases e : d = i
      · subst e
        simpa only [Bool.not_eq_false'] using c
      · exact hp d (by omega)
  · subst e
    rw [sz] at hp
    have ok : okC g = true := okC_getD.mpr hp
    have comp := en_lc1 (K := K) (σ := [some (.str (Sg g)), z]) (H := H') (j := 1) (vs := [1]) (te := tCB rIntX (tCons (tVar 1) tNil)) (fun i : Nat => .int (bitC (g.getD i 0))) (EvI.or (wj := iList K (tVar 0)) (EvI.or (wj := iTup K (tVar 0)) (ei_str (K := K) (ed_var (i := 0) rfl (.str (Sg g)))))) (by omega) (fun _ _ => rfl) (fun _ => rfl) (fun i x H9 hi x9 hx => by
      rw [sg_cps] at hx
      exact ed_intS (ed_var rfl hx) (int_bit (hp i (by omega))) (by show 1 ≤ 640; decide))
    have el : (List.range (Sg g).cps.size).map (fun i : Nat => PyData.int (bitC (g.getD i 0))) = (g.map bitC).map .int := by
      rw [sz]
      apply List.ext_getElem
      · simp
      · intro i h1 h2
        have hi : i < g.length := by simpa using h1
        simp [List.getD_eq_getElem?_getD, List.getElem?_eq_getElem hi]
    refine sd_ret (K := K) (EvD.to (ed_tupL comp.toD) (by rw [el])) fun v H9 x9 hv => q.ok (if_pos ok) v H9 ((xb.trans x5).trans x9) hv
/-! ### _law_cell -/
abbrev s_law_cell : Stmt := topS 19
theorem sc_law_cell : FnScope ["_law_script", "_law_k"] ["_law_script", "_law_k"] (defScope s_law_cell) := ⟨rfl, rfl, rfl, by decide +kernel, rfl, by decide +kernel, by decide +kernel⟩
def sp_law_cell (K : PySem.W.Frag) : Sp := SpD K (fun g : List Int × Nat => [.list (g.1.map .int), .int g.2]) (fun _ => True) (fun g => .int (cellM g.1 g.2))
theorem ed_law_cell {σ : L2.St} {H : Hp} {ta tb : TE} {E : XK} {ns : List Int} {k : Int} (ha : EvD K ta σ H (.list (ns.map .int))) (hb : EvD K tb σ H (.int k)) (hk : 0 ≤ k) : EvD K (tCall (sp_law_cell K) [] E (tCons ta (tCons tb tNil))) σ H (.int (cellM ns k.toNat)) :=
  ed_callD (ns, k.toNat) (eds_cons ha (eds_cons (hb.to (by simp [Int.toNat_of_nonneg hk])) eds_nil)) trivial
local macro_rules | `(tactic| walk_at "ed") => `(tactic| ((with_reducible apply ed_law_cell) <;> walk_at "ed"))
theorem can_law_cell (F : Dfn K mg "_law_cell" s_law_cell ["_law_script", "_law_k"]) (bt : Bt mg) : Can P w K mg base CX0 1 "_law_cell" (sp_law_cell K) := by
  refine can_D F sc_law_cell (fun g => rfl) (fun cdv A outer s H vs Q E f g hr hv hs q => ⟨_, ((pss_cons (ps_if (pt_cmpR op_lt (pv 1) (pe_callB (call_lenK (K := K) rfl) (by rfl) bt.len (by decide +kernel) (pa_cons (pv 0) pa_nil)) (nomark _)) (pss_one (ps_ret (pe_ix (ix_K (K := K) rfl) (pv 0) (pv 1) (fun _ _ => rfl)))) pss_nil)
  (pss_one (ps_ret pe_int)))), ?_⟩)
  try dsimp only [L2.cxOf, L2.Cx.nox, L2.Cx.wish]
  obtain ⟨ns, k⟩ := g
  dsimp only at hv hs q
  obtain ⟨p, dd, rfl, hp, hd⟩ := dpa2 hv
  have e := dp_int hd
  subst e
  refine q_when (et_tst (K := K) (by walk_at "ed")) (fun c H2 x2 => ?_) (fun c H2 x2 => ?_)
  · have c' : (k : Int) < (ns.length : Int) := by simpa using c
    refine sd_ret (K := K) (EvD.to (by walk_at "ed") (by simp [cellM])) fun v H3 x3 hv => q v H3 (x2.trans x3) hv
  · have c' : ¬ (k : Int) < (ns.length : Int) := by simpa using c
    refine sd_ret (K := K) (EvD.to (by walk_at "ed") (by rw [cellM, List.getD_eq_getElem?_getD, List.getElem?_eq_none (by omega)]; rfl)) fun v H3 x3 hv => q v H3 (x2.trans x3) hv
/-! ### _law_mix -/
abbrev s_law_mix : Stmt := topS 20
theorem sc_law_mix : FnScope ["_law_cell_here", "_law_prime", "_law_many"] ["_law_cell_here", "_law_prime", "_law_many"] (defScope s_law_mix) := ⟨rfl, rfl, rfl, by decide +kernel, rfl, by decide +kernel, by decide +kernel⟩
def sp_law_mix (K : PySem.W.Frag) : Sp := SpD K (fun g : Int × Int × Int => [.int g.1, .int g.2.1, .int g.2.2]) (fun g => 0 < g.2.1 ∧ 0 < g.2.2) (fun g => .int (mixM g.1 g.2.1 g.2.2))
theorem ed_law_mix {σ : L2.St} {H : Hp} {ta tb tc : TE} {E : XK} {c p m : Int} (ha : EvD K ta σ H (.int c)) (hb : EvD K tb σ H (.int p)) (hc : EvD K tc σ H (.int m)) (hp : 0 < p) (hm : 0 < m) : EvD K (tCall (sp_law_mix K) [] E (tCons ta (tCons tb (tCons tc tNil)))) σ H (.int (mixM c p m)) :=
  ed_callD (c, p, m) (eds_cons ha (eds_cons hb (eds_cons hc eds_nil))) ⟨hp, hm⟩
local macro_rules | `(tactic| walk_at "ed") => `(tactic| ((with_reducible apply ed_law_mix) <;> walk_at "ed"))
theorem can_law_mix (F : Dfn K mg "_law_mix" s_law_mix ["_law_cell_here", "_law_prime", "_law_many"]) (bt : Bt mg) : Can P w K mg base CX0 1 "_law_mix" (sp_law_mix K) := by
  refine can_D F sc_law_mix (fun g => rfl) (fun cdv A outer s H vs Q E f g hr hv hs q => ⟨_, ((pss_one (ps_ret (pe_op op_mod (pe_op op_mod (pe_op (op_mulK (K := K) rfl) (pv 0) pe_int) (pv 1)) (pv 2))))), ?_⟩)
  try dsimp only [L2.cxOf, L2.Cx.nox, L2.Cx.wish]
  obtain ⟨c, p, m⟩ := g
  dsimp only at hv hs q
  obtain ⟨hp, hm⟩ := hs
  obtain ⟨a1, a2, a3, rfl, h1, h2, h3⟩ := dpa3 hv
  exact sd_ret (K := K) (EvD.to (by walk_at "ed") (by rfl)) fun v H3 x3 hv => q v H3 x3 hv
/-! ### _law_tight -/
abbrev s_law_tight : Stmt := topS 22
theorem sc_law_tight : FnScope ["_law_head", "_law_bar", "_law_size"] ["_law_head", "_law_bar"] (defScope s_law_tight) := ⟨rfl, rfl, rfl, by decide +kernel, rfl, by decide +kernel, by decide +kernel⟩
def sp_law_tight (K : PySem.W.Frag) : Sp := SpD K (fun g : (Bool × List Int) × Bool × List Int => [sq g.1.1 g.1.2, sq g.2.1 g.2.2]) (fun g => g.2.2 ≠ [] ∧ g.1.2.length ≤ 90000 ∧ g.2.2.length ≤ 90000) (fun g => pul (tightM g.1.2 g.2.2).1 (tightM g.1.2 g.2.2).2)
theorem ed_law_tightTT {σ : L2.St} {H : Hp} {ta tb : TE} {E : XK} {h b : List Int} (ha : EvD K ta σ H (.tuple (h.map .int))) (hb : EvD K tb σ H (.tuple (b.map .int))) (hs : b ≠ [] ∧ h.length ≤ 90000 ∧ b.length ≤ 90000) : EvD K (tCall (sp_law_tight K) [] E (tCons ta (tCons tb tNil))) σ H (pul (tightM h b).1 (tightM h b).2) :=
  ed_callD ((false, h), false, b) (eds_cons ha (eds_cons hb eds_nil)) hs
theorem ed_law_tightLL {σ : L2.St} {H : Hp} {ta tb : TE} {E : XK} {h b : List Int} (ha : EvD K ta σ H (.list (h.map .int))) (hb : EvD K tb σ H (.list (b.map .int))) (hs : b ≠ [] ∧ h.length ≤ 90000 ∧ b.length ≤ 90000) : EvD K (tCall (sp_law_tight K) [] E (tCons ta (tCons tb tNil))) σ H (pul (tightM h b).1 (tightM h b).2) :=
  ed_callD ((true, h), true, b) (eds_cons ha (eds_cons hb eds_nil)) hs
theorem ed_law_tightTL {σ : L2.St} {H : Hp} {ta tb : TE} {E : XK} {h b : List Int} (ha : EvD K ta σ H (.tuple (h.map .int))) (hb : EvD K tb σ H (.list (b.map .int))) (hs : b ≠ [] ∧ h.length ≤ 90000 ∧ b.length ≤ 90000) : EvD K (tCall (sp_law_tight K) [] E (tCons ta (tCons tb tNil))) σ H (pul (tightM h b).1 (tightM h b).2) :=
  ed_callD ((false, h), true, b) (eds_cons ha (eds_cons hb eds_nil)) hs
local macro_rules | `(tactic| walk_at "ed") => `(tactic| ((with_reducible apply ed_law_tightTT) <;> walk_at "ed"))
local macro_rules | `(tactic| walk_at "ed") => `(tactic| ((with_reducible apply ed_law_tightLL) <;> walk_at "ed"))
local macro_rules | `(tactic| walk_at "ed") => `(tactic| ((with_reducible apply ed_law_tightTL) <;> walk_at "ed"))
theorem can_law_tight (F : Dfn K mg "_law_tight" s_law_tight ["_law_head", "_law_bar"]) (bt : Bt mg) : Can P w K mg base CX0 1 "_law_tight" (sp_law_tight K) := by
  refine can_D F sc_law_tight (fun g => rfl) (fun cdv A outer s H vs Q E f g hr hv hs q => ⟨_, ((pss_cons (ps_set (i := 0) sc_law_tight.nd rfl (Or.inl rfl) (pe_callTy (call_listK (K := K) rfl) (by rfl) bt.list (by decide +kernel) (pa_cons (pv 0) pa_nil)))
  (pss_cons (ps_set (i := 1) sc_law_tight.nd rfl (Or.inl rfl) (pe_callTy (call_listK (K := K) rfl) (by rfl) bt.list (by decide +kernel) (pa_cons (pv 1) pa_nil)))
  (pss_cons (ps_set (i := 2) sc_law_tight.nd rfl (Or.inl rfl) pe_int)
  (pss_cons (ps_while PassesOwn.never (PW.pt (pw_or (pt_cmpR op_gt (pe_op op_mod (pe_callB (call_lenK (K := K) rfl) (by rfl) bt.len (by decide +kernel) (pa_cons (pv 1) pa_nil)) (pv 2)) pe_int (nomark _)) (pw_or1 (pt_cmpR (op_neDK (K := K) rfl hr.units) (pe_op (op_mulK (K := K) rfl) (pe_slice (sl_K (K := K) rfl) (pv 1) po_none (po_some (pv 2))) (pe_op op_fdiv (pe_callB (call_lenK (K := K) rfl) (by rfl) bt.len (by decide +kernel) (pa_cons (pv 1) pa_nil)) (pv 2))) (pv 1) (nomark _))))) (pss_one (ps_set (i := 2) sc_law_tight.nd rfl (Or.inl rfl) (pe_op (op_addK (K := K) rfl) (pv 2) pe_int))))
  (pss_cons (ps_set (i := 1) sc_law_tight.nd rfl (Or.inl rfl) (pe_slice (sl_K (K := K) rfl) (pv 1) po_none (po_some (pv 2))))
  (pss_cons (ps_while PassesOwn.never (PW.pt (pw_and (pt_truthK (K := K) rfl (pv 0) (fun _ => rfl)) (pw_and1 (pt_cmpR (op_eqDK (K := K) rfl hr.units) (pe_ix (ix_K (K := K) rfl) (pv 0) (pe_un un_neg pe_int) (fun _ _ => rfl)) (pe_ix (ix_K (K := K) rfl) (pv 1) (pe_un un_neg pe_int) (fun _ _ => rfl)) (nomark _))))) (pss_one (ps_set (i := 1) sc_law_tight.nd rfl (Or.inl rfl) (pe_op (op_addK (K := K) rfl) (pe_lst (pa_cons (pe_bm0K (K := K) rfl PySem.F.plainAttrs_list PySem.F.slot_list_pop PySem.F.type_list_pop mt_pop (pv 0)) pa_nil)) (pe_slice (sl_K (K := K) rfl) (pv 1) po_none (po_some (pe_un un_neg pe_int)))))))
  (pss_one (ps_ret (pe_tup (pa_cons (pe_callTy (call_tupleK (K := K) rfl) (by rfl) bt.tuple (by decide +kernel) (pa_cons (pv 0) pa_nil)) (pa_cons (pe_callTy (call_tupleK (K := K) rfl) (by rfl) bt.tuple (by decide +kernel) (pa_cons (pv 1) pa_nil)) pa_nil)))))))))))), ?_⟩)
  try dsimp only [L2.cxOf, L2.Cx.nox, L2.Cx.wish]
  obtain ⟨⟨t1, h⟩, t2, b⟩ := g
  dsimp only at hv hs q
  obtain ⟨hb, hl1, hl2⟩ := hs
  obtain ⟨v0, v1, rfl, h0, h1⟩ := dpa2 hv
  have hb0 : 0 < b.length := List.length_pos_iff.mpr hb
  have sqOr : ∀ {t : Bool} {l : List Int} {i : Nat} {v : V} {σ : L2.St} {H' : Hp}, σ[i]? = some (some v) → Dp K H' v (sq t l) → EvD K (tVar i) σ H' (.list (l.map .int)) ∨ EvD K (tVar i) σ H' (.tuple (l.map .int)) := by
    intro t l i v σ H' e hd
    cases t with
    | true => exact .inl (ed_var e hd)
    | false => exact .inr (ed_var e hd)
  -- head = list(head); bar = list(bar); size = 1
  refine qd_asgN (K := K) (en_listOf (sqOr rfl h0)) fun ph H1 xs nph x1 eph ha => ?_
  cases dpa_ints ha
  refine qd_asgN (K := K) (en_listOf (sqOr rfl (dp_ex x1 h1))) fun pb H2 xs npb x2 epb ha2 => ?_
  cases dpa_ints ha2
  refine qd_asgI (K := K) (by walk_at "ed") fun H3 x3 => ?_
  have e3b : H3 pb = some (.lst (b.map V.int)) := x3 _ _ epb
  have e3h : H3 ph = some (.lst (h.map V.int)) := x3 _ _ (x2 _ _ eph)
  obtain ⟨p1, p2, p3, p4⟩ := per_spec hb
  -- the first while
  refine q_while (fun m σ' H' => ∃ s : Nat, σ' = [some (.ref ph), some (.ref pb), some (.int (s : Int))] ∧ Ex H3 H' ∧ 1 ≤ s ∧ s ≤ per b ∧ m = per b - s) (per b - 1) ⟨1, rfl, Ex.refl _, Nat.le_refl _, p2, rfl⟩ (fun m σ' H' ⟨s, e, x4, s1, s2, em⟩ => ?_)
  subst e
  have db : Dp K H' (.ref pb) (.list (b.map .int)) := .lst (sq_of (x4 _ _ e3b)) dpa_of_ints
  have dh : Dp K H' (.ref ph) (.list (h.map .int)) := .lst (sq_of (x4 _ _ e3h)) dpa_of_ints
  have hd1 : (s : Int) < 1073741824 := by omega
  have kle : (b.length : Int) / (s : Int) ≤ (b.length : Int) := Int.ediv_le_self _ (by omega)
  have k0 : 0 ≤ (b.length : Int) / (s : Int) := Int.ediv_nonneg (by omega) (by omega)
  have eb : (List.replicate ((b.length : Int) / (s : Int)).toNat (cutD (b.map PyData.int) none (some (s : Int)))).flatten = ((List.replicate (b.length / s) (b.take s)).flatten).map PyData.int := by
    rw [cutD_to, ← Int.natCast_ediv, Int.toNat_natCast]
    simp [List.map_flatten, List.map_replicate, List.map_take]
  have hz : (cutD (b.map PyData.int) none (some (s : Int))).length * ((b.length : Int) / (s : Int)).toNat ≤ 100000 := by
    rw [cutD_to, ← Int.natCast_ediv, Int.toNat_natCast, List.length_take, List.length_map, Nat.min_eq_left (by omega), Nat.mul_comm]
    have := Nat.div_mul_le_self b.length s
    omega
  refine ⟨!perOk b s, ?_, fun hp H5 x5 => ?_, fun hp H5 x5 => ?_⟩
  · refine EvT.to (et_or (et_tst (K := K) (ed_gt (ed_mod (by walk_at "ed") (by walk_at "ed") (by omega)) ed_cint)) fun _ => et_tst (K := K) (ed_ne ((ed_repL (ed_slL (by walk_at "ed") eo_none (eo_int (K := K) (by walk_at "ed"))) (ed_fdiv (by walk_at "ed") (by walk_at "ed") (cdiv_of (by omega) hd1)) ⟨by simp; omega, by simp; omega⟩ (by simpa using hz)).to (by rw [List.length_map, eb])) (by walk_at "ed") (shp_L _) (shp_L _))) ?_
    rw [eqv_L, List.length_map]
    unfold perOk
    rw [Bool.not_and]
    congr 1
    rw [← Int.natCast_emod]
    cases hm : b.length % s with
    | zero => simp
    | succ k => simp
  · have hp' : perOk b s = false := by simpa using hp
    have hlt : s < per b := by
      rcases Nat.lt_or_ge s (per b) with hh | hh
      · exact hh
      · have e : s = per b := by omega
        rw [e, p1] at hp'
        cases hp'
    refine ⟨fun σ2 H2 => ∃ m', m' < m ∧ ∃ s : Nat, σ2 = [some (.ref ph), some (.ref pb), some (.int (s : Int))] ∧ Ex H3 H2 ∧ 1 ≤ s ∧ s ≤ per b ∧ m' = per b - s, fun σ2 H2 z => z, ?_⟩
    refine sd_asgI (K := K) (j := ((s + 1 : Nat) : Int)) (EvD.to (by walk_at "ed") (by simp)) fun H6 x6 => ⟨per b - (s + 1), by omega, s + 1, rfl, (x4.trans x5).trans x6, by omega, by omega, rfl⟩
  · have hp' : perOk b s = true := by simpa using hp
    have es : s = per b := by
      rcases Nat.lt_or_ge s (per b) with hh | hh
      · rw [p4 s s1 hh] at hp'
        cases hp'
      · omega
    subst es
    -- bar = bar[:size]
    refine qd_asgN (K := K) (en_slL (ed_var rfl (dp_ex x5 db)) eo_none (eo_int (K := K) (by walk_at "ed"))) fun pc H6 xs npc x6 epc ha6 => ?_
    rw [cutD_to, ← List.map_take] at ha6
    cases dpa_ints ha6
    have e6h : H6 ph = some (.lst (h.map V.int)) := x6 _ _ (x5 _ _ (x4 _ _ e3h))
    have nb : b.take (per b) ≠ [] := by
      intro e
      have := congrArg List.length e
      rw [List.length_take, List.length_nil] at this
      omega
    -- the second while: what is left of the head from behind, the bar
    refine q_while (fun m σ' H' => ∃ (r c : List Int) (pd : Addr), σ' = [some (.ref ph), some (.ref pd), some (.int (per b : Int))] ∧ Ex H H' ∧ H' ph = some (.lst (r.reverse.map V.int)) ∧ H' pd = some (.lst (c.map V.int)) ∧ c ≠ [] ∧ c.length ≤ 90000 ∧ r.length ≤ 90000 ∧ ph ≠ pd ∧ strip r c = strip h.reverse (b.take (per b)) ∧ m = r.length) h.length
      ⟨h.reverse, b.take (per b), pc, rfl, ((((x1.trans x2).trans x3).trans x4).trans x5).trans x6, by rw [List.reverse_reverse]; exact e6h, epc, nb, by rw [List.length_take]; omega, by simpa using hl1, (fun e => by subst e; rw [x5 _ _ (x4 _ _ e3h)] at npc; cases npc), rfl, by simp⟩ (fun m σ' H' ⟨r, c, pd, e, y1, y2, y3, y4, y5, y5', y6, y7, y8⟩ => ?_)
    subst e
    have dr : Dp K H' (.ref ph) (.list (r.reverse.map .int)) := .lst (sq_of y2) dpa_of_ints
    have dc : Dp K H' (.ref pd) (.list (c.map .int)) := .lst (sq_of y3) dpa_of_ints
    have nc : c.map PyData.int ≠ [] := by simpa using y4
    cases r with
    | nil =>
      refine ⟨false, EvT.to (et_and (et_tru (K := K) (by walk_at "ed")) (b := false) fun z => by simp [tru] at z) (by simp [tru]), (fun z => by cases z), fun _ H7 x7 => ?_⟩
      have e1 : strip h.reverse (b.take (per b)) = ([], c) := by rw [← y7]; rfl
      refine sd_ret (K := K) (EvD.to (ed_tup (eds_cons (ed_tupL (ed_var rfl (dp_ex x7 dr))) (eds_cons (ed_tupL (ed_var rfl (dp_ex x7 dc))) eds_nil)) (by simp)) (by simp [pul, tightM, e1])) fun v H8 x8 hv => q v H8 ((y1.trans x7).trans x8) hv
    | cons x r =>
      have nr : (x :: r).reverse.map PyData.int ≠ [] := by simp
      have l1 : ((x :: r).reverse.map PyData.int).getLast nr = .int x := by simp
      have l2 : (c.map PyData.int).getLast nc = .int (c.getLast y4) := by simp
      have at1 := at_last nr
      have at2 := at_last nc
      rw [l1] at at1
      rw [l2] at at2
      refine ⟨x == c.getLast y4, EvT.to (et_and (et_tru (K := K) (by walk_at "ed")) fun _ => et_tst (K := K) (ed_eqI (ed_ixL (by walk_at "ed") (by walk_at "ed") at1) (ed_ixL (by walk_at "ed") (by walk_at "ed") at2))) (by simp [tru]), fun hx H7 x7 => ?_, fun hx H7 x7 => ?_⟩
      · have ex : x = c.getLast y4 := by simpa using hx
        have e1 : strip (x :: r) c = strip r (x :: c.dropLast) := by
          conv => lhs; unfold strip
          rw [if_pos (by rw [List.getLast?_eq_getLast y4, ex])]
        refine ⟨fun σ2 H2 => ∃ m', m' < m ∧ ∃ (r c : List Int) (pd : Addr), σ2 = [some (.ref ph), some (.ref pd), some (.int (per b : Int))] ∧ Ex H H2 ∧ H2 ph = some (.lst (r.reverse.map V.int)) ∧ H2 pd = some (.lst (c.map V.int)) ∧ c ≠ [] ∧ c.length ≤ 90000 ∧ r.length ≤ 90000 ∧ ph ≠ pd ∧ strip r c = strip h.reverse (b.take (per b)) ∧ m' = r.length, fun σ2 H2 z => z, ?_⟩
        -- bar = [head.pop()] + bar[:-1]
        have dl : ((x :: r).reverse.map V.int).dropLast = r.reverse.map V.int := by simp
        have lst : ((x :: r).reverse.map V.int)[((x :: r).reverse.map V.int).length - 1]? = some (V.int x) := by simp
        refine ⟨_, rfl, .inl ⟨rfl, _, sq_of (x7 _ _ y2)⟩, ph, _, _, rfl, rfl, x7 _ _ y2, lst, ?_⟩
        rw [dl]
        have nph' : H ph = none := nph
        have z1 : Ex H (upd H7 ph (.lst (r.reverse.map V.int))) := Ex.mut (y1.trans x7) nph' (x7 _ _ y2)
        have zc : (upd H7 ph (.lst (r.reverse.map V.int))) pd = some (.lst (c.map V.int)) := by
          rw [upd_ne (Ne.symm y6)]
          exact x7 _ _ y3
        refine ⟨by show 1 ≤ sizeLine; decide, fun pl hpl => ?_⟩
        have x9 := Ex.new (o := .lst [.int x]) hpl
        have dc9 : Dp K (upd (upd H7 ph (.lst (r.reverse.map V.int))) pl (.lst [.int x])) (.ref pd) (.list (c.map .int)) := .lst (sq_of (x9 _ _ zc)) dpa_of_ints
        refine en_slL (K := K) (ed_var rfl dc9) eo_none (eo_int (K := K) (ed_neg ed_cint)) _ (Ex.refl _) _ fun pm H10 xs npm x10 epm ham => ?_
        rw [cutD_m1, ← List.map_dropLast] at ham
        cases dpa_ints ham
        refine .inr (.inl ⟨pl, pm, [.int x], _, rfl, rfl, sq_of (x10 _ _ upd_same), sq_of epm, sz_of (by simp; omega), fun pe hpe => ?_⟩)
        have x11 := Ex.new (o := .lst ([.int x] ++ c.dropLast.map V.int)) hpe
        have eph : upd H10 pe (.lst ([.int x] ++ c.dropLast.map V.int)) ph = some (.lst (r.reverse.map V.int)) := x11 _ _ (x10 _ _ (x9 _ _ upd_same))
        refine ⟨r.length, by rw [y8]; simp, r, x :: c.dropLast, pe, rfl, ((z1.trans x9).trans x10).trans x11, eph, upd_same, by simp, ?_, by simp at y5'; omega, ?_, by rw [← e1]; exact y7, rfl⟩
        · simp
          omega
        · intro e
          subst e
          rw [x10 _ _ (x9 _ _ upd_same)] at hpe
          cases hpe
      · have ex : ¬ x = c.getLast y4 := by simpa using hx
        have e1 : strip h.reverse (b.take (per b)) = (x :: r, c) := by
          rw [← y7]
          unfold strip
          rw [if_neg (by rw [List.getLast?_eq_getLast y4]; intro e; exact ex (Option.some.inj e).symm)]
        refine sd_ret (K := K) (EvD.to (ed_tup (eds_cons (ed_tupL (ed_var rfl (dp_ex x7 dr))) (eds_cons (ed_tupL (ed_var rfl (dp_ex x7 dc))) eds_nil)) (by simp)) (by simp [pul, tightM, e1])) fun v H8 x8 hv => q v H8 ((y1.trans x7).trans x8) hv
/-! ### _law_text -/
abbrev s_law_text : Stmt := topS 28
theorem sc_law_text : FnScope ["_law_form_here", "_law_bit"] ["_law_form_here"] (defScope s_law_text) := ⟨rfl, rfl, rfl, by decide +kernel, rfl, by decide +kernel, by decide +kernel⟩
def sp_law_text (K : PySem.W.Frag) : Sp := SpD K (fun g : List Int × List Int => [pul g.1 g.2]) (fun g => (Bits g.1 ∧ g.1.length ≤ 40000) ∧ Bits g.2 ∧ g.2.length ≤ 40000) (fun g => .str (txtP g.1 g.2))
theorem ed_law_text {σ : L2.St} {H : Hp} {ta : TE} {E : XK} {h b : List Int} (ha : EvD K ta σ H (pul h b)) (hs : (Bits h ∧ h.length ≤ 40000) ∧ Bits b ∧ b.length ≤ 40000) : EvD K (tCall (sp_law_text K) [] E (tCons ta tNil)) σ H (.str (txtP h b)) :=
  ed_callD (h, b) (eds_cons ha eds_nil) hs
local macro_rules | `(tactic| walk_at "ed") => `(tactic| ((with_reducible apply ed_law_text) <;> walk_at "ed"))
theorem can_law_text (F : Dfn K mg "_law_text" s_law_text ["_law_form_here"]) (bt : Bt mg) : Can P w K mg base CX0 1 "_law_text" (sp_law_text K) := by
  refine can_D F sc_law_text (fun g => rfl) (fun cdv A outer s H vs Q E f g hr hv hs q => ⟨_, ((pss_one (ps_ret (pe_op (op_addK (K := K) rfl) (pe_op (op_addK (K := K) rfl) (pe_joinK (K := K) rfl pe_str (pe_lc (own := [("_law_bit", 1)]) rfl sc_law_text.nd (pi_seqK (K := K) rfl (pe_ix (ix_K (K := K) rfl) (pv 0) pe_int (fun _ _ => rfl))) (blkOk_by (N := ["_law_form_here", "_law_bit"]) (sc := defScope s_law_text) (by decide +kernel)) (fun _ _ _ _ _ => (pg_name (i := 1) sc_law_text.nd rfl (Or.inl rfl))) (fun _ _ _ _ _ => pts_nil) (fun _ _ _ _ _ => (pe_callTy call_str1 (by rfl) bt.str (by decide +kernel) (pa_cons (pv 1) pa_nil))))) pe_str) (pe_joinK (K := K) rfl pe_str (pe_lc (own := [("_law_bit", 1)]) rfl sc_law_text.nd (pi_seqK (K := K) rfl (pe_ix (ix_K (K := K) rfl) (pv 0) pe_int (fun _ _ => rfl))) (blkOk_by (N := ["_law_form_here", "_law_bit"]) (sc := defScope s_law_text) (by decide +kernel)) (fun _ _ _ _ _ => (pg_name (i := 1) sc_law_text.nd rfl (Or.inl rfl))) (fun _ _ _ _ _ => pts_nil) (fun _ _ _ _ _ => (pe_callTy call_str1 (by rfl) bt.str (by decide +kernel) (pa_cons (pv 1) pa_nil))))))))), ?_⟩)
  try dsimp only [L2.cxOf, L2.Cx.nox, L2.Cx.wish]
  obtain ⟨h, b⟩ := g
  dsimp only at hv hs q
  obtain ⟨v0, rfl, h0⟩ := dpa1 hv
  obtain ⟨⟨b1, l1⟩, b2, l2⟩ := hs
  unfold pul at h0
  have f1 : (figS h).length = h.length := by unfold figS; rw [sg_len, List.length_map]
  have f2 : (figS b).length = b.length := by unfold figS; rw [sg_len, List.length_map]
  have lb := sg_len [124]
  have la : (figS h ++ Sg [124]).length = h.length + 1 := by unfold figS; rw [sg_app, sg_len, List.length_append, List.length_map]; rfl
  have fg : ∀ {ns : List Int} {to : TE}, Bits ns → ns.length ≤ 40000 → EvD K to [some v0, none] H (.tuple (ns.map .int)) → EvD K (tM1 (rJoin K) (tC (.str ((("" : String)) : Str))) (tLc (iSeq K to) (gName 1) tYes (tCB rStr1 (tCons (tVar 1) tNil)) [1])) [some v0, none] H (.str (figS ns)) := fun {ns to} hB hl hto => by
    have comp := en_lcM (K := K) (σ := [some v0, none]) (H := H) (j := 1) (vs := [1]) (ns := ns) (wi := iSeq K to) (te := tCB rStr1 (tCons (tVar 1) tNil)) (fun k => .str (Sg [cpB k])) (EvI.or (EvI.ol (ei_tup (K := K) hto))) (by omega) (fun _ => rfl) (fun _ => rfl) (fun k H1 hk x1 => EvD.to (ed_str1 (ed_var rfl (.int k)) (by
      rcases hB k hk with e | e <;> subst e <;> decide)) (by rw [str_bit (hB k hk)]))
    have e : (ns.map fun k => PyData.str (Sg [cpB k])) = (ns.map fun k => Sg [cpB k]).map .str := by rw [List.map_map]; rfl
    exact EvD.to (ed_joinL (ys := ns.map fun k => Sg [cpB k]) ed_cstr (EvD.to comp.toD (by rw [e])) (by rw [figs_sum]; show _ + _ * 0 ≤ _; omega)) (by rw [show ((("" : String)) : Str) = Sg [] from str_nil, join_figs])
  refine sd_ret (K := K) (EvD.to (ed_catS (ed_catS (fg b1 l1 (ed_ixT (ed_var rfl h0) ed_cint rfl)) (EvD.to ed_cstr (by rw [show ((("|" : String)) : Str) = Sg [124] from str_bar])) (by rw [f1, lb]; show _ + 1 ≤ _; omega)) (fg b2 l2 (ed_ixT (ed_var rfl h0) ed_cint rfl)) (by rw [la, f2]; omega)) (by rw [txt_cat])) fun v H1 x1 hv => q v H1 x1 hv
/-! ### are_bits -/
abbrev s_are_bits : Stmt := topS 10
theorem sc_are_bits : FnScope ["thing", "low", "high", "bit"] ["thing", "low", "high"] (defScope s_are_bits) := ⟨rfl, rfl, rfl, by decide +kernel, rfl, by decide +kernel, by decide +kernel⟩
/-- a tuple of noughts and ones, of such a length -/
def areB (d : PD) (lo hi : Int) : Bool := match d with
  | .tuple xs => decide (lo ≤ xs.length) && decide (xs.length ≤ hi) && xs.all fun x => inW x 0 1
  | _ => false
def sp_are_bits (K : PySem.W.Frag) : Sp := SpD K (fun g : PD × Int × Int => [g.1, .int g.2.1, .int g.2.2]) (fun _ => True) (fun g => .bool (areB g.1 g.2.1 g.2.2))
theorem ed_are_bits {σ : L2.St} {H : Hp} {ta tb tc : TE} {E : XK} {d : PD} {lo hi : Int} (ha : EvD K ta σ H d) (hb : EvD K tb σ H (.int lo)) (hc : EvD K tc σ H (.int hi)) : EvD K (tCall (sp_are_bits K) [] E (tCons ta (tCons tb (tCons tc tNil)))) σ H (.bool (areB d lo hi)) :=
  ed_callD (d, lo, hi) (eds_cons ha (eds_cons hb (eds_cons hc eds_nil))) trivial
theorem areB_spec {d : PD} {lo hi : Nat} (h : areB d lo hi = true) : ∃ l : List Int, d = .tuple (l.map .int) ∧ Bits l ∧ lo ≤ l.length ∧ l.length ≤ hi := by
  cases d with
  | tuple xs =>
    simp only [areB, Bool.and_eq_true, decide_eq_true_eq] at h
    obtain ⟨l, rfl, hl⟩ := all_bits h.2
    rw [List.length_map] at h
    exact ⟨l, rfl, hl, by omega, by omega⟩
  | _ => cases h
theorem areB_bits {l : List Int} {lo hi : Int} (h : Bits l) : areB (.tuple (l.map .int)) lo hi = (decide (lo ≤ l.length) && decide ((l.length : Int) ≤ hi)) := by
  show (_ && _ && _) = _
  rw [bits_all h, Bool.and_true, List.length_map]
local macro_rules | `(tactic| walk_at "ed") => `(tactic| ((with_reducible apply ed_are_bits) <;> walk_at "ed"))
theorem can_are_bits (F : Dfn K mg "are_bits" s_are_bits ["thing", "low", "high"]) (bt : Bt mg) (c_is_within : Can P w K mg base CX0 1 "is_within" (sp_is_within K)) : Can P w K mg base CX0 2 "are_bits" (sp_are_bits K) := by
  refine can_D F sc_are_bits (fun g => rfl) (fun cdv A outer s H vs Q E f g hr hv hs q => ⟨_, ((pss_cons (ps_if (PW.pt (pw_or (pt_not (pt_truthK (K := K) rfl (pe_callB (call_isiK' (K := K) rfl) (by rfl) bt.isinstance (by decide +kernel) (pa_cons (pv 0) (pa_cons (pe_bltn (v := .ty "tuple") (by rfl) bt.tuple (by decide +kernel) rfl) pa_nil))) (fun _ => rfl))) (pw_or1 (pt_not (pt_chain op_le op_le (pv 1) (pe_callB (call_lenK (K := K) rfl) (by rfl) bt.len (by decide +kernel) (pa_cons (pv 0) pa_nil)) (pv 2)))))) (pss_one (ps_ret pe_bl)) pss_nil)
  (pss_cons (ps_for PassesOwn.never rfl (pi_seqK (K := K) rfl (pv 0)) (pg_name (i := 3) sc_are_bits.nd rfl (Or.inl rfl)) (pss_one (ps_if (pt_not (pt_truthK (K := K) rfl (pc c_is_within hr (by decide) (by rfl) (pa_cons (pv 3) (pa_cons pe_int (pa_cons pe_int pa_nil)))) (fun _ => rfl))) (pss_one (ps_ret pe_bl)) pss_nil)))
  (pss_one (ps_ret pe_bl))))), ?_⟩)
  try dsimp only [L2.cxOf, L2.Cx.nox, L2.Cx.wish]
  obtain ⟨d, lo, hi⟩ := g
  dsimp only at hv hs q
  obtain ⟨v0, v1, v2, rfl, h0, h1, h2⟩ := dpa3 hv
  have e1 := dp_int h1
  have e2 := dp_int h2
  subst e1 e2
  by_cases ht : isTup d = true
  · obtain ⟨xs, e⟩ : ∃ xs, d = .tuple xs := by cases d <;> first | exact ⟨_, rfl⟩ | cases ht
    subst e
    refine q_when (EvT.to (et_or (b := !(decide (lo ≤ xs.length) && decide ((xs.length : Int) ≤ hi))) (et_not (et_tru (K := K) (ed_isTup (ed_var rfl h0)))) fun _ => et_not (et_tst (K := K) (ed_chain (p := fun i j => decide (i ≤ j)) (q := fun i j => decide (i ≤ j)) (by walk_at "ed") (ed_lenT (ed_var rfl h0)) fun _ => (by walk_at "ed")))) (c := !(decide (lo ≤ xs.length) && decide ((xs.length : Int) ≤ hi))) (by simp [tru, isTup])) (fun c H1 x1 => ?_) (fun c H1 x1 => ?_)
    · refine sd_ret (K := K) (d := .bool false) (by walk_at "ed") fun v H3 x3 hv => q v H3 (x1.trans x3) ?_
      have : areB (.tuple xs) lo hi = false := by
        show (_ && _ && _) = false
        have c' : (decide (lo ≤ (xs.length : Int)) && decide ((xs.length : Int) ≤ hi)) = false := by simpa only [Bool.not_eq_true'] using c
        rw [c']
        rfl
      rw [this]
      exact hv
    · have c' : (decide (lo ≤ (xs.length : Int)) && decide ((xs.length : Int) ≤ hi)) = true := by simpa only [Bool.not_eq_false'] using c
      have ea : areB (.tuple xs) lo hi = xs.all fun x => inW x 0 1 := by
        show (_ && _ && _) = _
        rw [c']
        rfl
      refine q_forJ (K := K) (Hb := H) x1 (EvJ.or (EvJ.ol (ej_tup (K := K) rfl h0))) (fun i σ' H' => ∃ y, σ' = [some v0, some (.int lo), some (.int hi), y] ∧ Ex H H' ∧ ∀ k, k < i → inW (xs.getD k .none) 0 1 = true)
        (fun H2 x2 => ⟨none, rfl, x1.trans x2, fun d hd => absurd hd (by omega)⟩) (fun i σ' H' ⟨_, _, x, _⟩ => x) (fun i x σ' H' Hy hi ⟨y, e, x2, hp⟩ x3 hx => ?_) (fun σ' H' ⟨y, e, x2, hp⟩ => ?_)
      · subst e
        refine s_when (EvT.to (et_not (et_tru (K := K) (ed_is_within (ed_var rfl hx) ed_cint ed_cint))) (c := !inW (xs.getD i .none) 0 1) rfl) (fun hb H3 x5 => ?_) (fun hb H3 x5 => ⟨_, rfl, (x2.trans x3).trans x5, fun d hd => ?_⟩)
        · refine sd_ret (K := K) (d := .bool false) (by walk_at "ed") fun v H4 x6 hv => q v H4 (((x2.trans x3).trans x5).trans x6) ?_
          have : (xs.all fun x => inW x 0 1) = false := by
            rw [Bool.eq_false_iff]
            intro z
            have := List.all_eq_true.mp z (xs.getD i .none) (by rw [List.getD_eq_getElem?_getD, List.getElem?_eq_getElem hi]; exact List.getElem_mem hi)
            rw [this] at hb
            cases hb
          rw [ea, this]
          exact hv
        · by_cases e : d = i
          · subst e
            simpa using hb
          · exact hp d (by omega)
      · subst e
        refine sd_ret (K := K) (d := .bool true) (by walk_at "ed") fun v H4 x6 hv => q v H4 (x2.trans x6) ?_
        have : (xs.all fun x => inW x 0 1) = true := by
          rw [List.all_eq_true]
          intro x hx
          obtain ⟨k, hk, e⟩ := List.getElem_of_mem hx
          have := hp k hk
          rw [List.getD_eq_getElem?_getD, List.getElem?_eq_getElem hk, e] at this
          exact this
        rw [ea, this]
        exact hv
  · have ht' : isTup d = false := by simpa using ht
    have ea : areB d lo hi = false := by cases d <;> first | rfl | cases ht'
    refine q_when (EvT.to (et_or (b := true) (et_not (et_tru (K := K) (ed_isTup (ed_var rfl h0)))) fun z => by simp [tru, ht'] at z) (c := true) (by simp [tru, ht'])) (fun c H1 x1 => ?_) (fun c H1 x1 => by cases c)
    refine sd_ret (K := K) (d := .bool false) (by walk_at "ed") fun v H3 x3 hv => q v H3 (x1.trans x3) ?_
    rw [ea]
    exact hv
/-! ### tight -/
abbrev s_tight : Stmt := topS 13
theorem sc_tight : FnScope ["head", "bar", "size", "turn", "at"] ["head", "bar"] (defScope s_tight) := ⟨rfl, rfl, rfl, by decide +kernel, rfl, by decide +kernel, by decide +kernel⟩
/-- a bar turned -/
def rotB (b : List Int) (a : Nat) : List Int := b.drop a ++ b.take a
theorem rot_step {b : List Int} {a : Nat} (ha : a < b.length) : (rotB b a).getLast? = some (b.getD (if a = 0 then b.length - 1 else a - 1) 0) ∧ b.getD (if a = 0 then b.length - 1 else a - 1) 0 :: (rotB b a).dropLast = rotB b (if a = 0 then b.length - 1 else a - 1) := by
  by_cases h0 : a = 0
  · subst h0
    rw [if_pos rfl]
    have e0 : rotB b 0 = b := by simp [rotB]
    have eg : b.getD (b.length - 1) 0 = b[b.length - 1] := by rw [List.getD_eq_getElem?_getD, List.getElem?_eq_getElem (by omega)]; rfl
    rw [e0, eg]
    refine ⟨?_, ?_⟩
    · rw [List.getLast?_eq_getElem?, List.getElem?_eq_getElem (by omega)]
    · unfold rotB
      rw [List.drop_eq_getElem_cons (i := b.length - 1) (by omega), List.drop_eq_nil_of_le (by omega), List.dropLast_eq_take]
      rfl
  · rw [if_neg h0]
    have eg : b.getD (a - 1) 0 = b[a - 1] := by rw [List.getD_eq_getElem?_getD, List.getElem?_eq_getElem (by omega)]; rfl
    have et : b.take a = b.take (a - 1) ++ [b[a - 1]] := by
      have := List.take_append_getElem (l := b) (i := a - 1) (by omega)
      rw [show a - 1 + 1 = a by omega] at this
      exact this.symm
    have ed : b.drop (a - 1) = b[a - 1] :: b.drop a := by
      rw [List.drop_eq_getElem_cons (i := a - 1) (by omega), show a - 1 + 1 = a by omega]
    rw [eg]
    unfold rotB
    rw [et, ← List.append_assoc]
    refine ⟨by rw [List.getLast?_append]; simp, ?_⟩
    rw [List.dropLast_concat, ed]
    rfl
theorem turn_ix {n a t : Nat} (ha : a < n) (h : (a + t) % n = 0) : (((n : Int) - 1 - (t : Int)) % (n : Int)).toNat = (if a = 0 then n - 1 else a - 1) ∧ (((0 : Int) - (t : Int)) % (n : Int)).toNat = a ∧ ((if a = 0 then n - 1 else a - 1) + (t + 1)) % n = 0 := by
  obtain ⟨k, hk⟩ := Nat.dvd_of_mod_eq_zero h
  have hk' : (t : Int) = (n : Int) * (k : Int) - (a : Int) := by
    have : ((a + t : Nat) : Int) = ((n * k : Nat) : Int) := by rw [hk]
    rw [Int.natCast_add, Int.natCast_mul] at this
    omega
  refine ⟨?_, ?_, ?_⟩
  · by_cases h0 : a = 0
    · rw [if_pos h0]
      have e : (n : Int) - 1 - (t : Int) = ((n - 1 : Nat) : Int) + (n : Int) * (-(k : Int)) := by
        rw [hk', h0, Int.mul_neg]
        omega
      rw [e, Int.add_mul_emod_self_left, toNat_emod, Nat.mod_eq_of_lt (by omega)]
    · rw [if_neg h0]
      have e : (n : Int) - 1 - (t : Int) = ((a - 1 : Nat) : Int) + (n : Int) * (1 - (k : Int)) := by
        rw [hk', Int.mul_sub, Int.mul_one]
        omega
      rw [e, Int.add_mul_emod_self_left, toNat_emod, Nat.mod_eq_of_lt (by omega)]
  · have e : (0 : Int) - (t : Int) = (a : Int) + (n : Int) * (-(k : Int)) := by
      rw [hk', Int.mul_neg]
      omega
    rw [e, Int.add_mul_emod_self_left, toNat_emod, Nat.mod_eq_of_lt ha]
  · by_cases h0 : a = 0
    · rw [if_pos h0]
      subst h0
      rw [show n - 1 + (t + 1) = (0 + t) + n by omega, Nat.add_mod_right]
      exact h
    · rw [if_neg h0, show a - 1 + (t + 1) = a + t by omega]
      exact h
def sp_tight (K : PySem.W.Frag) : Sp := SpD K (fun g : List Int × List Int => [.tuple (g.1.map .int), .tuple (g.2.map .int)]) (fun g => g.2 ≠ [] ∧ g.1.length ≤ 90000 ∧ g.2.length ≤ 90000) (fun g => pul (tightM g.1 g.2).1 (tightM g.1 g.2).2)
theorem ed_tight {σ : L2.St} {H : Hp} {ta tb : TE} {E : XK} {h b : List Int} (ha : EvD K ta σ H (.tuple (h.map .int))) (hb : EvD K tb σ H (.tuple (b.map .int))) (hs : b ≠ [] ∧ h.length ≤ 90000 ∧ b.length ≤ 90000) : EvD K (tCall (sp_tight K) [] E (tCons ta (tCons tb tNil))) σ H (pul (tightM h b).1 (tightM h b).2) :=
  ed_callD (h, b) (eds_cons ha (eds_cons hb eds_nil)) hs
local macro_rules | `(tactic| walk_at "ed") => `(tactic| ((with_reducible apply ed_tight) <;> walk_at "ed"))
theorem can_tight (F : Dfn K mg "tight" s_tight ["head", "bar"]) (bt : Bt mg) (c_shortest_bar : Can P w K mg base CX0 1 "shortest_bar" (sp_shortest_bar K)) : Can P w K mg base CX0 2 "tight" (sp_tight K) := by
  refine can_D F sc_tight (fun g => rfl) (fun cdv A outer s H vs Q E f g hr hv hs q => ⟨_, ((pss_cons (ps_set (i := 1) sc_tight.nd rfl (Or.inl rfl) (pc c_shortest_bar hr (by decide) (by rfl) (pa_cons (pv 1) pa_nil)))
  (pss_cons (ps_set (i := 2) sc_tight.nd rfl (Or.inl rfl) (pe_callB (call_lenK (K := K) rfl) (by rfl) bt.len (by decide +kernel) (pa_cons (pv 0) pa_nil)))
  (pss_cons (ps_set (i := 3) sc_tight.nd rfl (Or.inl rfl) pe_int)
  (pss_cons (ps_while PassesOwn.never (PW.pt (pw_and (pt_cmpR op_gt (pv 2) pe_int (nomark _)) (pw_and1 (pt_cmpR (op_eqDK (K := K) rfl hr.units) (pe_ix (ix_K (K := K) rfl) (pv 0) (pe_op op_sub (pv 2) pe_int) (fun _ _ => rfl)) (pe_ix (ix_K (K := K) rfl) (pv 1) (pe_op op_mod (pe_op op_sub (pe_op op_sub (pe_callB (call_lenK (K := K) rfl) (by rfl) bt.len (by decide +kernel) (pa_cons (pv 1) pa_nil)) pe_int) (pv 3)) (pe_callB (call_lenK (K := K) rfl) (by rfl) bt.len (by decide +kernel) (pa_cons (pv 1) pa_nil))) (fun _ _ => rfl)) (nomark _))))) (pss_cons (ps_set (i := 2) sc_tight.nd rfl (Or.inl rfl) (pe_op op_sub (pv 2) pe_int))
  (pss_one (ps_set (i := 3) sc_tight.nd rfl (Or.inl rfl) (pe_op (op_addK (K := K) rfl) (pv 3) pe_int)))))
  (pss_cons (ps_set (i := 4) sc_tight.nd rfl (Or.inl rfl) (pe_op op_mod (pe_op op_sub pe_int (pv 3)) (pe_callB (call_lenK (K := K) rfl) (by rfl) bt.len (by decide +kernel) (pa_cons (pv 1) pa_nil))))
  (pss_one (ps_ret (pe_tup (pa_cons (pe_callTy (call_tupleK (K := K) rfl) (by rfl) bt.tuple (by decide +kernel) (pa_cons (pe_slice (sl_K (K := K) rfl) (pv 0) po_none (po_some (pv 2))) pa_nil)) (pa_cons (pe_op (op_addK (K := K) rfl) (pe_slice (sl_K (K := K) rfl) (pv 1) (po_some (pv 4)) po_none) (pe_slice (sl_K (K := K) rfl) (pv 1) po_none (po_some (pv 4)))) pa_nil))))))))))), ?_⟩)
  try dsimp only [L2.cxOf, L2.Cx.nox, L2.Cx.wish]
  obtain ⟨h, b⟩ := g
  dsimp only at hv hs q
  obtain ⟨nb, l1, l2⟩ := hs
  obtain ⟨v0, v1, rfl, h0, h1⟩ := dpa2 hv
  obtain ⟨p1, p2, p3, p4⟩ := per_spec nb
  refine qd_asg (K := K) (ed_shortest_bar (ed_var rfl h1) ⟨nb, l2⟩) fun v2 H1 x1 h2 => ?_
  generalize hc : b.take (per b) = c at h2
  have hcl : c.length = per b := by rw [← hc, List.length_take]; omega
  have hT : tightM h b = ((strip h.reverse c).1.reverse, (strip h.reverse c).2) := by unfold tightM; rw [hc]
  refine qd_asgI (K := K) (j := (h.length : Int)) (EvD.to (by walk_at "ed") (by simp)) fun H2 x2 => ?_
  refine qd_asgI (K := K) (j := ((0 : Nat) : Int)) ed_cint fun H3 x3 => ?_
  refine q_while (fun m σ' H' => ∃ (s t a : Nat), σ' = [some v0, some v2, some (.int (s : Int)), some (.int (t : Int)), none] ∧ Ex H H' ∧ Ex H1 H' ∧ s ≤ h.length ∧ a < c.length ∧ (a + t) % c.length = 0 ∧ strip (h.take s).reverse (rotB c a) = strip h.reverse c ∧ m = s) h.length
    ⟨h.length, 0, 0, rfl, (x1.trans x2).trans x3, x2.trans x3, Nat.le_refl _, by omega, by simp, by rw [List.take_length]; simp [rotB], rfl⟩ (fun m σ' H' ⟨s, t, a, e, y1, y1', y2, y3, y4, y5, y6⟩ => ?_)
  subst e
  obtain ⟨ti, ta, tn⟩ := turn_ix y3 y4
  have hc0 : (0 : Int) < (c.length : Int) := by omega
  have d0 : Dp K H' v0 (.tuple (h.map .int)) := dp_ex y1 h0
  have d2 : Dp K H' v2 (.tuple (c.map .int)) := dp_ex y1' h2
  generalize hi : (if a = 0 then c.length - 1 else a - 1) = i at ti tn
  have hi' : i < c.length := by rw [← hi]; split <;> omega
  have rs := rot_step y3
  rw [hi] at rs
  have mi : 0 ≤ ((c.length : Int) - 1 - (t : Int)) % (c.length : Int) := Int.emod_nonneg _ (by omega)
  have eb : atI (c.map PyData.int) (((c.length : Int) - 1 - (t : Int)) % (c.length : Int)) = some (.int (c.getD i 0)) := by
    rw [at_intsI mi (by have := Int.emod_lt_of_pos ((c.length : Int) - 1 - (t : Int)) hc0; omega), ti]
  by_cases hs0 : s = 0
  · subst hs0
    refine ⟨false, EvT.to (et_and (b := false) (et_tst (K := K) (ed_gt (ed_var rfl (.int ((0 : Nat) : Int))) ed_cint)) fun z => by simp at z) (by simp), (fun z => by cases z), fun _ H5 x5 => ?_⟩
    have es : strip h.reverse c = ([], rotB c a) := by rw [← y5]; rfl
    refine qd_asgI (K := K) (j := (a : Int)) (EvD.to (ed_mod (ed_sub ed_cint (ed_var rfl (.int (t : Int)))) (EvD.to (ed_lenT (ed_var rfl (dp_ex x5 d2))) (by rw [List.length_map])) hc0) (by have := Int.emod_nonneg (0 - (t : Int)) (show (c.length : Int) ≠ 0 by omega); congr 1; omega)) fun H6 x6 => ?_
    refine sd_ret (K := K) (EvD.to (ed_tup (eds_cons (ed_tupT (ed_slT (ed_var rfl (dp_ex (x5.trans x6) d0)) eo_none (eo_int (K := K) (ed_var rfl (.int ((0 : Nat) : Int)))))) (eds_cons (ed_catT (ed_slT (ed_var rfl (dp_ex (x5.trans x6) d2)) (eo_int (K := K) (ed_var rfl (.int (a : Int)))) eo_none) (ed_slT (ed_var rfl (dp_ex (x5.trans x6) d2)) eo_none (eo_int (K := K) (ed_var rfl (.int (a : Int))))) (by rw [cutD_from, cutD_to]; simp; omega)) eds_nil)) (by simp)) ?_) fun v H7 x7 hv => q v H7 (((y1.trans x5).trans x6).trans x7) hv
    rw [cutD_to, cutD_from, cutD_to, hT, es]
    simp [pul, rotB]
  · have e1 : (s : Int) - 1 = ((s - 1 : Nat) : Int) := by omega
    have hlast : (h.take s).reverse = h.getD (s - 1) 0 :: (h.take (s - 1)).reverse := by
      have := List.take_append_getElem (l := h) (i := s - 1) (by omega)
      rw [show s - 1 + 1 = s by omega] at this
      rw [← this, List.reverse_append, List.getD_eq_getElem?_getD, List.getElem?_eq_getElem (by omega)]
      rfl
    have ea : atI (h.map PyData.int) ((s : Int) - 1) = some (.int (h.getD (s - 1) 0)) := by rw [e1, at_ints (by omega)]
    have tst : ∀ {σ}, σ = [some v0, some v2, some (.int (s : Int)), some (.int (t : Int)), none] → EvD K (tOp (rIx K) (tVar 1) (tOp (rI (fun _ j => 0 < j) fun i j => .int (i % j)) (tOp (rI0 fun i j => .int (i - j)) (tOp (rI0 fun i j => .int (i - j)) (tCB (fun xs H Q => ∃ x n, xs = [x] ∧ LenV K x H n ∧ Q (.int n) H) (tCons (tVar 1) tNil)) (tC (.int 1))) (tVar 3)) (tCB (fun xs H Q => ∃ x n, xs = [x] ∧ LenV K x H n ∧ Q (.int n) H) (tCons (tVar 1) tNil)))) σ H' (.int (c.getD i 0)) := by
      intro σ e
      subst e
      have ln : EvD K (tCB (fun xs H Q => ∃ x n, xs = [x] ∧ LenV K x H n ∧ Q (.int n) H) (tCons (tVar 1) tNil)) [some v0, some v2, some (.int (s : Int)), some (.int (t : Int)), none] H' (.int (c.length : Int)) := EvD.to (ed_lenT (ed_var rfl d2)) (by rw [List.length_map])
      exact ed_ixT (ed_var rfl d2) (ed_mod (ed_sub (ed_sub ln ed_cint) (ed_var rfl (.int (t : Int)))) ln hc0) eb
    refine ⟨h.getD (s - 1) 0 == c.getD i 0, EvT.to (et_and (et_tst (K := K) (ed_gt (ed_var rfl (.int (s : Int))) ed_cint)) fun z => et_tst (K := K) (ed_eqI (ed_ixT (ed_var rfl d0) (ed_sub (ed_var rfl (.int (s : Int))) ed_cint) ea) (tst rfl))) (by rw [decide_eq_true (show (0 : Int) < (s : Int) by omega)]; rfl), fun hx H5 x5 => ?_, fun hx H5 x5 => ?_⟩
    · have ex : h.getD (s - 1) 0 = c.getD i 0 := by simpa using hx
      refine ⟨fun σ2 H2 => ∃ m', m' < m ∧ ∃ (s t a : Nat), σ2 = [some v0, some v2, some (.int (s : Int)), some (.int (t : Int)), none] ∧ Ex H H2 ∧ Ex H1 H2 ∧ s ≤ h.length ∧ a < c.length ∧ (a + t) % c.length = 0 ∧ strip (h.take s).reverse (rotB c a) = strip h.reverse c ∧ m' = s, fun σ2 H2 z => z, ?_⟩
      refine qd_asgI (K := K) (j := ((s - 1 : Nat) : Int)) (EvD.to (ed_sub (ed_var rfl (.int (s : Int))) ed_cint) (by rw [e1])) fun H6 x6 => ?_
      refine sd_asgI (K := K) (j := ((t + 1 : Nat) : Int)) (EvD.to (ed_add (ed_var rfl (.int (t : Int))) ed_cint) (by simp)) fun H7 x7 => ?_
      refine ⟨s - 1, by omega, s - 1, t + 1, i, rfl, ((y1.trans x5).trans x6).trans x7, ((y1'.trans x5).trans x6).trans x7, by omega, hi', tn, ?_, rfl⟩
      rw [← y5, hlast]
      conv => rhs; unfold strip
      rw [rs.1, ex, if_pos rfl, rs.2]
    · have ex : ¬ h.getD (s - 1) 0 = c.getD i 0 := by simpa using hx
      have es : strip h.reverse c = ((h.take s).reverse, rotB c a) := by
        rw [← y5, hlast]
        unfold strip
        rw [rs.1, if_neg (by intro z; exact ex (Option.some.inj z).symm)]
      refine qd_asgI (K := K) (j := (a : Int)) (EvD.to (ed_mod (ed_sub ed_cint (ed_var rfl (.int (t : Int)))) (EvD.to (ed_lenT (ed_var rfl (dp_ex x5 d2))) (by rw [List.length_map])) hc0) (by have := Int.emod_nonneg (0 - (t : Int)) (show (c.length : Int) ≠ 0 by omega); congr 1; omega)) fun H6 x6 => ?_
      refine sd_ret (K := K) (EvD.to (ed_tup (eds_cons (ed_tupT (ed_slT (ed_var rfl (dp_ex (x5.trans x6) d0)) eo_none (eo_int (K := K) (ed_var rfl (.int (s : Int)))))) (eds_cons (ed_catT (ed_slT (ed_var rfl (dp_ex (x5.trans x6) d2)) (eo_int (K := K) (ed_var rfl (.int (a : Int)))) eo_none) (ed_slT (ed_var rfl (dp_ex (x5.trans x6) d2)) eo_none (eo_int (K := K) (ed_var rfl (.int (a : Int))))) (by rw [cutD_from, cutD_to]; simp; omega)) eds_nil)) (by simp)) ?_) fun v H7 x7 hv => q v H7 (((y1.trans x5).trans x6).trans x7) hv
      rw [cutD_to, cutD_from, cutD_to, hT, es]
      simp [pul, rotB]
/-! ### _law_large -/
abbrev s_law_large : Stmt := topS 21
theorem sc_law_large : FnScope ["_law_script"] ["_law_script"] (defScope s_law_large) := ⟨rfl, rfl, rfl, by decide +kernel, rfl, by decide +kernel, by decide +kernel⟩
def sp_law_large (K : PySem.W.Frag) : Sp := SpD K (fun ns : List Int => [.list (ns.map .int)]) (fun ns => ns.length ≤ 63) (fun ns => .bool (largeM ns))
theorem ed_law_large {σ : L2.St} {H : Hp} {ta : TE} {E : XK} {ns : List Int} (ha : EvD K ta σ H (.list (ns.map .int))) (hl : ns.length ≤ 63) : EvD K (tCall (sp_law_large K) [] E (tCons ta tNil)) σ H (.bool (largeM ns)) :=
  ed_callD ns (eds_cons ha eds_nil) hl
local macro_rules | `(tactic| walk_at "ed") => `(tactic| ((with_reducible apply ed_law_large) <;> walk_at "ed"))
theorem can_law_large (F : Dfn K mg "_law_large" s_law_large ["_law_script"]) (bt : Bt mg) (c_law_mix : Can P w K mg base CX0 1 "_law_mix" (sp_law_mix K)) (c_law_cell : Can P w K mg base CX0 1 "_law_cell" (sp_law_cell K)) : Can P w K mg base CX0 2 "_law_large" (sp_law_large K) := by
  refine can_D F sc_law_large (fun g => rfl) (fun cdv A outer s H vs Q E f g hr hv hs q => ⟨_, ((pss_one (ps_ret (pe_cmpR (op_eqDK (K := K) rfl hr.units) (pc c_law_mix hr (by decide) (by rfl) (pa_cons (pe_op (op_addK (K := K) rfl) (pc c_law_cell hr (by decide) (by rfl) (pa_cons (pv 0) (pa_cons pe_int pa_nil))) (pe_op (op_mulK (K := K) rfl) pe_int (pe_callB (call_lenK (K := K) rfl) (by rfl) bt.len (by decide +kernel) (pa_cons (pv 0) pa_nil)))) (pa_cons pe_int (pa_cons pe_int pa_nil)))) pe_int (nomark _))))), ?_⟩)
  try dsimp only [L2.cxOf, L2.Cx.nox, L2.Cx.wish]
  obtain ⟨a, rfl, h1⟩ := dpa1 hv
  exact sd_ret (K := K) (EvD.to (by walk_at "ed") (by simp [largeM])) fun v H3 x3 hv => q v H3 x3 hv
/-! ### _law_bits -/
abbrev s_law_bits : Stmt := topS 23
theorem sc_law_bits : FnScope ["_law_script", "_law_at", "_law_size", "_law_found", "_law_k"] ["_law_script", "_law_at", "_law_size"] (defScope s_law_bits) := ⟨rfl, rfl, rfl, by decide +kernel, rfl, by decide +kernel, by decide +kernel⟩
def sp_law_bits (K : PySem.W.Frag) : Sp := SpD K (fun g : List Int × Nat × Nat => [.list (g.1.map .int), .int g.2.1, .int g.2.2]) (fun g => g.2.2 ≤ 1000) (fun g => .list ((bitsM g.1 g.2.1 g.2.2).map .int))
theorem ed_law_bits {σ : L2.St} {H : Hp} {ta tb tc : TE} {E : XK} {ns : List Int} {a n : Int} (ha : EvD K ta σ H (.list (ns.map .int))) (hb : EvD K tb σ H (.int a)) (hc : EvD K tc σ H (.int n)) (h1 : 0 ≤ a) (h2 : 0 ≤ n) (h3 : n ≤ 1000) : EvD K (tCall (sp_law_bits K) [] E (tCons ta (tCons tb (tCons tc tNil)))) σ H (.list ((bitsM ns a.toNat n.toNat).map .int)) :=
  ed_callD (ns, a.toNat, n.toNat) (eds_cons ha (eds_cons (hb.to (by simp [Int.toNat_of_nonneg h1])) (eds_cons (hc.to (by simp [Int.toNat_of_nonneg h2])) eds_nil))) (show n.toNat ≤ 1000 by omega)
local macro_rules | `(tactic| walk_at "ed") => `(tactic| ((with_reducible apply ed_law_bits) <;> walk_at "ed"))
theorem can_law_bits (F : Dfn K mg "_law_bits" s_law_bits ["_law_script", "_law_at", "_law_size"]) (bt : Bt mg) (c_law_mix : Can P w K mg base CX0 1 "_law_mix" (sp_law_mix K)) (c_law_cell : Can P w K mg base CX0 1 "_law_cell" (sp_law_cell K)) : Can P w K mg base CX0 2 "_law_bits" (sp_law_bits K) := by
  refine can_D F sc_law_bits (fun g => rfl) (fun cdv A outer s H vs Q E f g hr hv hs q => ⟨_, ((pss_cons (ps_set (i := 3) sc_law_bits.nd rfl (Or.inl rfl) (pe_lst pa_nil))
  (pss_cons (ps_for PassesOwn.never rfl (pi_range1 (by rfl) bt.range (pa_cons (pv 2) pa_nil)) (pg_name (i := 4) sc_law_bits.nd rfl (Or.inl rfl)) (pss_one (ps_expr (pe_bmK (K := K) rfl PySem.F.plainAttrs_list PySem.F.slot_list_append PySem.F.type_list_append mt_append (pv 3) (pa_cons (pc c_law_mix hr (by decide) (by rfl) (pa_cons (pe_op (op_addK (K := K) rfl) (pc c_law_cell hr (by decide) (by rfl) (pa_cons (pv 0) (pa_cons (pe_op (op_addK (K := K) rfl) (pv 1) (pe_op op_mod (pv 4) pe_int)) pa_nil))) (pe_op (op_mulK (K := K) rfl) (pe_op (op_mulK (K := K) rfl) pe_int (pv 4)) (pv 4))) (pa_cons pe_int (pa_cons pe_int pa_nil)))) pa_nil)))))
  (pss_one (ps_ret (pv 3)))))), ?_⟩)
  try dsimp only [L2.cxOf, L2.Cx.nox, L2.Cx.wish]
  obtain ⟨ns, a, n⟩ := g
  dsimp only at hv hs q
  obtain ⟨v0, v1, v2, rfl, h0, h1, h2⟩ := dpa3 hv
  have e1 := dp_int h1
  have e2 := dp_int h2
  subst e1 e2
  refine qd_asgN (K := K) (en_lst eds_nil (by simp)) fun p H1 xs np x1 e1 ha => ?_
  cases dpa_nil ha
  refine q_forJ (K := K) (Hb := H) x1 (ej_rng1 (K := K) (j := (n : Int)) (by walk_at "ed") (by omega)) (fun i σ' H' => ∃ y, σ' = [some v0, some (.int a), some (.int n), some (.ref p), y] ∧ Ex H H' ∧ H' p = some (.lst ((bitsM ns a i).map V.int)))
    (fun H2 x2 => ⟨none, rfl, x1.trans x2, x2 _ _ e1⟩) (fun i σ' H' ⟨_, _, x, _⟩ => x) (fun i x σ' H' Hy hi ⟨y, e, x2, hp⟩ x3 hx => ?_) (fun σ' H' ⟨y, e, x2, hp⟩ => ?_)
  · subst e
    have ex := dp_int hx
    subst ex
    have x4 := x2.trans x3
    refine sd_app (K := K) (x3 _ _ hp) (ev_ref rfl) (by walk_at "ed") (by rw [List.length_map, bitsM_len]; omega) fun v H3 x5 hv => ?_
    rw [dp_int hv]
    refine ⟨_, rfl, Ex.mut (x4.trans x5) np (x5 _ _ (x3 _ _ hp)), ?_⟩
    rw [upd_same]
    simp [bitsM, List.range_succ]
    rfl
  · subst e
    refine sd_ret (K := K) (d := .list ((bitsM ns a n).map .int)) (ed_var rfl (.lst (sq_of hp) (by simpa using dpa_of_ints))) fun v H3 x3 hv => q v H3 (x2.trans x3) hv
/-! ### _law_due -/
abbrev s_law_due : Stmt := topS 29
theorem sc_law_due : FnScope ["_law_text_here", "_law_parts", "_law_form_here", "_law_sign"] ["_law_text_here"] (defScope s_law_due) := ⟨rfl, rfl, rfl, by decide +kernel, rfl, by decide +kernel, by decide +kernel⟩
/-- what the law takes a text for -/
def dueT (l : List Nat) : PD := match formT l with
  | some P => if P.2 ≠ [] ∧ tightM P.1 P.2 = (P.1, P.2) then pul P.1 P.2 else .none
  | none => .none
theorem due_no {l : List Nat} (h : formT l = none) : dueT l = .none := by unfold dueT; rw [h]
theorem due_some {l : List Nat} {P : List Int × List Int} (h : formT l = some P) : dueT l = if P.2 ≠ [] ∧ tightM P.1 P.2 = (P.1, P.2) then pul P.1 P.2 else .none := by unfold dueT; rw [h]
def sp_law_due (K : PySem.W.Frag) : Sp := SpD K (fun l : List Nat => [.str (Sg l)]) (fun l => l.length ≤ 400 ∧ LtS l) (fun l => dueT l)
theorem ed_law_due {σ : L2.St} {H : Hp} {ta : TE} {E : XK} {l : List Nat} (ha : EvD K ta σ H (.str (Sg l))) (h1 : l.length ≤ 400) (h2 : LtS l) : EvD K (tCall (sp_law_due K) [] E (tCons ta tNil)) σ H (dueT l) :=
  ed_callD l (eds_cons ha eds_nil) ⟨h1, h2⟩
local macro_rules | `(tactic| walk_at "ed") => `(tactic| ((with_reducible apply ed_law_due) <;> walk_at "ed"))
theorem can_law_due (F : Dfn K mg "_law_due" s_law_due ["_law_text_here"]) (bt : Bt mg) (c_law_tight : Can P w K mg base CX0 1 "_law_tight" (sp_law_tight K)) : Can P w K mg base CX0 2 "_law_due" (sp_law_due K) := by
  refine can_D F sc_law_due (fun g => rfl) (fun cdv A outer s H vs Q E f g hr hv hs q => ⟨_, ((pss_cons (ps_set (i := 1) sc_law_due.nd rfl (Or.inl rfl) (pe_split1 (pv 0) pe_str))
  (pss_cons (ps_if (PW.pt (pw_or (pt_cmpR (op_neDK (K := K) rfl hr.units) (pe_callB (call_lenK (K := K) rfl) (by rfl) bt.len (by decide +kernel) (pa_cons (pv 1) pa_nil)) pe_int (nomark _)) (pw_or (pt_cmpR (op_eqDK (K := K) rfl hr.units) (pe_ix (ix_K (K := K) rfl) (pv 1) pe_int (fun _ _ => rfl)) pe_str (nomark _)) (pw_or1 (pt_truthK (K := K) rfl (pe_lc (own := [("_law_sign", 3)]) rfl sc_law_due.nd (pi_seqK (K := K) rfl (pe_op (op_addK (K := K) rfl) (pe_ix (ix_K (K := K) rfl) (pv 1) pe_int (fun _ _ => rfl)) (pe_ix (ix_K (K := K) rfl) (pv 1) pe_int (fun _ _ => rfl)))) (blkOk_by (N := ["_law_text_here", "_law_parts", "_law_form_here", "_law_sign"]) (sc := defScope s_law_due) (by decide +kernel)) (fun _ _ _ _ _ => (pg_name (i := 3) sc_law_due.nd rfl (Or.inl rfl))) (fun _ _ _ _ _ => (pts_one (pt_cmpR (op_notInK (K := K) rfl) (pv 3) pe_str rfl))) (fun _ _ _ _ _ => (pv 3))) (fun _ => rfl)))))) (pss_one (ps_ret pe_non)) pss_nil)
  (pss_cons (ps_set (i := 2) sc_law_due.nd rfl (Or.inl rfl) (pe_tup (pa_cons (pe_callTy (call_tupleK (K := K) rfl) (by rfl) bt.tuple (by decide +kernel) (pa_cons (pe_lc (own := [("_law_sign", 3)]) rfl sc_law_due.nd (pi_seqK (K := K) rfl (pe_ix (ix_K (K := K) rfl) (pv 1) pe_int (fun _ _ => rfl))) (blkOk_by (N := ["_law_text_here", "_law_parts", "_law_form_here", "_law_sign"]) (sc := defScope s_law_due) (by decide +kernel)) (fun _ _ _ _ _ => (pg_name (i := 3) sc_law_due.nd rfl (Or.inl rfl))) (fun _ _ _ _ _ => pts_nil) (fun _ _ _ _ _ => (pe_callTy call_intX (by rfl) bt.int (by decide +kernel) (pa_cons (pv 3) pa_nil)))) pa_nil)) (pa_cons (pe_callTy (call_tupleK (K := K) rfl) (by rfl) bt.tuple (by decide +kernel) (pa_cons (pe_lc (own := [("_law_sign", 3)]) rfl sc_law_due.nd (pi_seqK (K := K) rfl (pe_ix (ix_K (K := K) rfl) (pv 1) pe_int (fun _ _ => rfl))) (blkOk_by (N := ["_law_text_here", "_law_parts", "_law_form_here", "_law_sign"]) (sc := defScope s_law_due) (by decide +kernel)) (fun _ _ _ _ _ => (pg_name (i := 3) sc_law_due.nd rfl (Or.inl rfl))) (fun _ _ _ _ _ => pts_nil) (fun _ _ _ _ _ => (pe_callTy call_intX (by rfl) bt.int (by decide +kernel) (pa_cons (pv 3) pa_nil)))) pa_nil)) pa_nil))))
  (pss_cons (ps_if (pt_cmpR (op_neDK (K := K) rfl hr.units) (pc c_law_tight hr (by decide) (by rfl) (pa_cons (pe_ix (ix_K (K := K) rfl) (pv 2) pe_int (fun _ _ => rfl)) (pa_cons (pe_ix (ix_K (K := K) rfl) (pv 2) pe_int (fun _ _ => rfl)) pa_nil))) (pv 2) (nomark _)) (pss_one (ps_ret pe_non)) pss_nil)
  (pss_one (ps_ret (pv 2)))))))), ?_⟩)
  try dsimp only [L2.cxOf, L2.Cx.nox, L2.Cx.wish]
  try dsimp only at hv hs q
  obtain ⟨v0, rfl, h0⟩ := dpa1 hv
  have e0 := dp_str h0
  subst e0
  obtain ⟨hl, hlt⟩ := hs
  refine qd_asg (K := K) (d := .list (((cutB 124 g).map Sg).map .str)) (EvD.to (ed_split (ed_var rfl (.str _)) (EvD.to ed_cstr (by rw [show ((("|" : String)) : Str) = Sg [124] from str_bar])) rfl (by rw [sg_len]; omega)) (by rw [split_cut (by decide)])) fun v1 H1 x1 h1 => ?_
  have t1 := et_tst (K := K) (ed_neI (ed_lenL (ed_var (i := 1) (σ := [some (.str (Sg g)), some v1, none, none]) rfl h1)) (ed_cint (i := 2)))
  by_cases c : (cutB 124 g).length = 2
  · obtain ⟨a, b, eab⟩ : ∃ a b, cutB 124 g = [a, b] := by
      match hc : cutB 124 g, c with
      | [a, b], _ => exact ⟨a, b, rfl⟩
    obtain ⟨eg, _, _⟩ := cut_parts eab
    have la : a.length + b.length ≤ 400 := by
      have := congrArg List.length eg
      rw [List.length_append, List.length_cons] at this
      omega
    have ltA : LtS a := fun z hz => hlt z (by rw [eg]; exact List.mem_append_left _ hz)
    have ltB : LtS b := fun z hz => hlt z (by rw [eg]; exact List.mem_append_right _ (List.mem_cons_of_mem _ hz))
    rw [eab] at h1
    have i0 : ∀ {H' : Hp} {y z : Option V}, Ex H1 H' → EvD K (tOp (rIx K) (tVar 1) (tC (.int 0))) [some (.str (Sg g)), some v1, y, z] H' (.str (Sg a)) := fun x => ed_ixL (ed_var rfl (dp_ex x h1)) ed_cint rfl
    have i1 : ∀ {H' : Hp} {y z : Option V}, Ex H1 H' → EvD K (tOp (rIx K) (tVar 1) (tC (.int 1))) [some (.str (Sg g)), some v1, y, z] H' (.str (Sg b)) := fun x => ed_ixL (ed_var rfl (dp_ex x h1)) ed_cint rfl
    have cat : EvD K (tOp (rAddX K) (tOp (rIx K) (tVar 1) (tC (.int 0))) (tOp (rIx K) (tVar 1) (tC (.int 1)))) [some (.str (Sg g)), some v1, none, none] H1 (.str (Sg (a ++ b))) := EvD.to (ed_catS (i0 (Ex.refl _)) (i1 (Ex.refl _)) (by rw [sg_len, sg_len]; omega)) (by rw [sg_app])
    have sz := sg_size (a ++ b)
    have comp := en_lc2 (K := K) (σ := [some (.str (Sg g)), some v1, none, none]) (H := H1) (j := 3) (vs := [3]) (te := tVar 3) (tt := tTest (tOp (rNotInX K) (tVar 3) (tC (.str ((("01" : String)) : Str))))) (wi := iSeq K (tOp (rAddX K) (tOp (rIx K) (tVar 1) (tC (.int 0))) (tOp (rIx K) (tVar 1) (tC (.int 1))))) (fun i : Nat => !((a ++ b).getD i 0 == 48 || (a ++ b).getD i 0 == 49)) (fun i : Nat => .str ⟨#[(a ++ b).getD i 0]⟩) (EvI.or (EvI.or (ei_str (K := K) cat))) (by rw [sz, List.length_append]; omega) (fun _ _ _ => rfl) (fun _ => rfl) (fun i x H9 hi x9 hx => by
      rw [sg_cps] at hx
      exact EvT.to (et_tst (K := K) (ed_notInS (ed_var rfl hx) (EvD.to ed_cstr (by rw [show ((("01" : String)) : Str) = Sg [48, 49] from str_01])))) (by rw [mem01])) (fun i x H9 hi x9 hx _ => by
      rw [sg_cps] at hx
      exact ed_var rfl hx)
    have t2 := et_tst (K := K) (ed_eqS (b := []) (i1 (y := none) (z := none) (Ex.refl _)) (EvD.to (ed_cstr (i := ((("" : String)) : Str))) (by rw [str_nil])) ltB (fun z hz => by cases hz))
    have t3 := et_tru (K := K) comp.toD
    have okab : okC (a ++ b) = (okC a && okC b) := by unfold okC; rw [List.all_append]
    have tv : tru (PyData.list (gv (Sg (a ++ b)).cps.size (fun i : Nat => !((a ++ b).getD i 0 == 48 || (a ++ b).getD i 0 == 49)) (fun i : Nat => PyData.str ⟨#[(a ++ b).getD i 0]⟩))) = !okC (a ++ b) := by
      show (!List.isEmpty _) = _
      congr 1
      rw [Bool.eq_iff_iff, List.isEmpty_iff, gv_nil, okC_getD, sz]
      exact forall_congr' fun i => imp_congr_right fun _ => by rw [Bool.not_eq_false']
    refine q_when (EvT.to (et_or t1 fun _ => et_or t2 fun _ => t3) (c := !(!decide (b = []) && okC (a ++ b))) (by
      rw [eab, tv]
      show (false || (decide (b = []) || !okC (a ++ b))) = _
      cases decide (b = []) <;> cases okC (a ++ b) <;> rfl)) (fun z H2 x2 => ?_) (fun z H2 x2 => ?_)
    · refine sd_ret (K := K) (d := .none) ed_cnon fun v H3 x3 hv => q v H3 (x1.trans (x2.trans x3)) ?_
      have : dueT g = .none := by
        cases ef : formT g with
        | none => exact due_no ef
        | some P =>
          rw [due_some ef]
          unfold formT at ef
          rw [eab] at ef
          dsimp only at ef
          split at ef
          · rename_i ok
            have := Option.some.inj ef
            subst this
            refine if_neg fun w => ?_
            have nb : b ≠ [] := fun e => w.1 (by subst e; rfl)
            rw [okab, ok.1, ok.2, decide_eq_false nb] at z
            cases z
          · cases ef
      rw [this]
      exact hv
    · have z' : (!decide (b = []) && okC (a ++ b)) = true := by simpa using z
      rw [okab, Bool.and_eq_true, Bool.and_eq_true, Bool.not_eq_true', decide_eq_false_iff_not] at z'
      obtain ⟨nb, oa, ob⟩ := z'
      have ef : formT g = some (a.map bitC, b.map bitC) := by
        unfold formT
        rw [eab]
        exact if_pos ⟨oa, ob⟩
      have ic : ∀ {l : List Nat} {to : TE}, okC l = true → l.length ≤ 400 → EvD K to [some (.str (Sg g)), some v1, none, none] H2 (.str (Sg l)) → EvD K (tCB (rTupleOf K) (tCons (tLc (iSeq K to) (gName 3) tYes (tCB rIntX (tCons (tVar 3) tNil)) [3]) tNil)) [some (.str (Sg g)), some v1, none, none] H2 (.tuple ((l.map bitC).map .int)) := fun {l to} ok hl hto => by
        have comp := en_lc1 (K := K) (σ := [some (.str (Sg g)), some v1, none, none]) (H := H2) (j := 3) (vs := [3]) (wi := iSeq K to) (te := tCB rIntX (tCons (tVar 3) tNil)) (fun i : Nat => .int (bitC (l.getD i 0))) (EvI.or (EvI.or (ei_str (K := K) hto))) (by rw [sg_size]; omega) (fun _ _ => rfl) (fun _ => rfl) (fun i x H9 hi x9 hx => by
          rw [sg_cps] at hx
          rw [sg_size] at hi
          exact ed_intS (ed_var rfl hx) (int_bit (okC_getD.mp ok i hi)) (by show 1 ≤ 640; decide))
        have el : (List.range (Sg l).cps.size).map (fun i : Nat => PyData.int (bitC (l.getD i 0))) = (l.map bitC).map .int := by
          rw [sg_size]
          apply List.ext_getElem
          · simp
          · intro i h1 h2
            have hi : i < l.length := by simpa using h1
            simp [List.getD_eq_getElem?_getD, List.getElem?_eq_getElem hi]
        exact EvD.to (ed_tupL comp.toD) (by rw [el])
      refine qd_asg (K := K) (d := pul (a.map bitC) (b.map bitC)) (ed_tup (eds_cons (ic oa (by omega) (i0 x2)) (eds_cons (ic ob (by omega) (i1 x2)) eds_nil)) (by simp)) fun v2 H3 x3 h3 => ?_
      have nb' : b.map bitC ≠ [] := by simpa using nb
      have h3' := h3
      unfold pul at h3'
      have ed2 := due_some ef
      dsimp only at ed2
      refine q_when (EvT.to (et_tst (K := K) (ed_ne (ed_law_tightTT (ed_ixT (ed_var rfl h3') ed_cint rfl) (ed_ixT (ed_var rfl h3') ed_cint rfl) ⟨nb', by rw [List.length_map]; omega, by rw [List.length_map]; omega⟩) (ed_var rfl h3) (shp_pul _ _) (shp_pul _ _))) (c := !decide (tightM (a.map bitC) (b.map bitC) = (a.map bitC, b.map bitC))) (by
        rw [eqv_pul]
        congr 1
        rw [Bool.eq_iff_iff, Bool.and_eq_true, beq_iff_eq, beq_iff_eq, decide_eq_true_eq, Prod.ext_iff])) (fun z H4 x4 => ?_) (fun z H4 x4 => ?_)
      · have z' : ¬ tightM (a.map bitC) (b.map bitC) = (a.map bitC, b.map bitC) := by simpa using z
        refine sd_ret (K := K) (d := .none) ed_cnon fun v H5 x5 hv => q v H5 (x1.trans (x2.trans (x3.trans (x4.trans x5)))) ?_
        rw [ed2, if_neg fun w => z' w.2]
        exact hv
      · have z' : tightM (a.map bitC) (b.map bitC) = (a.map bitC, b.map bitC) := by simpa using z
        refine sd_ret (K := K) (d := pul (a.map bitC) (b.map bitC)) (ed_var rfl (dp_ex x4 h3)) fun v H5 x5 hv => q v H5 (x1.trans (x2.trans (x3.trans (x4.trans x5)))) ?_
        rw [ed2, if_pos ⟨nb', z'⟩]
        exact hv
  · refine q_when (EvT.to (et_or (b := false) t1 fun z => ?_) (c := true) (by
      rw [List.length_map, List.length_map, Bool.or_false, Bool.not_eq_true', beq_eq_false_iff_ne]
      omega)) (fun z H2 x2 => ?_) (fun z H2 x2 => by cases z)
    · rw [List.length_map, List.length_map, Bool.not_eq_false', beq_iff_eq] at z
      omega
    · refine sd_ret (K := K) (d := .none) ed_cnon fun v H3 x3 hv => q v H3 (x1.trans (x2.trans x3)) ?_
      have : dueT g = .none := due_no (by
        unfold formT
        split
        · rename_i a b e
          rw [e] at c
          exact absurd rfl c
        · rfl)
      rw [this]
      exact hv
/-! ### look_form -/
abbrev s_look_form : Stmt := topS 11
theorem sc_look_form : FnScope ["form"] ["form"] (defScope s_look_form) := ⟨rfl, rfl, rfl, by decide +kernel, rfl, by decide +kernel, by decide +kernel⟩
/-- a form -/
def formOk (d : PD) : Bool := match d with
  | .tuple [h, b] => areB h 0 400 && areB b 1 200
  | _ => false
def sp_look_form (K : PySem.W.Frag) (C_BadForm : Addr) : Sp := SpX K (fun d : PD => [d]) (fun _ => True) (fun d => if formOk d = true then .ok .none else .error C_BadForm)
theorem ed_look_form {σ : L2.St} {H : Hp} {ta : TE} {E : XK} {d : PD} {C_BadForm : Addr} (ha : EvD K ta σ H d) (hf : formOk d = true) : EvD K (tCall (sp_look_form K C_BadForm) [] E (tCons ta tNil)) σ H .none :=
  ed_callX d (eds_cons ha eds_nil) trivial (if_pos hf)
theorem er_look_form {σ : L2.St} {H : Hp} {ta : TE} {E : XK} {d : PD} {C_BadForm : Addr} (ha : EvD K ta σ H d) (hf : formOk d = false) (k : ∀ H2, Ex H H2 → E (.ref C_BadForm) none H2) : EvR (tCall (sp_look_form K C_BadForm) [] E (tCons ta tNil)) σ H :=
  er_callX d (eds_cons ha eds_nil) trivial (if_neg (by rw [hf]; decide)) k
theorem form_pul {d : PD} (h : formOk d = true) : ∃ a b : List Int, d = pul a b ∧ Bits a ∧ Bits b ∧ a.length ≤ 400 ∧ b ≠ [] ∧ b.length ≤ 200 := by
  unfold formOk at h
  split at h
  · rename_i x y
    rw [Bool.and_eq_true] at h
    obtain ⟨a, rfl, ha, _, la⟩ := areB_spec (lo := 0) (hi := 400) h.1
    obtain ⟨b, rfl, hb, lb, lb2⟩ := areB_spec (lo := 1) (hi := 200) h.2
    exact ⟨a, b, rfl, ha, hb, la, fun e => by subst e; simp at lb, lb2⟩
  · cases h
theorem pul_form {a b : List Int} (ha : Bits a) (hb : Bits b) (la : a.length ≤ 400) (nb : b ≠ []) (lb : b.length ≤ 200) : formOk (pul a b) = true := by
  show (areB _ 0 400 && areB _ 1 200) = true
  have := List.length_pos_iff.mpr nb
  rw [areB_bits ha, areB_bits hb]
  simp
  omega
local macro_rules | `(tactic| walk_at "ed") => `(tactic| ((with_reducible apply ed_look_form) <;> walk_at "ed"))
theorem can_look_form {C_BadForm : Addr} (F : Dfn K mg "look_form" s_look_form ["form"]) (bt : Bt mg) (c_are_bits : Can P w K mg base CX0 2 "are_bits" (sp_are_bits K)) (g_MOST_BAR : ∃ t, mg "MOST_BAR" = some (.int 200 t)) (g_MOST_HEAD : ∃ t, mg "MOST_HEAD" = some (.int 400 t)) (x_BadForm : ExcAt K mg "BadForm" C_BadForm) : Can P w K mg base (L2N.CX P w) 3 "look_form" (sp_look_form K C_BadForm) := by
  obtain ⟨t_MOST_BAR, g_MOST_BAR⟩ := g_MOST_BAR
  obtain ⟨t_MOST_HEAD, g_MOST_HEAD⟩ := g_MOST_HEAD
  refine can_XN F sc_look_form (fun g => rfl) (fun cdv A outer s H vs Q E f g hr hv hs q => ⟨_, ((pss_cons (ps_if (PW.pt (pw_or (pt_not (pt_truthK (K := K) rfl (pe_callB (call_isiK' (K := K) rfl) (by rfl) bt.isinstance (by decide +kernel) (pa_cons (pv 0) (pa_cons (pe_bltn (v := .ty "tuple") (by rfl) bt.tuple (by decide +kernel) rfl) pa_nil))) (fun _ => rfl))) (pw_or1 (pt_cmpR (op_neDK (K := K) rfl hr.units) (pe_callB (call_lenK (K := K) rfl) (by rfl) bt.len (by decide +kernel) (pa_cons (pv 0) pa_nil)) pe_int (nomark _))))) (pss_one (px_raiseN x_BadForm rfl (L2N.takes_of rfl rfl rfl rfl) rfl)) pss_nil)
  (pss_one (ps_if (PW.pt (pw_or (pt_not (pt_truthK (K := K) rfl (pc c_are_bits hr (by decide) (by rfl) (pa_cons (pe_ix (ix_K (K := K) rfl) (pv 0) pe_int (fun _ _ => rfl)) (pa_cons pe_int (pa_cons (pe_glob (v := .int 400) rfl g_MOST_HEAD ⟨_, rfl⟩) pa_nil)))) (fun _ => rfl))) (pw_or1 (pt_not (pt_truthK (K := K) rfl (pc c_are_bits hr (by decide) (by rfl) (pa_cons (pe_ix (ix_K (K := K) rfl) (pv 0) pe_int (fun _ _ => rfl)) (pa_cons pe_int (pa_cons (pe_glob (v := .int 200) rfl g_MOST_BAR ⟨_, rfl⟩) pa_nil)))) (fun _ => rfl)))))) (pss_one (px_raiseN x_BadForm rfl (L2N.takes_of rfl rfl rfl rfl) rfl)) pss_nil)))), ?_⟩)
  try dsimp only [L2.cxOf, L2.Cx.nox, L2.Cx.wish]
  try dsimp only at hv hs q
  obtain ⟨v0, rfl, h0⟩ := dpa1 hv
  by_cases ht : ∃ h b, g = .tuple [h, b]
  · obtain ⟨h, b, e⟩ := ht
    subst e
    refine q_when (EvT.to (et_or (b := false) (et_not (et_tru (K := K) (ed_isTup (ed_var rfl h0)))) fun z => EvT.to (et_tst (K := K) (ed_neI (ed_lenT (ed_var rfl h0)) ed_cint)) rfl) (c := false) rfl) (fun c H1 x1 => by cases c) (fun c H1 x1 => ?_)
    have i0 : EvD K (tOp (rIx K) (tVar 0) (tC (.int 0))) (L2.start ["form"] [v0]) H1 h := ed_ixT (ed_var rfl (dp_ex x1 h0)) ed_cint rfl
    have i1 : EvD K (tOp (rIx K) (tVar 0) (tC (.int 1))) (L2.start ["form"] [v0]) H1 b := ed_ixT (ed_var rfl (dp_ex x1 h0)) ed_cint rfl
    refine s_when (EvT.to (et_or (et_not (et_tru (K := K) (ed_are_bits i0 ed_cint ed_cint))) fun z => et_not (et_tru (K := K) (ed_are_bits i1 ed_cint ed_cint))) (c := !formOk (.tuple [h, b])) (by simp [tru, formOk, Bool.not_and])) (fun c H2 x2 => ?_) (fun c H2 x2 => ?_)
    · have c' : formOk (.tuple [h, b]) = false := by simpa using c
      exact q.er (if_neg (by rw [c']; decide)) _ (x1.trans x2)
    · have c' : formOk (.tuple [h, b]) = true := by simpa using c
      exact q.ok (if_pos c') _ _ (x1.trans x2) .non
  · have e : formOk g = false := by
      unfold formOk
      split
      · rename_i h b
        exact absurd ⟨h, b, rfl⟩ ht
      · rfl
    refine q_when (b := true) ?_ (fun c H1 x1 => q.er (if_neg (by rw [e]; decide)) _ x1) (fun c H1 x1 => by cases c)
    by_cases ht' : isTup g = true
    · obtain ⟨xs, e⟩ : ∃ xs, g = .tuple xs := by cases g <;> first | exact ⟨_, rfl⟩ | cases ht'
      subst e
      have hl : ¬ xs.length = 2 := fun z => by
        match xs, z with
        | [h, b], _ => exact ht ⟨h, b, rfl⟩
      refine EvT.to (et_or (b := true) (et_not (et_tru (K := K) (ed_isTup (ed_var rfl h0)))) fun z => EvT.to (et_tst (K := K) (ed_neI (ed_lenT (ed_var rfl h0)) ed_cint)) ?_) (by simp)
      simp
      omega
    · have ht2 : isTup g = false := by simpa using ht'
      exact EvT.to (et_or (b := true) (et_not (et_tru (K := K) (ed_isTup (ed_var rfl h0)))) fun z => by simp [tru, ht2] at z) (by simp)
/-! ### _law_form -/
abbrev s_law_form : Stmt := topS 24
theorem sc_law_form : FnScope ["_law_script", "_law_at", "_law_most", "_law_cell_here", "_law_head", "_law_bar"] ["_law_script", "_law_at"] (defScope s_law_form) := ⟨rfl, rfl, rfl, by decide +kernel, rfl, by decide +kernel, by decide +kernel⟩
def sp_law_form (K : PySem.W.Frag) : Sp := SpD K (fun g : List Int × Nat => [.list (g.1.map .int), .int g.2]) (fun g => g.1.length ≤ 63) (fun g => pul (formM g.1 g.2).1 (formM g.1 g.2).2)
theorem ed_law_form {σ : L2.St} {H : Hp} {ta tb : TE} {E : XK} {ns : List Int} {k : Int} (ha : EvD K ta σ H (.list (ns.map .int))) (hb : EvD K tb σ H (.int k)) (hl : ns.length ≤ 63) (hk : 0 ≤ k) : EvD K (tCall (sp_law_form K) [] E (tCons ta (tCons tb tNil))) σ H (pul (formM ns k.toNat).1 (formM ns k.toNat).2) :=
  ed_callD (ns, k.toNat) (eds_cons ha (eds_cons (hb.to (by simp [Int.toNat_of_nonneg hk])) eds_nil)) hl
local macro_rules | `(tactic| walk_at "ed") => `(tactic| ((with_reducible apply ed_law_form) <;> walk_at "ed"))
theorem can_law_form (F : Dfn K mg "_law_form" s_law_form ["_law_script", "_law_at"]) (bt : Bt mg) (c_law_large : Can P w K mg base CX0 2 "_law_large" (sp_law_large K)) (c_law_cell : Can P w K mg base CX0 1 "_law_cell" (sp_law_cell K)) (c_law_bits : Can P w K mg base CX0 2 "_law_bits" (sp_law_bits K)) (c_law_mix : Can P w K mg base CX0 1 "_law_mix" (sp_law_mix K)) : Can P w K mg base CX0 3 "_law_form" (sp_law_form K) := by
  refine can_D F sc_law_form (fun g => rfl) (fun cdv A outer s H vs Q E f g hr hv hs q => ⟨_, ((pss_cons (ps_set (i := 2) sc_law_form.nd rfl (Or.inl rfl) pe_int)
  (pss_cons (ps_if (pt_truthK (K := K) rfl (pc c_law_large hr (by decide) (by rfl) (pa_cons (pv 0) pa_nil)) (fun _ => rfl)) (pss_one (ps_set (i := 2) sc_law_form.nd rfl (Or.inl rfl) pe_int)) pss_nil)
  (pss_cons (ps_if (pt_cmpR op_gt (pe_callB (call_lenK (K := K) rfl) (by rfl) bt.len (by decide +kernel) (pa_cons (pv 0) pa_nil)) pe_int (nomark _)) (pss_one (ps_set (i := 2) sc_law_form.nd rfl (Or.inl rfl) pe_int)) pss_nil)
  (pss_cons (ps_set (i := 3) sc_law_form.nd rfl (Or.inl rfl) (pc c_law_cell hr (by decide) (by rfl) (pa_cons (pv 0) (pa_cons (pv 1) pa_nil))))
  (pss_cons (ps_set (i := 4) sc_law_form.nd rfl (Or.inl rfl) (pc c_law_bits hr (by decide) (by rfl) (pa_cons (pv 0) (pa_cons (pe_op (op_addK (K := K) rfl) (pv 1) pe_int) (pa_cons (pc c_law_mix hr (by decide) (by rfl) (pa_cons (pv 3) (pa_cons pe_int (pa_cons (pe_op (op_addK (K := K) rfl) (pv 2) pe_int) pa_nil)))) pa_nil)))))
  (pss_cons (ps_set (i := 5) sc_law_form.nd rfl (Or.inl rfl) (pc c_law_bits hr (by decide) (by rfl) (pa_cons (pv 0) (pa_cons (pe_op (op_addK (K := K) rfl) (pv 1) pe_int) (pa_cons (pe_op (op_addK (K := K) rfl) pe_int (pc c_law_mix hr (by decide) (by rfl) (pa_cons (pv 3) (pa_cons pe_int (pa_cons (pv 2) pa_nil))))) pa_nil)))))
  (pss_cons (ps_if (pt_cmpR (op_eqDK (K := K) rfl hr.units) (pc c_law_mix hr (by decide) (by rfl) (pa_cons (pv 3) (pa_cons pe_int (pa_cons pe_int pa_nil)))) pe_int (nomark _)) (pss_one (ps_set (i := 5) sc_law_form.nd rfl (Or.inl rfl) (pe_lst (pa_cons pe_int pa_nil)))) pss_nil)
  (pss_cons (ps_if (pt_cmpR (op_eqDK (K := K) rfl hr.units) (pc c_law_mix hr (by decide) (by rfl) (pa_cons (pv 3) (pa_cons pe_int (pa_cons pe_int pa_nil)))) pe_int (nomark _)) (pss_one (ps_set (i := 5) sc_law_form.nd rfl (Or.inl rfl) (pe_op (op_mulK (K := K) rfl) (pe_lst (pa_cons (pe_ix (ix_K (K := K) rfl) (pv 5) pe_int (fun _ _ => rfl)) pa_nil)) (pe_callB (call_lenK (K := K) rfl) (by rfl) bt.len (by decide +kernel) (pa_cons (pv 5) pa_nil))))) pss_nil)
  (pss_one (ps_ret (pe_tup (pa_cons (pe_callTy (call_tupleK (K := K) rfl) (by rfl) bt.tuple (by decide +kernel) (pa_cons (pv 4) pa_nil)) (pa_cons (pe_callTy (call_tupleK (K := K) rfl) (by rfl) bt.tuple (by decide +kernel) (pa_cons (pv 5) pa_nil)) pa_nil)))))))))))))), ?_⟩)
  try dsimp only [L2.cxOf, L2.Cx.nox, L2.Cx.wish]
  obtain ⟨ns, a⟩ := g
  dsimp only at hv hs q
  obtain ⟨v0, v1, rfl, h0, h1⟩ := dpa2 hv
  have e1 := dp_int h1
  subst e1
  have hm := mostM_le ns
  refine qd_asgI (K := K) (by walk_at "ed") fun H1 x1 => ?_
  refine qd_ifAsg (K := K) (i := 2) (d := .int (mostM ns)) (et_tru (K := K) (by walk_at "ed")) (fun hb => EvD.to (by walk_at "ed") (by have : largeM ns = true := hb; simp [mostM, this])) (fun hb => ⟨_, rfl, by have : largeM ns = false := hb; simp [mostM, this]; exact .int _⟩) fun v H2 x2 hv2 => ?_
  have e2 := dp_int hv2
  subst e2
  refine q_when (et_tst (K := K) (by walk_at "ed")) (fun c H3 x3 => ?_) (fun c H3 x3 => ?_)
  · simp at c
    omega
  refine qd_asgI (K := K) (by walk_at "ed") fun H4 x4 => ?_
  have m1 := mixM_nn (cellM ns a) 9973 (m := mostM ns + 1) (by omega)
  have m2 := mixM_nn (cellM ns a) 9967 (m := mostM ns) (by omega)
  have ea : (a : Int).toNat = a := Int.toNat_natCast a
  rw [ea]
  refine qd_asg (K := K) (by walk_at "ed") fun v4 H5 x5 h5 => ?_
  refine qd_asg (K := K) (by walk_at "ed") fun v5 H6 x6 h6 => ?_
  have ea1 : ((a : Int) + 1).toNat = a + 1 := by omega
  have ea2 : ((a : Int) + 2).toNat = a + 2 := by omega
  rw [ea1] at h5
  rw [ea2] at h6
  refine qd_ifAsg (K := K) (i := 5) (d := .list ((if mixM (cellM ns a) 9949 5 == 0 then [0] else bitsM ns (a + 2) (1 + mixM (cellM ns a) 9967 (mostM ns)).toNat).map .int)) (et_tst (K := K) (by walk_at "ed")) (fun hb => EvD.to (by walk_at "ed") (by simp only [hb, if_true]; rfl)) (fun hb => ⟨_, rfl, by simp only [hb]; exact h6⟩) fun v6 H7 x7 h7 => ?_
  have fo := form_ok ns a
  generalize hB : (if mixM (cellM ns a) 9949 5 == 0 then [0] else bitsM ns (a + 2) (1 + mixM (cellM ns a) 9967 (mostM ns)).toNat) = B at h7
  have hF : (formM ns a).2 = if mixM (cellM ns a) 9949 5 == 1 then List.replicate B.length (B.getD 0 0) else B := by
    rw [← hB]
    rfl
  have hB0 : 0 < B.length ∧ B.length ≤ 14 := by
    rw [← hB]
    split
    · simp
    · rw [bitsM_len]
      omega
  refine qd_ifAsg (K := K) (i := 5) (d := .list ((formM ns a).2.map .int)) (et_tst (K := K) (by walk_at "ed")) (fun hb => ?_) (fun hb => ⟨_, rfl, by rw [hF]; simp only [hb]; exact h7⟩) fun v8 H8 x8 h8 => ?_
  · refine EvD.to (ed_repL (ed_lst (eds_cons (ed_ixL (ed_var rfl h7) ed_cint (at_ints (i := 0) hB0.1)) eds_nil) (by simp)) (ed_lenL (ed_var rfl h7)) ⟨by first | omega | (simp; omega), by first | omega | (simp; omega)⟩ (by first | omega | (simp; done) | (simp; omega))) ?_
    rw [hF]
    simp only [hb, if_true]
    simp [List.map_replicate]
  · refine sd_ret (K := K) (EvD.to (by walk_at "ed") (by simp [pul]; rfl)) fun v H9 x9 hv => q v H9 ((((((((x1.trans x2).trans x3).trans x4).trans x5).trans x6).trans x7).trans x8).trans x9) hv
/-! ### checked -/
abbrev s_checked : Stmt := topS 14
theorem sc_checked : FnScope ["pulse"] ["pulse"] (defScope s_checked) := ⟨rfl, rfl, rfl, by decide +kernel, rfl, by decide +kernel, by decide +kernel⟩
/-- what checked answers -/
def checkM (CB CN : Addr) (d : PD) (h b : List Int) : Except Addr PD := if formOk d = true then (if tightM h b = (h, b) then .ok (pul h b) else .error CN) else .error CB
def sp_checked (K : PySem.W.Frag) (C_BadForm C_NotTight : Addr) : Sp := SpX K (fun g : PD × List Int × List Int => [g.1]) (fun g => formOk g.1 = true → g.1 = pul g.2.1 g.2.2) (fun g => checkM C_BadForm C_NotTight g.1 g.2.1 g.2.2)
theorem ed_checked {σ : L2.St} {H : Hp} {ta : TE} {E : XK} {h b : List Int} {C_BadForm C_NotTight : Addr} (ha : EvD K ta σ H (pul h b)) (hf : formOk (pul h b) = true) (ht : tightM h b = (h, b)) : EvD K (tCall (sp_checked K C_BadForm C_NotTight) [] E (tCons ta tNil)) σ H (pul h b) :=
  ed_callX (pul h b, h, b) (eds_cons ha eds_nil) (fun _ => rfl) (by unfold checkM; rw [if_pos hf, if_pos ht])
theorem er_checked1 {σ : L2.St} {H : Hp} {ta : TE} {E : XK} {d : PD} {C_BadForm C_NotTight : Addr} (ha : EvD K ta σ H d) (hf : formOk d = false) (k : ∀ H2, Ex H H2 → E (.ref C_BadForm) none H2) : EvR (tCall (sp_checked K C_BadForm C_NotTight) [] E (tCons ta tNil)) σ H :=
  er_callX (d, [], []) (eds_cons ha eds_nil) (fun z => by rw [hf] at z; cases z) (by unfold checkM; rw [if_neg (by rw [hf]; decide)]) k
theorem er_checked2 {σ : L2.St} {H : Hp} {ta : TE} {E : XK} {h b : List Int} {C_BadForm C_NotTight : Addr} (ha : EvD K ta σ H (pul h b)) (hf : formOk (pul h b) = true) (ht : tightM h b ≠ (h, b)) (k : ∀ H2, Ex H H2 → E (.ref C_NotTight) none H2) : EvR (tCall (sp_checked K C_BadForm C_NotTight) [] E (tCons ta tNil)) σ H :=
  er_callX (pul h b, h, b) (eds_cons ha eds_nil) (fun _ => rfl) (by unfold checkM; rw [if_pos hf, if_neg ht]) k
local macro_rules | `(tactic| walk_at "ed") => `(tactic| ((with_reducible apply ed_checked) <;> walk_at "ed"))
theorem can_checked {C_BadForm C_NotTight : Addr} (F : Dfn K mg "checked" s_checked ["pulse"]) (bt : Bt mg) (c_look_form : Can P w K mg base (L2N.CX P w) 3 "look_form" (sp_look_form K C_BadForm)) (c_tight : Can P w K mg base CX0 2 "tight" (sp_tight K)) (x_NotTight : ExcAt K mg "NotTight" C_NotTight) : Can P w K mg base (L2N.CX P w) 4 "checked" (sp_checked K C_BadForm C_NotTight) := by
  refine can_XN F sc_checked (fun g => rfl) (fun cdv A outer s H vs Q E f g hr hv hs q => ⟨_, ((pss_cons (ps_expr (pcXN c_look_form hr (by decide) rfl (L2N.passes_call (L2N.takes_of rfl rfl rfl rfl) (fun _ _ _ _ h => h)) (pa_cons (pv 0) pa_nil)))
  (pss_cons (ps_if (pt_cmpR (op_neDK (K := K) rfl hr.units) (pc c_tight hr (by decide) (by rfl) (pa_cons (pe_ix (ix_K (K := K) rfl) (pv 0) pe_int (fun _ _ => rfl)) (pa_cons (pe_ix (ix_K (K := K) rfl) (pv 0) pe_int (fun _ _ => rfl)) pa_nil))) (pv 0) (nomark _)) (pss_one (px_raiseN x_NotTight rfl (L2N.takes_of rfl rfl rfl rfl) rfl)) pss_nil)
  (pss_one (ps_ret (pv 0)))))), ?_⟩)
  try dsimp only [L2.cxOf, L2.Cx.nox, L2.Cx.wish]
  obtain ⟨d, h, b⟩ := g
  dsimp only at hv hs q
  obtain ⟨v0, rfl, h0⟩ := dpa1 hv
  cases hf : formOk d with
  | true =>
    have e := hs hf
    subst e
    obtain ⟨h', b', e', f1, f2, f3, f4, f5⟩ := form_pul hf
    have nb : b ≠ [] ∧ h.length ≤ 90000 ∧ b.length ≤ 90000 := by
      unfold pul at e'
      injection e' with e'
      injection e' with e1 e2
      injection e2 with e2 _
      injection e1 with e1
      injection e2 with e2
      have l1 := congrArg List.length e1
      have l2 := congrArg List.length e2
      simp only [List.length_map] at l1 l2
      have := List.length_pos_iff.mpr f4
      exact ⟨List.length_pos_iff.mp (by omega), by omega, by omega⟩
    refine qd_drop (ed_look_form (ed_var rfl h0) hf) fun H1 x1 => ?_
    have h0' := h0
    unfold pul at h0
    refine q_when (EvT.to (et_tst (K := K) (ed_ne (ed_tight (ed_ixT (ed_var rfl (dp_ex x1 h0)) ed_cint rfl) (ed_ixT (ed_var rfl (dp_ex x1 h0)) ed_cint rfl) nb) (ed_var rfl (dp_ex x1 h0')) (shp_pul _ _) (shp_pul _ _))) (c := !decide (tightM h b = (h, b))) ?_) (fun c H2 x2 => ?_) (fun c H2 x2 => ?_)
    · rw [eqv_pul]
      congr 1
      rw [Bool.eq_iff_iff, Bool.and_eq_true, beq_iff_eq, beq_iff_eq, decide_eq_true_eq]
      exact ⟨fun z => Prod.ext z.1 z.2, fun z => ⟨congrArg Prod.fst z, congrArg Prod.snd z⟩⟩
    · have c' : ¬ tightM h b = (h, b) := by simpa using c
      exact q.er (by unfold checkM; rw [if_pos hf, if_neg c']) H2 (x1.trans x2)
    · have c' : tightM h b = (h, b) := by simpa using c
      refine sd_ret (K := K) (ed_var rfl (dp_ex (x1.trans x2) h0')) fun v H3 x3 hv => q.ok (by unfold checkM; rw [if_pos hf, if_pos c']) v H3 ((x1.trans x2).trans x3) hv
  | false =>
    exact qx_drop (er_look_form (ed_var rfl h0) hf fun H2 x2 => q.er (by unfold checkM; rw [if_neg (by rw [hf]; decide)]) H2 x2)
/-! ### _law_pulse -/
abbrev s_law_pulse : Stmt := topS 25
theorem sc_law_pulse : FnScope ["_law_script", "_law_at", "_law_form_here"] ["_law_script", "_law_at"] (defScope s_law_pulse) := ⟨rfl, rfl, rfl, by decide +kernel, rfl, by decide +kernel, by decide +kernel⟩
def sp_law_pulse (K : PySem.W.Frag) : Sp := SpD K (fun g : List Int × Nat => [.list (g.1.map .int), .int g.2]) (fun g => g.1.length ≤ 63) (fun g => pul (pulseM g.1 g.2).1 (pulseM g.1 g.2).2)
theorem ed_law_pulse {σ : L2.St} {H : Hp} {ta tb : TE} {E : XK} {ns : List Int} {k : Int} (ha : EvD K ta σ H (.list (ns.map .int))) (hb : EvD K tb σ H (.int k)) (hl : ns.length ≤ 63) (hk : 0 ≤ k) : EvD K (tCall (sp_law_pulse K) [] E (tCons ta (tCons tb tNil))) σ H (pul (pulseM ns k.toNat).1 (pulseM ns k.toNat).2) :=
  ed_callD (ns, k.toNat) (eds_cons ha (eds_cons (hb.to (by simp [Int.toNat_of_nonneg hk])) eds_nil)) hl
local macro_rules | `(tactic| walk_at "ed") => `(tactic| ((with_reducible apply ed_law_pulse) <;> walk_at "ed"))
theorem can_law_pulse (F : Dfn K mg "_law_pulse" s_law_pulse ["_law_script", "_law_at"]) (bt : Bt mg) (c_law_form : Can P w K mg base CX0 3 "_law_form" (sp_law_form K)) (c_law_tight : Can P w K mg base CX0 1 "_law_tight" (sp_law_tight K)) : Can P w K mg base CX0 4 "_law_pulse" (sp_law_pulse K) := by
  refine can_D F sc_law_pulse (fun g => rfl) (fun cdv A outer s H vs Q E f g hr hv hs q => ⟨_, ((pss_cons (ps_set (i := 2) sc_law_pulse.nd rfl (Or.inl rfl) (pc c_law_form hr (by decide) (by rfl) (pa_cons (pv 0) (pa_cons (pv 1) pa_nil))))
  (pss_one (ps_ret (pc c_law_tight hr (by decide) (by rfl) (pa_cons (pe_ix (ix_K (K := K) rfl) (pv 2) pe_int (fun _ _ => rfl)) (pa_cons (pe_ix (ix_K (K := K) rfl) (pv 2) pe_int (fun _ _ => rfl)) pa_nil))))))), ?_⟩)
  try dsimp only [L2.cxOf, L2.Cx.nox, L2.Cx.wish]
  obtain ⟨ns, a⟩ := g
  dsimp only at hv hs q
  obtain ⟨v0, v1, rfl, h0, h1⟩ := dpa2 hv
  have e1 := dp_int h1
  subst e1
  refine qd_asg (K := K) (by walk_at "ed") fun v2 H1 x1 h2 => ?_
  have ea : (a : Int).toNat = a := Int.toNat_natCast a
  rw [ea] at h2
  unfold pul at h2
  obtain ⟨f1, f2, f3, f4, f5⟩ := form_ok ns a
  refine sd_ret (K := K) (EvD.to (by walk_at "ed") (by rfl)) fun v H2 x2 hv => q v H2 (x1.trans x2) hv
/-! ### _law_bad -/
abbrev s_law_bad : Stmt := topS 30
theorem sc_law_bad : FnScope ["_law_script", "_law_text_here", "_law_at", "_law_way", "_law_some"] ["_law_script", "_law_text_here"] (defScope s_law_bad) := ⟨rfl, rfl, rfl, by decide +kernel, rfl, by decide +kernel, by decide +kernel⟩
/-- nine things that are no texts of a pulse -/
def someM (l : List Nat) : List PD := [.str (Sg []), .str (Sg [124]), .str (Sg (l ++ [32])), .none, .int 7, .list [.str (Sg l)], .str (Sg (List.replicate 401 48 ++ [124, 49])), .str (Sg (124 :: (List.replicate 101 [48, 49]).flatten)), .str (Sg (l ++ [124, 48]))]
def badM (ns : List Int) (l : List Nat) : PD :=
  if cellM ns 0 % 6 = 0 then .str (Sg (l.take (cellM ns 1 % (l.length : Int)).toNat ++ l.drop ((cellM ns 1 % (l.length : Int)).toNat + 1)))
  else if cellM ns 0 % 6 = 1 then .str (Sg (l.take ((cellM ns 1 % (l.length : Int)).toNat + 1) ++ l.drop (cellM ns 1 % (l.length : Int)).toNat))
  else if cellM ns 0 % 6 = 2 then .str (Sg (l.take (cellM ns 1 % (l.length : Int)).toNat ++ [[48, 49, 124, 32, 50].getD (cellM ns 2 % 5).toNat 0] ++ l.drop ((cellM ns 1 % (l.length : Int)).toNat + 1)))
  else if cellM ns 0 % 6 = 3 then .str (txtP (formM ns 7).1 (formM ns 7).2)
  else (someM l).getD (cellM ns 1 % 9).toNat .none
def sp_law_bad (K : PySem.W.Frag) : Sp := SpD K (fun g : List Int × List Nat => [.list (g.1.map .int), .str (Sg g.2)]) (fun g => g.1.length ≤ 63 ∧ 1 ≤ g.2.length ∧ g.2.length ≤ 40 ∧ LtS g.2) (fun g => badM g.1 g.2)
theorem ed_law_bad {σ : L2.St} {H : Hp} {ta tb : TE} {E : XK} {ns : List Int} {l : List Nat} (ha : EvD K ta σ H (.list (ns.map .int))) (hb : EvD K tb σ H (.str (Sg l))) (hs : ns.length ≤ 63 ∧ 1 ≤ l.length ∧ l.length ≤ 40 ∧ LtS l) : EvD K (tCall (sp_law_bad K) [] E (tCons ta (tCons tb tNil))) σ H (badM ns l) :=
  ed_callD (ns, l) (eds_cons ha (eds_cons hb eds_nil)) hs
theorem rep_1 : Txt.mul ((("0" : String)) : Str) 401 ++ ((("|1" : String)) : Str) = Sg (List.replicate 401 48 ++ [124, 49]) := by decide +kernel
theorem rep_2 : ((("|" : String)) : Str) ++ Txt.mul ((("01" : String)) : Str) 101 = Sg (124 :: (List.replicate 101 [48, 49]).flatten) := by decide +kernel
theorem mok_1 : MulOk ((("0" : String)) : Str) 401 := by unfold MulOk; decide +kernel
theorem mok_2 : MulOk ((("01" : String)) : Str) 101 := by unfold MulOk; decide +kernel
local macro_rules | `(tactic| walk_at "ed") => `(tactic| ((with_reducible apply ed_law_bad) <;> walk_at "ed"))
theorem can_law_bad (F : Dfn K mg "_law_bad" s_law_bad ["_law_script", "_law_text_here"]) (bt : Bt mg) (c_law_cell : Can P w K mg base CX0 1 "_law_cell" (sp_law_cell K)) (c_law_text : Can P w K mg base CX0 1 "_law_text" (sp_law_text K)) (c_law_form : Can P w K mg base CX0 3 "_law_form" (sp_law_form K)) : Can P w K mg base CX0 4 "_law_bad" (sp_law_bad K) := by
  refine can_D F sc_law_bad (fun g => rfl) (fun cdv A outer s H vs Q E f g hr hv hs q => ⟨_, ((pss_cons (ps_set (i := 2) sc_law_bad.nd rfl (Or.inl rfl) (pe_op op_mod (pc c_law_cell hr (by decide) (by rfl) (pa_cons (pv 0) (pa_cons pe_int pa_nil))) (pe_callB (call_lenK (K := K) rfl) (by rfl) bt.len (by decide +kernel) (pa_cons (pv 1) pa_nil))))
  (pss_cons (ps_set (i := 3) sc_law_bad.nd rfl (Or.inl rfl) (pe_op op_mod (pc c_law_cell hr (by decide) (by rfl) (pa_cons (pv 0) (pa_cons pe_int pa_nil))) pe_int))
  (pss_cons (ps_if (pt_cmpR (op_eqDK (K := K) rfl hr.units) (pv 3) pe_int (nomark _)) (pss_one (ps_ret (pe_op (op_addK (K := K) rfl) (pe_slice (sl_KS (K := K) rfl) (pv 1) po_none (po_some (pv 2))) (pe_slice (sl_KS (K := K) rfl) (pv 1) (po_some (pe_op (op_addK (K := K) rfl) (pv 2) pe_int)) po_none)))) pss_nil)
  (pss_cons (ps_if (pt_cmpR (op_eqDK (K := K) rfl hr.units) (pv 3) pe_int (nomark _)) (pss_one (ps_ret (pe_op (op_addK (K := K) rfl) (pe_slice (sl_KS (K := K) rfl) (pv 1) po_none (po_some (pe_op (op_addK (K := K) rfl) (pv 2) pe_int))) (pe_slice (sl_KS (K := K) rfl) (pv 1) (po_some (pv 2)) po_none)))) pss_nil)
  (pss_cons (ps_if (pt_cmpR (op_eqDK (K := K) rfl hr.units) (pv 3) pe_int (nomark _)) (pss_one (ps_ret (pe_op (op_addK (K := K) rfl) (pe_op (op_addK (K := K) rfl) (pe_slice (sl_KS (K := K) rfl) (pv 1) po_none (po_some (pv 2))) (pe_ix (ix_K (K := K) rfl) pe_str (pe_op op_mod (pc c_law_cell hr (by decide) (by rfl) (pa_cons (pv 0) (pa_cons pe_int pa_nil))) pe_int) (fun _ _ => rfl))) (pe_slice (sl_KS (K := K) rfl) (pv 1) (po_some (pe_op (op_addK (K := K) rfl) (pv 2) pe_int)) po_none)))) pss_nil)
  (pss_cons (ps_if (pt_cmpR (op_eqDK (K := K) rfl hr.units) (pv 3) pe_int (nomark _)) (pss_one (ps_ret (pc c_law_text hr (by decide) (by rfl) (pa_cons (pc c_law_form hr (by decide) (by rfl) (pa_cons (pv 0) (pa_cons pe_int pa_nil))) pa_nil)))) pss_nil)
  (pss_cons (ps_set (i := 4) sc_law_bad.nd rfl (Or.inl rfl) (pe_lst (pa_cons pe_str (pa_cons pe_str (pa_cons (pe_op (op_addK (K := K) rfl) (pv 1) pe_str) (pa_cons pe_non (pa_cons pe_int (pa_cons (pe_lst (pa_cons (pv 1) pa_nil)) (pa_cons (pe_op (op_addK (K := K) rfl) (pe_op (op_mulKS (K := K) rfl) pe_str pe_int) pe_str) (pa_cons (pe_op (op_addK (K := K) rfl) pe_str (pe_op (op_mulKS (K := K) rfl) pe_str pe_int)) (pa_cons (pe_op (op_addK (K := K) rfl) (pv 1) pe_str) pa_nil)))))))))))
  (pss_one (ps_ret (pe_ix (ix_K (K := K) rfl) (pv 4) (pe_op op_mod (pc c_law_cell hr (by decide) (by rfl) (pa_cons (pv 0) (pa_cons pe_int pa_nil))) pe_int) (fun _ _ => rfl)))))))))))), ?_⟩)
  try dsimp only [L2.cxOf, L2.Cx.nox, L2.Cx.wish]
  obtain ⟨ns, l⟩ := g
  dsimp only at hv hs q
  obtain ⟨hn, l1, l2, lt⟩ := hs
  obtain ⟨v0, v1, rfl, h0, h1⟩ := dpa2 hv
  have e1 := dp_str h1
  subst e1
  have hs1 : ∀ {H' : Hp} {a b c d : Option V}, EvD K (tVar 1) [a, some (.str (Sg l)), b, c, d] H' (.str (Sg l)) := fun {H' a b c d} => ed_var rfl (.str _)
  refine qd_asgI (K := K) (j := ((cellM ns 1 % (l.length : Int)).toNat : Int)) (EvD.to (ed_mod (ed_law_cell (ed_var rfl h0) ed_cint (by decide)) (ed_lenS hs1 (by rw [sg_len]; omega)) (by rw [sg_len]; omega)) (by
    rw [sg_len, Int.toNat_of_nonneg (Int.emod_nonneg _ (by omega))]
    rfl)) fun H1 x1 => ?_
  have hat : (cellM ns 1 % (l.length : Int)).toNat < l.length := by
    have := Int.emod_lt_of_pos (cellM ns 1) (show (0 : Int) < l.length by omega)
    omega
  have eb : ∀ A : Nat, A = (cellM ns 1 % (l.length : Int)).toNat → badM ns l = (if cellM ns 0 % 6 = 0 then .str (Sg (l.take A ++ l.drop (A + 1)))
    else if cellM ns 0 % 6 = 1 then .str (Sg (l.take (A + 1) ++ l.drop A))
    else if cellM ns 0 % 6 = 2 then .str (Sg (l.take A ++ [[48, 49, 124, 32, 50].getD (cellM ns 2 % 5).toNat 0] ++ l.drop (A + 1)))
    else if cellM ns 0 % 6 = 3 then .str (txtP (formM ns 7).1 (formM ns 7).2)
    else (someM l).getD (cellM ns 1 % 9).toNat .none) := fun A e => by subst e; rfl
  generalize hA : (cellM ns 1 % (l.length : Int)).toNat = A at hat ⊢
  have eb := eb A hA.symm
  refine qd_asgI (K := K) (j := cellM ns 0 % 6) (EvD.to (ed_mod (ed_law_cell (ed_var rfl (dp_ex x1 h0)) ed_cint (by decide)) ed_cint (by decide)) rfl) fun H2 x2 => ?_
  have h02 := dp_ex (x1.trans x2) h0
  have x12 := x1.trans x2
  generalize hw : cellM ns 0 % 6 = w at eb ⊢
  have e1a : ((A : Int) + 1) = ((A + 1 : Nat) : Int) := by omega
  have sTo : ∀ {H' : Hp} {a d : Option V}, EvD K (tSl (rSlXS K) (tVar 1) tNoPart (tPart (tVar 2))) [a, some (.str (Sg l)), some (.int (A : Int)), some (.int w), d] H' (.str (Sg (l.take A))) := fun {H' a d} => EvD.to (ed_slS (ed_var rfl (.str _)) eo_none (eo_int (K := K) (ed_var rfl (.int _))) (by omega)) (by rw [cutD_to])
  have sTo1 : ∀ {H' : Hp} {a d : Option V}, EvD K (tSl (rSlXS K) (tVar 1) tNoPart (tPart (tOp (rAddX K) (tVar 2) (tC (.int 1))))) [a, some (.str (Sg l)), some (.int (A : Int)), some (.int w), d] H' (.str (Sg (l.take (A + 1)))) := fun {H' a d} => EvD.to (ed_slS (ed_var rfl (.str _)) eo_none (eo_int (K := K) (ed_add (ed_var rfl (.int _)) ed_cint)) (by omega)) (by rw [e1a, cutD_to])
  have sFr : ∀ {H' : Hp} {a d : Option V}, EvD K (tSl (rSlXS K) (tVar 1) (tPart (tVar 2)) tNoPart) [a, some (.str (Sg l)), some (.int (A : Int)), some (.int w), d] H' (.str (Sg (l.drop A))) := fun {H' a d} => EvD.to (ed_slS (ed_var rfl (.str _)) (eo_int (K := K) (ed_var rfl (.int _))) eo_none (by omega)) (by rw [cutD_from])
  have sFr1 : ∀ {H' : Hp} {a d : Option V}, EvD K (tSl (rSlXS K) (tVar 1) (tPart (tOp (rAddX K) (tVar 2) (tC (.int 1)))) tNoPart) [a, some (.str (Sg l)), some (.int (A : Int)), some (.int w), d] H' (.str (Sg (l.drop (A + 1)))) := fun {H' a d} => EvD.to (ed_slS (ed_var rfl (.str _)) (eo_int (K := K) (ed_add (ed_var rfl (.int _)) ed_cint)) eo_none (by omega)) (by rw [e1a, cutD_from])
  have t : ∀ {H' : Hp} {a b c d : Option V} (k : Int), EvT (tTest (tOp (rEqD K) (tVar 3) (tC (.int k)))) [a, b, c, some (.int w), d] H' (decide (w = k)) := fun {H' a b c d} k => EvT.to (et_tst (K := K) (ed_eqI (ed_var rfl (.int _)) ed_cint)) (by rw [Bool.eq_iff_iff, beq_iff_eq, decide_eq_true_eq])
  refine q_when (t 0) (fun z H3 x3 => ?_) (fun z H3 x3 => ?_)
  · refine sd_ret (K := K) (d := .str (Sg (l.take A ++ l.drop (A + 1)))) (EvD.to (ed_catS sTo sFr1 (by rw [sg_len, sg_len, List.length_take, List.length_drop]; omega)) (by rw [sg_app])) fun v H4 x4 hv => q v H4 (x12.trans (x3.trans x4)) (by rw [eb, if_pos (of_decide_eq_true z)]; exact hv)
  rw [if_neg (of_decide_eq_false z)] at eb
  refine q_when (t 1) (fun z H4 x4 => ?_) (fun z H4 x4 => ?_)
  · refine sd_ret (K := K) (d := .str (Sg (l.take (A + 1) ++ l.drop A))) (EvD.to (ed_catS sTo1 sFr (by rw [sg_len, sg_len, List.length_take, List.length_drop]; omega)) (by rw [sg_app])) fun v H5 x5 hv => q v H5 (x12.trans (x3.trans (x4.trans x5))) (by rw [eb, if_pos (of_decide_eq_true z)]; exact hv)
  rw [if_neg (of_decide_eq_false z)] at eb
  have x14 := x12.trans (x3.trans x4)
  refine q_when (t 2) (fun z H5 x5 => ?_) (fun z H5 x5 => ?_)
  · have hm : atI [48, 49, 124, 32, 50] (cellM ns 2 % 5) = some ([48, 49, 124, 32, 50].getD (cellM ns 2 % 5).toNat 0) := by
      have : cellM ns 2 % 5 = 0 ∨ cellM ns 2 % 5 = 1 ∨ cellM ns 2 % 5 = 2 ∨ cellM ns 2 % 5 = 3 ∨ cellM ns 2 % 5 = 4 := by omega
      rcases this with e | e | e | e | e <;> rw [e] <;> rfl
    refine sd_ret (K := K) (d := .str (Sg (l.take A ++ [[48, 49, 124, 32, 50].getD (cellM ns 2 % 5).toNat 0] ++ l.drop (A + 1)))) (EvD.to (ed_catS (ed_catS sTo (ed_ixS (l := [48, 49, 124, 32, 50]) (EvD.to ed_cstr (by rw [show ((("01| 2" : String)) : Str) = Sg [48, 49, 124, 32, 50] by decide +kernel])) (EvD.to (ed_mod (ed_law_cell (ed_var rfl (dp_ex (x3.trans (x4.trans x5)) h02)) ed_cint (by decide)) ed_cint (by decide)) rfl) hm (by decide)) (by rw [sg_len, sg_len, List.length_take, List.length_singleton]; omega)) sFr1 (by rw [sg_app, sg_len, sg_len, List.length_append, List.length_take, List.length_singleton, List.length_drop]; omega)) (by rw [sg_app, sg_app])) fun v H6 x6 hv => q v H6 (x14.trans (x5.trans x6)) (by rw [eb, if_pos (of_decide_eq_true z)]; exact hv)
  rw [if_neg (of_decide_eq_false z)] at eb
  have x15 := x14.trans x5
  refine q_when (t 3) (fun z H6 x6 => ?_) (fun z H6 x6 => ?_)
  · obtain ⟨f1, f2, f3, f4, f5⟩ := form_ok ns 7
    refine sd_ret (K := K) (d := .str (txtP (formM ns 7).1 (formM ns 7).2)) (EvD.to (ed_law_text (ed_law_form (ed_var rfl (dp_ex (x3.trans (x4.trans (x5.trans x6))) h02)) ed_cint hn (by decide)) ⟨⟨f4, by show (formM ns 7).1.length ≤ _; omega⟩, f5, by show (formM ns 7).2.length ≤ _; omega⟩) rfl) fun v H7 x7 hv => q v H7 (x15.trans (x6.trans x7)) (by rw [eb, if_pos (of_decide_eq_true z)]; exact hv)
  rw [if_neg (of_decide_eq_false z)] at eb
  have hb := fun {H' : Hp} {a b c d : Option V} => @hs1 H' a b c d
  refine qd_asg (K := K) (d := .list (someM l)) (ed_lst (eds_cons (EvD.to ed_cstr (by rw [show ((("" : String)) : Str) = Sg [] from str_nil])) (eds_cons (EvD.to ed_cstr (by rw [show ((("|" : String)) : Str) = Sg [124] from str_bar])) (eds_cons (EvD.to (ed_catS hs1 ed_cstr (by rw [sg_len]; show _ + 1 ≤ _; omega)) (by rw [show (((" " : String)) : Str) = Sg [32] by decide +kernel, sg_app])) (eds_cons ed_cnon (eds_cons ed_cint (eds_cons (ed_lst (eds_cons hs1 eds_nil) (by show 1 ≤ 100000; decide)) (eds_cons (EvD.to (ed_catS (ed_mulS ed_cstr ed_cint mok_1) ed_cstr (by decide +kernel)) (by rw [rep_1])) (eds_cons (EvD.to (ed_catS ed_cstr (ed_mulS ed_cstr ed_cint mok_2) (by decide +kernel)) (by rw [rep_2])) (eds_cons (EvD.to (ed_catS hs1 ed_cstr (by rw [sg_len]; show _ + 2 ≤ _; omega)) (by rw [show ((("|0" : String)) : Str) = Sg [124, 48] by decide +kernel, sg_app])) eds_nil))))))))) (by show 9 ≤ 100000; decide)) fun v4 H7 x7 h7 => ?_
  have hm : atI (someM l) (cellM ns 1 % 9) = some ((someM l).getD (cellM ns 1 % 9).toNat .none) := by
    have : cellM ns 1 % 9 = 0 ∨ cellM ns 1 % 9 = 1 ∨ cellM ns 1 % 9 = 2 ∨ cellM ns 1 % 9 = 3 ∨ cellM ns 1 % 9 = 4 ∨ cellM ns 1 % 9 = 5 ∨ cellM ns 1 % 9 = 6 ∨ cellM ns 1 % 9 = 7 ∨ cellM ns 1 % 9 = 8 := by omega
    rcases this with e | e | e | e | e | e | e | e | e <;> rw [e] <;> rfl
  refine sd_ret (K := K) (d := badM ns l) (EvD.to (ed_ixL (ed_var rfl h7) (EvD.to (ed_mod (ed_law_cell (ed_var rfl (dp_ex (x3.trans (x4.trans (x5.trans (x6.trans x7)))) h02)) ed_cint (by decide)) ed_cint (by decide)) rfl) hm) (by rw [eb])) fun v H8 x8 hv => q v H8 (x15.trans (x6.trans (x7.trans x8))) hv
/-! ### read -/
abbrev s_read : Stmt := topS 17
theorem sc_read : FnScope ["text", "parts", "form"] ["text"] (defScope s_read) := ⟨rfl, rfl, rfl, by decide +kernel, rfl, by decide +kernel, by decide +kernel⟩
def readR (C : Addr) (d : PD) : Except Addr PD := match d with
  | .str z => match formT z.cps.toList with
    | some P => if formOk (pul P.1 P.2) = true ∧ tightM P.1 P.2 = (P.1, P.2) then .ok (pul P.1 P.2) else .error C
    | none => .error C
  | _ => .error C
def sp_read (K : PySem.W.Frag) (C_BadText : Addr) : Sp := SpX K (fun d : PD => [d]) (fun d => ∀ l, d = .str (Sg l) → l.length ≤ 90000) (fun d => readR C_BadText d)
theorem read_no {C : Addr} {d : PD} (h : isStr d = false) : readR C d = .error C := by
  cases d <;> first | rfl | cases h
theorem read_nf {C : Addr} {l : List Nat} (h : formT l = none) : readR C (.str (Sg l)) = .error C := by
  unfold readR
  show (match formT l with | some P => _ | none => _) = _
  rw [h]
theorem read_f {C : Addr} {l : List Nat} {P : List Int × List Int} (h : formT l = some P) : readR C (.str (Sg l)) = if formOk (pul P.1 P.2) = true ∧ tightM P.1 P.2 = (P.1, P.2) then .ok (pul P.1 P.2) else .error C := by
  unfold readR
  show (match formT l with | some P => _ | none => _) = _
  rw [h]
theorem cut_len (b : Nat) : ∀ l : List Nat, ∀ p ∈ cutB b l, p.length ≤ l.length
  | [], p, h => by
    have := List.mem_singleton.mp h
    subst this
    exact Nat.le_refl _
  | c :: r, p, h => by
    unfold cutB at h
    split at h
    · rcases List.mem_cons.mp h with e | e
      · subst e; simp
      · have := cut_len b r p e
        simp
        omega
    · split at h
      · have := List.mem_singleton.mp h
        subst this
        simp
      · rename_i y ys e
        rcases List.mem_cons.mp h with z | z
        · have := cut_len b r y (by rw [e]; exact List.mem_cons_self)
          subst z
          simp
          exact this
        · have := cut_len b r p (by rw [e]; exact List.mem_cons_of_mem _ z)
          simp
          omega
theorem can_read {C_BadForm C_BadText C_NotTight C_PulseError : Addr} (F : Dfn K mg "read" s_read ["text"]) (bt : Bt mg) (c_bits_read : Can P w K mg base (L2.CX P w) 1 "bits_read" (sp_bits_read K C_BadText)) (c_checked : Can P w K mg base (L2N.CX P w) 4 "checked" (sp_checked K C_BadForm C_NotTight)) (x_BadForm : ExcAt K mg "BadForm" C_BadForm) (x_BadText : ExcAt K mg "BadText" C_BadText) (x_NotTight : ExcAt K mg "NotTight" C_NotTight) (x_PulseError : ExcAt K mg "PulseError" C_PulseError) (r_BadForm_PulseError : Rel K C_BadForm C_PulseError true) (r_NotTight_PulseError : Rel K C_NotTight C_PulseError true) : Can P w K mg base (L2.CX P w) 5 "read" (sp_read K C_BadText) := by
  refine can_X F sc_read (fun g => rfl) (fun cdv A outer s H vs Q E f g hr hv hs q => ⟨_, ((pss_cons (ps_if (pt_not (pt_truthK (K := K) rfl (pe_callB (call_isiK' (K := K) rfl) (by rfl) bt.isinstance (by decide +kernel) (pa_cons (pv 0) (pa_cons (pe_bltn (v := .ty "str") (by rfl) bt.str (by decide +kernel) rfl) pa_nil))) (fun _ => rfl))) (pss_one (px_raise x_BadText rfl (takes_of rfl rfl rfl rfl) rfl)) pss_nil)
  (pss_cons (ps_set (i := 1) sc_read.nd rfl (Or.inl rfl) (pe_split1 (pv 0) pe_str))
  (pss_cons (ps_if (pt_cmpR (op_neDK (K := K) rfl hr.units) (pe_callB (call_lenK (K := K) rfl) (by rfl) bt.len (by decide +kernel) (pa_cons (pv 1) pa_nil)) pe_int (nomark _)) (pss_one (px_raise x_BadText rfl (takes_of rfl rfl rfl rfl) rfl)) pss_nil)
  (pss_cons (ps_set (i := 2) sc_read.nd rfl (Or.inl rfl) (pe_tup (pa_cons (pcX c_bits_read hr (by decide) rfl (passes_call (takes_of rfl rfl rfl rfl) (fun _ _ _ _ h => h)) (pa_cons (pe_ix (ix_K (K := K) rfl) (pv 1) pe_int (fun _ _ => rfl)) pa_nil)) (pa_cons (pcX c_bits_read hr (by decide) rfl (passes_call (takes_of rfl rfl rfl rfl) (fun _ _ _ _ h => h)) (pa_cons (pe_ix (ix_K (K := K) rfl) (pv 1) pe_int (fun _ _ => rfl)) pa_nil)) pa_nil))))
  (pss_one (L2H.ps_try_onlyX rfl rfl ⟨rfl, by decide, .inl x_PulseError.g⟩ (fun hd => L2H.passesAt_of rfl hd) (takes_of rfl rfl rfl rfl) (fun W pn xe tk _ _ => (pss_one (ps_ret (pcSN c_checked hr (by decide) rfl tk (pa_cons (pv 2) pa_nil))))) (fun a oe cls d pn hz hf tk hot => (pss_one (px_raiseH x_BadText hot tk rfl)))))))))), ?_⟩)
  try dsimp only [L2.cxOf, L2.Cx.nox, L2.Cx.wish]
  try dsimp only at hv hs q
  obtain ⟨v0, rfl, h0⟩ := dpa1 hv
  refine q_when (EvT.to (et_not (et_tru (K := K) (ed_isStr (ed_var rfl h0)))) (c := !isStr g) rfl) (fun c H1 x1 => ?_) (fun c H1 x1 => ?_)
  · exact q.er (read_no (by simpa using c)) _ x1
  obtain ⟨l, e⟩ : ∃ l, g = .str (Sg l) := by
    cases g with
    | str z => exact ⟨z.cps.toList, by rw [sg_tl]⟩
    | _ => cases c
  subst e
  have hl := hs l rfl
  have e0 := dp_str h0
  subst e0
  have h1 := dp_ex x1 h0
  refine qd_asg (K := K) (d := .list (((cutB 124 l).map Sg).map .str)) (EvD.to (ed_split (ed_var rfl h1) (EvD.to ed_cstr (by rw [show ((("|" : String)) : Str) = Sg [124] from str_bar])) rfl (by rw [sg_len]; exact hl)) (by rw [split_cut (by decide)])) fun v1 H2 x2 h2 => ?_
  have x12 := x1.trans x2
  refine q_when (EvT.to (et_tst (K := K) (ed_neI (ed_lenL (ed_var rfl h2)) ed_cint)) (c := !decide ((cutB 124 l).length = 2)) (by rw [List.length_map, List.length_map]; congr 1; rw [Bool.eq_iff_iff, beq_iff_eq, decide_eq_true_eq]; omega)) (fun c H3 x3 => ?_) (fun c H3 x3 => ?_)
  · have c' : ¬ (cutB 124 l).length = 2 := by simpa using c
    refine q.er (read_nf ?_) _ (x12.trans x3)
    unfold formT
    split
    · rename_i a b e
      rw [e] at c'
      exact absurd rfl c'
    · rfl
  have c' : (cutB 124 l).length = 2 := by simpa using c
  obtain ⟨a, b, eab⟩ : ∃ a b, cutB 124 l = [a, b] := by
    match hc : cutB 124 l, c' with
    | [a, b], _ => exact ⟨a, b, rfl⟩
  have la := cut_len 124 l a (by rw [eab]; exact List.mem_cons_self)
  have lb := cut_len 124 l b (by rw [eab]; exact List.mem_cons_of_mem _ List.mem_cons_self)
  rw [eab] at h2
  have x13 := x12.trans x3
  have h23 := dp_ex x3 h2
  have i0 : EvD K (tOp (rIx K) (tVar 1) (tC (.int 0))) [some (.str (Sg l)), some v1, none] H3 (.str (Sg a)) := ed_ixL (ed_var rfl h23) ed_cint rfl
  have i1 : EvD K (tOp (rIx K) (tVar 1) (tC (.int 1))) [some (.str (Sg l)), some v1, none] H3 (.str (Sg b)) := ed_ixL (ed_var rfl h23) ed_cint rfl
  have ft : ∀ {z : Bool}, (okC a && okC b) = z → formT l = if z = true then some (a.map bitC, b.map bitC) else none := fun {z} h => by
    unfold formT
    rw [eab, ← h]
    dsimp only
    cases okC a <;> cases okC b <;> rfl
  cases oa : okC a with
  | false => exact qx_asg (er_tup (er_cons1 (er_bits_read i0 (by omega) oa fun H4 x4 => q.er (read_nf (by rw [ft rfl, oa]; rfl)) _ (x13.trans x4))))
  | true =>
    cases ob : okC b with
    | false => exact qx_asg (er_tup (er_cons2 (ed_bits_read i0 (by omega) oa) (er_cons1 (er_bits_read i1 (by omega) ob fun H4 x4 => q.er (read_nf (by rw [ft rfl, oa, ob]; rfl)) _ (x13.trans x4)))))
    | true =>
      have ef : formT l = some (a.map bitC, b.map bitC) := by rw [ft rfl, oa, ob]; rfl
      have rf := read_f (C := C_BadText) ef
      dsimp only at rf
      refine qd_asg (K := K) (d := pul (a.map bitC) (b.map bitC)) (ed_tup (eds_cons (ed_bits_read i0 (by omega) oa) (eds_cons (ed_bits_read i1 (by omega) ob) eds_nil)) (by simp)) fun v2 H4 x4 h4 => ?_
      have x14 := x13.trans x4
      refine sd_retS (K := K) (pul (a.map bitC) (b.map bitC), a.map bitC, b.map bitC) (eds_cons (ed_var rfl h4) eds_nil) (fun _ => rfl) (fun d hd v H5 x5 hv => ?_) fun C hC H5 x5 => ?_
      · have hd' : checkM C_BadForm C_NotTight (pul (a.map bitC) (b.map bitC)) (a.map bitC) (b.map bitC) = .ok d := hd
        unfold checkM at hd'
        split at hd'
        · rename_i f1
          split at hd'
          · rename_i f2
            have := Except.ok.inj hd'
            subst this
            exact q.ok (by rw [rf]; exact if_pos ⟨f1, f2⟩) v H5 (x14.trans x5) hv
          · cases hd'
        · cases hd'
      · have hC' : checkM C_BadForm C_NotTight (pul (a.map bitC) (b.map bitC)) (a.map bitC) (b.map bitC) = .error C := hC
        have er : ¬ (formOk (pul (a.map bitC) (b.map bitC)) = true ∧ tightM (a.map bitC) (b.map bitC) = (a.map bitC, b.map bitC)) := fun z => by
          unfold checkM at hC'
          rw [if_pos z.1, if_pos z.2] at hC'
          cases hC'
        have fin : E (.ref C_BadText) none H5 := q.er (by rw [rf]; exact if_neg er) _ (x14.trans x5)
        unfold checkM at hC'
        split at hC'
        · split at hC'
          · cases hC'
          · have := Except.error.inj hC'
            subst this
            exact ⟨true, r_NotTight_PulseError.m, fun _ a0 _ => fin, fun z => by cases z⟩
        · have := Except.error.inj hC'
          subst this
          exact ⟨true, r_BadForm_PulseError.m, fun _ a0 _ => fin, fun z => by cases z⟩
/-! ### _law_refused -/
abbrev s_law_refused : Stmt := topS 26
theorem sc_law_refused : FnScope ["_law_text_here"] ["_law_text_here"] (defScope s_law_refused) := ⟨rfl, rfl, rfl, by decide +kernel, rfl, by decide +kernel, by decide +kernel⟩
def sp_law_refused (K : PySem.W.Frag) : Sp := SpD K (fun d : PD => [d]) (fun d => (∀ l, d = .str (Sg l) → l.length ≤ 90000) ∧ ∀ C, readR C d = .error C) (fun _ => .bool true)
theorem ed_law_refused {σ : L2.St} {H : Hp} {ta : TE} {E : XK} {d : PD} (ha : EvD K ta σ H d) (hz : ∀ l, d = .str (Sg l) → l.length ≤ 90000) (hr : ∀ C, readR C d = .error C) : EvD K (tCall (sp_law_refused K) [] E (tCons ta tNil)) σ H (.bool true) :=
  ed_callD d (eds_cons ha eds_nil) ⟨hz, hr⟩
local macro_rules | `(tactic| walk_at "ed") => `(tactic| ((with_reducible apply ed_law_refused) <;> walk_at "ed"))
theorem can_law_refused {C_BadText : Addr} (F : Dfn K mg "_law_refused" s_law_refused ["_law_text_here"]) (bt : Bt mg) (c_read : Can P w K mg base (L2.CX P w) 5 "read" (sp_read K C_BadText)) (x_BadText : ExcAt K mg "BadText" C_BadText) (r_BadText_BadText : Rel K C_BadText C_BadText true) : Can P w K mg base CX0 6 "_law_refused" (sp_law_refused K) := by
  refine can_D F sc_law_refused (fun g => rfl) (fun cdv A outer s H vs Q E f g hr hv hs q => ⟨_, ((pss_cons (ps_try_only rfl rfl ⟨rfl, by decide, .inl x_BadText.g⟩ takes0 (fun W pn xe tk _ => (pss_one (ps_expr (pcS c_read hr (by decide) rfl tk (pa_cons (pv 0) pa_nil))))) (fun a oe cls d pn hz hf => (pss_one (ps_ret pe_bl))))
  (pss_one (ps_ret pe_bl)))), ?_⟩)
  try dsimp only [L2.cxOf, L2.Cx.nox, L2.Cx.wish]
  try dsimp only at hv hs q
  obtain ⟨hz, hr⟩ := hs
  obtain ⟨v0, rfl, h0⟩ := dpa1 hv
  refine q_seq ?_
  refine sd_dropS g (eds_cons (ed_var rfl h0) eds_nil) hz (fun d hd => ?_) (fun C hC H5 x5 => ?_)
  · have hd' : readR C_BadText g = .ok d := hd
    rw [hr] at hd'
    cases hd'
  · have hC' : readR C_BadText g = .error C := hC
    rw [hr] at hC'
    have eC := Except.error.inj hC'
    subst eC
    exact ⟨true, r_BadText_BadText.m, fun _ a0 _ => q _ _ x5 (.bl true), fun z => by cases z⟩
/-! ### _law_by_base -/
abbrev s_law_by_base : Stmt := topS 27
theorem sc_law_by_base : FnScope ["_law_text_here", "e"] ["_law_text_here"] (defScope s_law_by_base) := ⟨rfl, rfl, rfl, by decide +kernel, rfl, by decide +kernel, by decide +kernel⟩
def sp_law_by_base (K : PySem.W.Frag) : Sp := SpD K (fun d : PD => [d]) (fun d => (∀ l, d = .str (Sg l) → l.length ≤ 90000) ∧ ∀ C, readR C d = .error C) (fun _ => .bool true)
theorem ed_law_by_base {σ : L2.St} {H : Hp} {ta : TE} {E : XK} {d : PD} (ha : EvD K ta σ H d) (hz : ∀ l, d = .str (Sg l) → l.length ≤ 90000) (hr : ∀ C, readR C d = .error C) : EvD K (tCall (sp_law_by_base K) [] E (tCons ta tNil)) σ H (.bool true) :=
  ed_callD d (eds_cons ha eds_nil) ⟨hz, hr⟩
local macro_rules | `(tactic| walk_at "ed") => `(tactic| ((with_reducible apply ed_law_by_base) <;> walk_at "ed"))
theorem can_law_by_base {C_BadText C_PulseError : Addr} (F : Dfn K mg "_law_by_base" s_law_by_base ["_law_text_here"]) (bt : Bt mg) (c_read : Can P w K mg base (L2.CX P w) 5 "read" (sp_read K C_BadText)) (x_BadText : ExcAt K mg "BadText" C_BadText) (x_PulseError : ExcAt K mg "PulseError" C_PulseError) (r_BadText_PulseError : Rel K C_BadText C_PulseError true) : Can P w K mg base CX0 6 "_law_by_base" (sp_law_by_base K) := by
  refine can_D F sc_law_by_base (fun g => rfl) (fun cdv A outer s H vs Q E f g hr hv hs q => ⟨_, ((pss_cons (ps_try_as (i := 1) rfl rfl sc_law_by_base.nd rfl rfl ⟨rfl, by decide, .inl x_PulseError.g⟩ takes0 (fun W pn xe tk _ => (pss_one (ps_expr (pcS c_read hr (by decide) rfl tk (pa_cons (pv 0) pa_nil))))) (fun a oe cls d pn hz hf => (pss_exD (p := fun D0 => cls = .ref D0 ∧ d = none ∧ ExcC K D0) (fun D0 hp => (pss_one (ps_ret (pe_callB (call_isEK (K := K) rfl hp hz hf) (by rfl) bt.isinstance (by decide +kernel) (pa_cons (pv 1) (pa_cons (pe_bltn (v := .ty "ValueError") (by rfl) bt.ValueError (by decide +kernel) rfl) pa_nil)))))))))
  (pss_one (ps_ret pe_bl)))), ?_⟩)
  try dsimp only [L2.cxOf, L2.Cx.nox, L2.Cx.wish]
  try dsimp only at hv hs q
  obtain ⟨hz, hr⟩ := hs
  obtain ⟨v0, rfl, h0⟩ := dpa1 hv
  refine q_seq ?_
  refine sd_dropS g (eds_cons (ed_var rfl h0) eds_nil) hz (fun d hd => ?_) (fun C hC H5 x5 => ?_)
  · have hd' : readR C_BadText g = .ok d := hd
    rw [hr] at hd'
    cases hd'
  · have hC' : readR C_BadText g = .error C := hC
    rw [hr] at hC'
    have eC := Except.error.inj hC'
    subst eC
    refine ⟨true, r_BadText_PulseError.m, fun _ a0 _ => ⟨C_BadText, ⟨rfl, rfl, x_BadText.e⟩, ?_⟩, fun z => by cases z⟩
    exact sd_ret (K := K) (ed_isEV rfl (kit_val x_BadText.v)) fun v H6 x6 hv => q v H6 (x5.trans x6) hv
/-! ### law -/
abbrev s_law : Stmt := topS 31
theorem sc_law : FnScope ["_law_script", "_law_bad_here", "_law_due_here"] ["_law_script"] (defScope s_law) := ⟨rfl, rfl, rfl, by decide +kernel, rfl, by decide +kernel, by decide +kernel⟩
def BadOk (d : PD) : Prop := isStr d = false ∨ ∃ l, d = .str (Sg l) ∧ LtS l ∧ l.length ≤ 500 ∧ (l.length < 200 ∨ ∀ C, readR C (.str (Sg l)) = .error C)
theorem lt_app {a b : List Nat} (h1 : LtS a) (h2 : LtS b) : LtS (a ++ b) := fun c hc => (List.mem_append.mp hc).elim (h1 c) (h2 c)
theorem lt_cl {a : List Nat} (h : a.all (· < 256) = true) : LtS a := fun c hc => by
  have := List.all_eq_true.mp h c hc
  simpa using this
theorem lt_take {a : List Nat} (h : LtS a) (n : Nat) : LtS (a.take n) := fun c hc => h c (List.mem_of_mem_take hc)
theorem lt_drop {a : List Nat} (h : LtS a) (n : Nat) : LtS (a.drop n) := fun c hc => h c (List.mem_of_mem_drop hc)
theorem big_1 (C : Addr) : readR C (.str (Sg (List.replicate 401 48 ++ [124, 49]))) = .error C := by
  have e : formT (List.replicate 401 48 ++ [124, 49]) = some (List.replicate 401 0, [1]) := by decide +kernel
  rw [read_f e]
  refine if_neg fun z => ?_
  obtain ⟨a, b, e1, _, _, la, _⟩ := form_pul z.1
  have := congrArg (fun d => match d with | PyData.tuple [PyData.tuple x, _] => x.length | _ => 0) e1
  have h2 : (List.replicate 401 (0 : Int)).length = a.length := by simpa [pul] using this
  rw [List.length_replicate] at h2
  omega
theorem big_2 (C : Addr) : readR C (.str (Sg (124 :: (List.replicate 101 [48, 49]).flatten))) = .error C := by
  have e : formT (124 :: (List.replicate 101 [48, 49]).flatten) = some ([], (List.replicate 101 [(0 : Int), 1]).flatten) := by decide +kernel
  rw [read_f e]
  refine if_neg fun z => ?_
  obtain ⟨a, b, e1, _, _, _, _, lb⟩ := form_pul z.1
  have := congrArg (fun d => match d with | PyData.tuple [_, PyData.tuple x] => x.length | _ => 0) e1
  have h2 : (List.replicate 101 [(0 : Int), 1]).flatten.length = b.length := by simpa [pul] using this
  have h3 : (List.replicate 101 [(0 : Int), 1]).flatten.length = 202 := by decide +kernel
  omega
theorem bad_ok {ns : List Int} {l : List Nat} (h0 : 1 ≤ l.length) (h1 : l.length ≤ 40) (h2 : LtS l) : BadOk (badM ns l) := by
  have str : ∀ {m : List Nat}, LtS m → m.length < 200 → BadOk (.str (Sg m)) := fun {m} a b => .inr ⟨m, rfl, a, by omega, .inl b⟩
  unfold badM
  split
  · exact str (lt_app (lt_take h2 _) (lt_drop h2 _)) (by rw [List.length_append, List.length_take, List.length_drop]; omega)
  split
  · exact str (lt_app (lt_take h2 _) (lt_drop h2 _)) (by rw [List.length_append, List.length_take, List.length_drop]; omega)
  split
  · refine str (lt_app (lt_app (lt_take h2 _) fun c hc => ?_) (lt_drop h2 _)) (by rw [List.length_append, List.length_append, List.length_take, List.length_drop, List.length_singleton]; omega)
    rw [List.mem_singleton] at hc
    subst hc
    have : (cellM ns 2 % 5).toNat < 5 := by omega
    generalize (cellM ns 2 % 5).toNat = i at this
    match i, this with
    | 0, _ => decide
    | 1, _ => decide
    | 2, _ => decide
    | 3, _ => decide
    | 4, _ => decide
  split
  · have fo := form_ok ns 7
    obtain ⟨f1, f2, f3, f4, f5⟩ := fo
    exact str (txt_lt _ _) (by rw [List.length_append, List.length_cons, List.length_map, List.length_map]; omega)
  · have : (cellM ns 1 % 9).toNat < 9 := by omega
    generalize (cellM ns 1 % 9).toNat = i at this
    match i, this with
    | 0, _ => exact str (lt_cl rfl) (by decide)
    | 1, _ => exact str (lt_cl rfl) (by decide)
    | 2, _ => exact str (lt_app h2 (lt_cl rfl)) (by rw [List.length_append, List.length_singleton]; omega)
    | 3, _ => exact .inl rfl
    | 4, _ => exact .inl rfl
    | 5, _ => exact .inl rfl
    | 6, _ => exact .inr ⟨_, rfl, lt_cl (by decide +kernel), by decide +kernel, .inr big_1⟩
    | 7, _ => exact .inr ⟨_, rfl, lt_cl (by decide +kernel), by decide +kernel, .inr big_2⟩
    | 8, _ => exact str (lt_app h2 (lt_cl rfl)) (by rw [List.length_append]; show _ + 2 < _; omega)
def lawDue (d : PD) : PD := match d with
  | .str z => if z.length < 200 then dueT z.cps.toList else .none
  | _ => .none
theorem ldue_str {l : List Nat} : lawDue (.str (Sg l)) = if l.length < 200 then dueT l else .none := by
  show (if (Sg l).length < 200 then dueT l else PyData.none) = _
  rw [sg_len]
theorem ldue_no {d : PD} (h : isStr d = false) : lawDue d = .none := by cases d <;> first | rfl | cases h
theorem due_key {d : PD} (h : BadOk d) : (lawDue d = .none ∧ ∀ C, readR C d = .error C) ∨ ∃ P : List Int × List Int, lawDue d = pul P.1 P.2 ∧ ∀ C, readR C d = .ok (pul P.1 P.2) := by
  rcases h with h | ⟨l, rfl, lt, hl, h⟩
  · exact .inl ⟨ldue_no h, fun C => read_no h⟩
  rw [ldue_str]
  by_cases c : l.length < 200
  · rw [if_pos c]
    cases ef : formT l with
    | none => exact .inl ⟨due_no ef, fun C => read_nf ef⟩
    | some P =>
      rw [due_some ef]
      by_cases w : P.2 ≠ [] ∧ tightM P.1 P.2 = (P.1, P.2)
      · rw [if_pos w]
        refine .inr ⟨P, rfl, fun C => ?_⟩
        rw [read_f ef]
        refine if_pos ⟨?_, w.2⟩
        unfold formT at ef
        split at ef
        · rename_i a b eab
          split at ef
          · have e := Option.some.inj ef
            subst e
            have := congrArg List.length (cut_parts eab).1
            rw [List.length_append, List.length_cons] at this
            exact pul_form (bitC_bits _) (bitC_bits _) (by rw [List.length_map]; omega) w.1 (by rw [List.length_map]; omega)
          · cases ef
        · cases ef
      · rw [if_neg w]
        refine .inl ⟨rfl, fun C => ?_⟩
        rw [read_f ef]
        refine if_neg fun z => w ⟨?_, z.2⟩
        obtain ⟨a, b, e1, _, _, _, nb, _⟩ := form_pul z.1
        intro e
        rw [e] at e1
        unfold pul at e1
        have := congrArg (fun d => match d with | PyData.tuple [_, PyData.tuple x] => x | _ => []) e1
        apply nb
        have h2 : (([] : List Int).map PyData.int) = b.map PyData.int := this
        cases b with
        | nil => rfl
        | cons x y => cases h2
  · rw [if_neg c]
    rcases h with h | h
    · exact absurd h c
    · exact .inl ⟨rfl, h⟩
theorem can_law {C_BadText : Addr} {fa : Addr} {fd : FuncData} (F : L2.Fun K "law" "law" s_law fa fd) (bt : Bt mg) (c_law_bad : Can P w K mg base CX0 4 "_law_bad" (sp_law_bad K)) (c_law_text : Can P w K mg base CX0 1 "_law_text" (sp_law_text K)) (c_law_due : Can P w K mg base CX0 2 "_law_due" (sp_law_due K)) (c_read : Can P w K mg base (L2.CX P w) 5 "read" (sp_read K C_BadText)) (c_law_pulse : Can P w K mg base CX0 4 "_law_pulse" (sp_law_pulse K)) (c_law_refused : Can P w K mg base CX0 6 "_law_refused" (sp_law_refused K)) (c_law_by_base : Can P w K mg base CX0 6 "_law_by_base" (sp_law_by_base K)) : FnOk P w K mg base CX0 7 fa fd ["_law_script"] (sp_law K) := by
  refine fn_D F sc_law (fun g => rfl) (fun cdv A outer s H vs Q E f g hr hv hs q => ⟨_, ((pss_cons (ps_set (i := 1) sc_law.nd rfl (Or.inl rfl) (pc c_law_bad hr (by decide) (by rfl) (pa_cons (pv 0) (pa_cons (pc c_law_text hr (by decide) (by rfl) (pa_cons (pc c_law_pulse hr (by decide) (by rfl) (pa_cons (pv 0) (pa_cons pe_int pa_nil))) pa_nil)) pa_nil))))
  (pss_cons (ps_set (i := 2) sc_law.nd rfl (Or.inl rfl) pe_non)
  (pss_cons (ps_if (PW.pt (pw_and (pt_truthK (K := K) rfl (pe_callB (call_isiK' (K := K) rfl) (by rfl) bt.isinstance (by decide +kernel) (pa_cons (pv 1) (pa_cons (pe_bltn (v := .ty "str") (by rfl) bt.str (by decide +kernel) rfl) pa_nil))) (fun _ => rfl)) (pw_and1 (pt_cmpR op_lt (pe_callB (call_lenK (K := K) rfl) (by rfl) bt.len (by decide +kernel) (pa_cons (pv 1) pa_nil)) pe_int (nomark _))))) (pss_one (ps_set (i := 2) sc_law.nd rfl (Or.inl rfl) (pc c_law_due hr (by decide) (by rfl) (pa_cons (pv 1) pa_nil)))) pss_nil)
  (pss_cons (ps_if (pt_cmpR op_isX (pv 2) pe_non (nomark _)) (pss_one (ps_ret (pe_and (pc c_law_refused hr (by decide) (by rfl) (pa_cons (pv 1) pa_nil)) (pe_one (pc c_law_by_base hr (by decide) (by rfl) (pa_cons (pv 1) pa_nil)))))) pss_nil)
  (pss_one (ps_ret (pe_cmpR (op_eqDK (K := K) rfl hr.units) (pcX c_read hr (by decide) rfl passL (pa_cons (pv 1) pa_nil)) (pv 2) (nomark _))))))))), ?_⟩)
  try dsimp only [L2.cxOf, L2.Cx.nox, L2.Cx.wish]
  obtain ⟨v0, rfl, h0⟩ := dpa1 hv
  have pu := pulse_ok g 3
  have t3 : (3 : Int).toNat = 3 := rfl
  have l1 := pu.l1
  have l2 := pu.l2
  have bo : BadOk (badM g (txtL (pulseM g 3).1 (pulseM g 3).2)) := bad_ok (by unfold txtL; rw [List.length_append, List.length_cons]; omega) (by unfold txtL; rw [List.length_append, List.length_cons, List.length_map, List.length_map]; omega) (txt_lt _ _)
  have tl : txtP (pulseM g 3).1 (pulseM g 3).2 = Sg (txtL (pulseM g 3).1 (pulseM g 3).2) := rfl
  generalize hP : pulseM g 3 = P at pu l1 l2 bo tl
  refine qd_asg (K := K) (d := badM g (txtL P.1 P.2)) (ed_law_bad (ed_var rfl h0) (EvD.to (ed_law_text (h := P.1) (b := P.2) (EvD.to (ed_law_pulse (ed_var rfl h0) ed_cint hs (by decide)) (by rw [t3, hP])) ⟨⟨pu.b1, by omega⟩, pu.b2, by omega⟩) (by rw [tl])) ⟨hs, by unfold txtL; rw [List.length_append, List.length_cons]; omega, by unfold txtL; rw [List.length_append, List.length_cons, List.length_map, List.length_map]; omega, txt_lt _ _⟩) fun v1 H1 x1 h1 => ?_
  generalize badM g (txtL P.1 P.2) = D at h1 bo
  have key := due_key bo
  have hz : ∀ l, D = .str (Sg l) → l.length ≤ 90000 := fun l e => by
    rcases bo with h | ⟨m, e2, _, hm, _⟩
    · rw [e] at h
      cases h
    · have := sg_inj (PyData.str.inj (e.symm.trans e2))
      rw [this]
      omega
  refine qd_asg (K := K) (d := .none) ed_cnon fun v2 H2 x2 h2 => ?_
  have h12 := dp_ex x2 h1
  have tst : ∃ b : Bool, EvT (tAnd (fun σ H Q => tCB (rIsi K) (tCons (tVar 1) (tCons (tC (.ty "str")) tNil)) σ H fun x H' => ∃ k, TruV K x H' k ∧ Q k H') (tTest (tOp (rI0 fun i j => .bl (decide (i < j))) (tCB (fun xs H Q => ∃ x n, xs = [x] ∧ LenV K x H n ∧ Q (.int n) H) (tCons (tVar 1) tNil)) (tC (.int 200))))) [some v0, some v1, some v2] H2 b ∧ (b = true → ∃ l, D = .str (Sg l) ∧ LtS l ∧ l.length < 200) ∧ (b = false → lawDue D = .none) := by
    rcases bo with h | ⟨l, rfl, lt, hl, h⟩
    · exact ⟨false, EvT.to (et_and (b := false) (et_tru (K := K) (ed_isStr (ed_var rfl h12))) fun z => by rw [show tru (.bool (isStr D)) = isStr D from rfl, h] at z; cases z) (by rw [show tru (.bool (isStr D)) = isStr D from rfl, h]; rfl), (fun (z : false = true) => by cases z), fun _ => ldue_no h⟩
    · refine ⟨decide (l.length < 200), EvT.to (et_and (et_tru (K := K) (ed_isStr (ed_var rfl h12))) fun _ => et_tst (K := K) (ed_lt (ed_lenS (ed_var rfl h12) (by rw [sg_len]; omega)) ed_cint)) (by
        rw [sg_len]
        show (true && decide _) = decide _
        rw [Bool.true_and, Bool.eq_iff_iff, decide_eq_true_eq, decide_eq_true_eq]
        omega), fun z => ⟨l, rfl, lt, of_decide_eq_true z⟩, fun z => by rw [ldue_str, if_neg (of_decide_eq_false z)]⟩
  obtain ⟨b, tb, bt1, bt2⟩ := tst
  refine qd_ifAsg (K := K) (i := 2) (d := lawDue D) tb (fun hb => ?_) (fun hb => ⟨v2, rfl, by rw [bt2 hb]; exact h2⟩) fun v3 H3 x3 h3 => ?_
  · obtain ⟨l, rfl, lt, hl⟩ := bt1 hb
    exact EvD.to (ed_law_due (ed_var rfl h12) (by omega) lt) (by rw [ldue_str, if_pos hl])
  have h13 := dp_ex x3 h12
  have x03 := x1.trans (x2.trans x3)
  refine q_when (et_tst (K := K) (ed_isN (ed_var rfl h3))) (fun c H4 x4 => ?_) (fun c H4 x4 => ?_)
  · rcases key with ⟨e, hr⟩ | ⟨P, e, _⟩
    · refine sd_ret (K := K) (d := .bool true) (EvD.to (ed_and (ed_law_refused (ed_var rfl (dp_ex x4 h13)) hz hr) fun _ => ed_law_by_base (ed_var rfl (dp_ex x4 h13)) hz hr) rfl) fun v Hz xz hv => q v Hz (x03.trans (x4.trans xz)) hv
    · rw [e] at c
      cases c
  · rcases key with ⟨e, _⟩ | ⟨P, e, hr⟩
    · rw [e] at c
      cases c
    · rw [e] at h3
      refine sd_ret (K := K) (d := .bool true) (EvD.to (ed_eq (ed_callX D (eds_cons (ed_var rfl (dp_ex x4 h13)) eds_nil) hz (hr _)) (ed_var rfl (dp_ex x4 h3)) (shp_pul _ _) (shp_pul _ _)) (by rw [eqv_pul]; simp)) fun v Hz xz hv => q v Hz (x03.trans (x4.trans xz)) hv
end
end Pb
namespace Pb
open PySem PySem.Spec PyProof.Rows L2 Evn
instance tbs0 : Evn.Tbs := ⟨[]⟩
theorem all_mk {l : PySem.W.OpenLaw} {w : World} {K : PySem.W.Frag} {h : Heap} {mg : Str → Option Value} {fa f0 f1 f2 f3 f4 f5 f6 f7 f8 f9 f10 f11 f12 f13 f14 f15 f16 f17 f18 f19 f20 : Addr} (X : K.In h) (G : h.Ns mainGlobals mg) (hfa : mg "law" = some (.ref fa))
    {od0 an0 od1 an1 od2 an2 od3 an3 od4 an4 od5 an5 od6 an6 od7 an7 od8 an8 od9 an9 od10 an10 od11 an11 od12 an12 od13 an13 od14 an14 od15 an15 od16 an16 od17 an17 od18 an18 od19 an19 od20 an20 : Option Addr} {sl0 sl1 sl2 sl3 sl4 sl5 sl6 sl7 sl8 sl9 sl10 sl11 sl12 sl13 sl14 sl15 sl16 sl17 sl18 sl19 sl20 : Array (Option Value)} {oc0 kV0 dc0 pm0 ct0 cd0 oc1 kV1 dc1 pm1 ct1 cd1 oc2 kV2 dc2 pm2 ct2 cd2 oc3 kV3 dc3 pm3 ct3 cd3 oc4 kV4 dc4 pm4 ct4 cd4 oc5 kV5 dc5 pm5 ct5 cd5 oc6 kV6 dc6 pm6 ct6 cd6 oc7 kV7 dc7 pm7 ct7 cd7 oc8 kV8 dc8 pm8 ct8 cd8 oc9 kV9 dc9 pm9 ct9 cd9 oc10 kV10 dc10 pm10 ct10 cd10 oc11 kV11 dc11 pm11 ct11 cd11 oc12 kV12 dc12 pm12 ct12 cd12 oc13 kV13 dc13 pm13 ct13 cd13 oc14 kV14 dc14 pm14 ct14 cd14 oc15 kV15 dc15 pm15 ct15 cd15 oc16 kV16 dc16 pm16 ct16 cd16 oc17 kV17 dc17 pm17 ct17 cd17 oc18 kV18 dc18 pm18 ct18 cd18 oc19 kV19 dc19 pm19 ct19 cd19 oc20 kV20 dc20 pm20 ct20 cd20 : Value}
    (a0 : PySem.W.nsIn K mainGlobals "is_within" = some (some (.ref f0))) (l0 : K.lookup f0 = some ⟨oc0, od0, .func (PySem.W.fnOf "is_within" "is_within" (defArgs s_is_within) (defBody s_is_within) (defScope s_is_within) .none kV0 dc0 pm0 an0 cd0 ct0), sl0⟩) (c0 : PySem.W.codeIn K cd0 "is_within" = true) (k0 : PySem.W.keepIn K (.ref f0) = true)
    (a1 : PySem.W.nsIn K mainGlobals "are_bits" = some (some (.ref f1))) (l1 : K.lookup f1 = some ⟨oc1, od1, .func (PySem.W.fnOf "are_bits" "are_bits" (defArgs s_are_bits) (defBody s_are_bits) (defScope s_are_bits) .none kV1 dc1 pm1 an1 cd1 ct1), sl1⟩) (c1 : PySem.W.codeIn K cd1 "are_bits" = true) (k1 : PySem.W.keepIn K (.ref f1) = true)
    (a2 : PySem.W.nsIn K mainGlobals "look_form" = some (some (.ref f2))) (l2 : K.lookup f2 = some ⟨oc2, od2, .func (PySem.W.fnOf "look_form" "look_form" (defArgs s_look_form) (defBody s_look_form) (defScope s_look_form) .none kV2 dc2 pm2 an2 cd2 ct2), sl2⟩) (c2 : PySem.W.codeIn K cd2 "look_form" = true) (k2 : PySem.W.keepIn K (.ref f2) = true)
    (a3 : PySem.W.nsIn K mainGlobals "shortest_bar" = some (some (.ref f3))) (l3 : K.lookup f3 = some ⟨oc3, od3, .func (PySem.W.fnOf "shortest_bar" "shortest_bar" (defArgs s_shortest_bar) (defBody s_shortest_bar) (defScope s_shortest_bar) .none kV3 dc3 pm3 an3 cd3 ct3), sl3⟩) (c3 : PySem.W.codeIn K cd3 "shortest_bar" = true) (k3 : PySem.W.keepIn K (.ref f3) = true)
    (a4 : PySem.W.nsIn K mainGlobals "tight" = some (some (.ref f4))) (l4 : K.lookup f4 = some ⟨oc4, od4, .func (PySem.W.fnOf "tight" "tight" (defArgs s_tight) (defBody s_tight) (defScope s_tight) .none kV4 dc4 pm4 an4 cd4 ct4), sl4⟩) (c4 : PySem.W.codeIn K cd4 "tight" = true) (k4 : PySem.W.keepIn K (.ref f4) = true)
    (a5 : PySem.W.nsIn K mainGlobals "checked" = some (some (.ref f5))) (l5 : K.lookup f5 = some ⟨oc5, od5, .func (PySem.W.fnOf "checked" "checked" (defArgs s_checked) (defBody s_checked) (defScope s_checked) .none kV5 dc5 pm5 an5 cd5 ct5), sl5⟩) (c5 : PySem.W.codeIn K cd5 "checked" = true) (k5 : PySem.W.keepIn K (.ref f5) = true)
    (a6 : PySem.W.nsIn K mainGlobals "bits_read" = some (some (.ref f6))) (l6 : K.lookup f6 = some ⟨oc6, od6, .func (PySem.W.fnOf "bits_read" "bits_read" (defArgs s_bits_read) (defBody s_bits_read) (defScope s_bits_read) .none kV6 dc6 pm6 an6 cd6 ct6), sl6⟩) (c6 : PySem.W.codeIn K cd6 "bits_read" = true) (k6 : PySem.W.keepIn K (.ref f6) = true)
    (a7 : PySem.W.nsIn K mainGlobals "read" = some (some (.ref f7))) (l7 : K.lookup f7 = some ⟨oc7, od7, .func (PySem.W.fnOf "read" "read" (defArgs s_read) (defBody s_read) (defScope s_read) .none kV7 dc7 pm7 an7 cd7 ct7), sl7⟩) (c7 : PySem.W.codeIn K cd7 "read" = true) (k7 : PySem.W.keepIn K (.ref f7) = true)
    (a8 : PySem.W.nsIn K mainGlobals "_law_cell" = some (some (.ref f8))) (l8 : K.lookup f8 = some ⟨oc8, od8, .func (PySem.W.fnOf "_law_cell" "_law_cell" (defArgs s_law_cell) (defBody s_law_cell) (defScope s_law_cell) .none kV8 dc8 pm8 an8 cd8 ct8), sl8⟩) (c8 : PySem.W.codeIn K cd8 "_law_cell" = true) (k8 : PySem.W.keepIn K (.ref f8) = true)
    (a9 : PySem.W.nsIn K mainGlobals "_law_mix" = some (some (.ref f9))) (l9 : K.lookup f9 = some ⟨oc9, od9, .func (PySem.W.fnOf "_law_mix" "_law_mix" (defArgs s_law_mix) (defBody s_law_mix) (defScope s_law_mix) .none kV9 dc9 pm9 an9 cd9 ct9), sl9⟩) (c9 : PySem.W.codeIn K cd9 "_law_mix" = true) (k9 : PySem.W.keepIn K (.ref f9) = true)
    (a10 : PySem.W.nsIn K mainGlobals "_law_large" = some (some (.ref f10))) (l10 : K.lookup f10 = some ⟨oc10, od10, .func (PySem.W.fnOf "_law_large" "_law_large" (defArgs s_law_large) (defBody s_law_large) (defScope s_law_large) .none kV10 dc10 pm10 an10 cd10 ct10), sl10⟩) (c10 : PySem.W.codeIn K cd10 "_law_large" = true) (k10 : PySem.W.keepIn K (.ref f10) = true)
    (a11 : PySem.W.nsIn K mainGlobals "_law_tight" = some (some (.ref f11))) (l11 : K.lookup f11 = some ⟨oc11, od11, .func (PySem.W.fnOf "_law_tight" "_law_tight" (defArgs s_law_tight) (defBody s_law_tight) (defScope s_law_tight) .none kV11 dc11 pm11 an11 cd11 ct11), sl11⟩) (c11 : PySem.W.codeIn K cd11 "_law_tight" = true) (k11 : PySem.W.keepIn K (.ref f11) = true)
    (a12 : PySem.W.nsIn K mainGlobals "_law_bits" = some (some (.ref f12))) (l12 : K.lookup f12 = some ⟨oc12, od12, .func (PySem.W.fnOf "_law_bits" "_law_bits" (defArgs s_law_bits) (defBody s_law_bits) (defScope s_law_bits) .none kV12 dc12 pm12 an12 cd12 ct12), sl12⟩) (c12 : PySem.W.codeIn K cd12 "_law_bits" = true) (k12 : PySem.W.keepIn K (.ref f12) = true)
    (a13 : PySem.W.nsIn K mainGlobals "_law_form" = some (some (.ref f13))) (l13 : K.lookup f13 = some ⟨oc13, od13, .func (PySem.W.fnOf "_law_form" "_law_form" (defArgs s_law_form) (defBody s_law_form) (defScope s_law_form) .none kV13 dc13 pm13 an13 cd13 ct13), sl13⟩) (c13 : PySem.W.codeIn K cd13 "_law_form" = true) (k13 : PySem.W.keepIn K (.ref f13) = true)
    (a14 : PySem.W.nsIn K mainGlobals "_law_pulse" = some (some (.ref f14))) (l14 : K.lookup f14 = some ⟨oc14, od14, .func (PySem.W.fnOf "_law_pulse" "_law_pulse" (defArgs s_law_pulse) (defBody s_law_pulse) (defScope s_law_pulse) .none kV14 dc14 pm14 an14 cd14 ct14), sl14⟩) (c14 : PySem.W.codeIn K cd14 "_law_pulse" = true) (k14 : PySem.W.keepIn K (.ref f14) = true)
    (a15 : PySem.W.nsIn K mainGlobals "_law_refused" = some (some (.ref f15))) (l15 : K.lookup f15 = some ⟨oc15, od15, .func (PySem.W.fnOf "_law_refused" "_law_refused" (defArgs s_law_refused) (defBody s_law_refused) (defScope s_law_refused) .none kV15 dc15 pm15 an15 cd15 ct15), sl15⟩) (c15 : PySem.W.codeIn K cd15 "_law_refused" = true) (k15 : PySem.W.keepIn K (.ref f15) = true)
    (a16 : PySem.W.nsIn K mainGlobals "_law_by_base" = some (some (.ref f16))) (l16 : K.lookup f16 = some ⟨oc16, od16, .func (PySem.W.fnOf "_law_by_base" "_law_by_base" (defArgs s_law_by_base) (defBody s_law_by_base) (defScope s_law_by_base) .none kV16 dc16 pm16 an16 cd16 ct16), sl16⟩) (c16 : PySem.W.codeIn K cd16 "_law_by_base" = true) (k16 : PySem.W.keepIn K (.ref f16) = true)
    (a17 : PySem.W.nsIn K mainGlobals "_law_text" = some (some (.ref f17))) (l17 : K.lookup f17 = some ⟨oc17, od17, .func (PySem.W.fnOf "_law_text" "_law_text" (defArgs s_law_text) (defBody s_law_text) (defScope s_law_text) .none kV17 dc17 pm17 an17 cd17 ct17), sl17⟩) (c17 : PySem.W.codeIn K cd17 "_law_text" = true) (k17 : PySem.W.keepIn K (.ref f17) = true)
    (a18 : PySem.W.nsIn K mainGlobals "_law_due" = some (some (.ref f18))) (l18 : K.lookup f18 = some ⟨oc18, od18, .func (PySem.W.fnOf "_law_due" "_law_due" (defArgs s_law_due) (defBody s_law_due) (defScope s_law_due) .none kV18 dc18 pm18 an18 cd18 ct18), sl18⟩) (c18 : PySem.W.codeIn K cd18 "_law_due" = true) (k18 : PySem.W.keepIn K (.ref f18) = true)
    (a19 : PySem.W.nsIn K mainGlobals "_law_bad" = some (some (.ref f19))) (l19 : K.lookup f19 = some ⟨oc19, od19, .func (PySem.W.fnOf "_law_bad" "_law_bad" (defArgs s_law_bad) (defBody s_law_bad) (defScope s_law_bad) .none kV19 dc19 pm19 an19 cd19 ct19), sl19⟩) (c19 : PySem.W.codeIn K cd19 "_law_bad" = true) (k19 : PySem.W.keepIn K (.ref f19) = true)
    (a20 : PySem.W.nsIn K mainGlobals "law" = some (some (.ref f20))) (l20 : K.lookup f20 = some ⟨oc20, od20, .func (PySem.W.fnOf "law" "law" (defArgs s_law) (defBody s_law) (defScope s_law) .none kV20 dc20 pm20 an20 cd20 ct20), sl20⟩) (c20 : PySem.W.codeIn K cd20 "law" = true) (k20 : PySem.W.keepIn K (.ref f20) = true)
    (z_len : PySem.W.nsIn K mainGlobals "len" = some none)
    (z_range : PySem.W.nsIn K mainGlobals "range" = some none)
    (z_int : PySem.W.nsIn K mainGlobals "int" = some none)
    (z_list : PySem.W.nsIn K mainGlobals "list" = some none)
    (z_tuple : PySem.W.nsIn K mainGlobals "tuple" = some none)
    (z_max : PySem.W.nsIn K mainGlobals "max" = some none)
    (z_min : PySem.W.nsIn K mainGlobals "min" = some none)
    (z_isinstance : PySem.W.nsIn K mainGlobals "isinstance" = some none)
    (z_bool : PySem.W.nsIn K mainGlobals "bool" = some none)
    (z_str : PySem.W.nsIn K mainGlobals "str" = some none)
    (z_sum : PySem.W.nsIn K mainGlobals "sum" = some none)
    (z_sorted : PySem.W.nsIn K mainGlobals "sorted" = some none)
    (z_any : PySem.W.nsIn K mainGlobals "any" = some none)
    (z_enumerate : PySem.W.nsIn K mainGlobals "enumerate" = some none)
    (z_ValueError : PySem.W.nsIn K mainGlobals "ValueError" = some none)
    {t_MOST_HEAD : Tok} (v_MOST_HEAD : PySem.W.nsIn K mainGlobals "MOST_HEAD" = some (some (.int 400 t_MOST_HEAD)))
    {t_MOST_BAR : Tok} (v_MOST_BAR : PySem.W.nsIn K mainGlobals "MOST_BAR" = some (some (.int 200 t_MOST_BAR)))
    {C_BadForm C_BadText C_NotTight C_PulseError : Addr}
    (hn_x : PySem.W.specialIn K (.builtin "object.__class__") "__get__" = some (some (.builtin "getset_descriptor.__get__")))
    (ht_x : PySem.W.takesIn K (.builtin "object.__class__") = some true)
    (cg_BadForm : PySem.W.nsIn K mainGlobals "BadForm" = some (some (.ref C_BadForm)))
    (cx_BadForm : PySem.W.excIn K C_BadForm [.type "ValueError", .type "Exception", .type "BaseException", .type "object"] "ValueError.__new__" = true)
    (ck_BadForm : PySem.W.keepIn K (.ref C_BadForm) = true)
    (cb_BadForm : PySem.W.subIn K (.ref C_BadForm) (.type "BaseException") = some true)
    (ct_BadForm : PySem.W.typeIn K (.ref C_BadForm) = some (.type "type"))
    (ci_BadForm : PySem.W.isClsIn K C_BadForm = true)
    (cv_BadForm : PySem.W.subIn K (.ref C_BadForm) (.type "ValueError") = some true)
    (cs_BadForm : PySem.W.subIn K (.ref C_BadForm) (.ref C_BadForm) = some true)
    (ca_BadForm : PySem.W.findIn K (.ref C_BadForm) "__getattribute__" = some (some (.builtin "BaseException.__getattribute__")))
    (cr_BadForm : PySem.W.findIn K (.ref C_BadForm) "__getattr__" = some none)
    (cd_BadForm : PySem.W.hasDictIn K C_BadForm = true)
    (cl_BadForm : PySem.W.findIn K (.ref C_BadForm) "__class__" = some (some (.builtin "object.__class__")))
    (cm_BadForm : PySem.W.mroIn K C_BadForm (.type "object") = some true)
    (cg_BadText : PySem.W.nsIn K mainGlobals "BadText" = some (some (.ref C_BadText)))
    (cx_BadText : PySem.W.excIn K C_BadText [.type "ValueError", .type "Exception", .type "BaseException", .type "object"] "ValueError.__new__" = true)
    (ck_BadText : PySem.W.keepIn K (.ref C_BadText) = true)
    (cb_BadText : PySem.W.subIn K (.ref C_BadText) (.type "BaseException") = some true)
    (ct_BadText : PySem.W.typeIn K (.ref C_BadText) = some (.type "type"))
    (ci_BadText : PySem.W.isClsIn K C_BadText = true)
    (cv_BadText : PySem.W.subIn K (.ref C_BadText) (.type "ValueError") = some true)
    (cs_BadText : PySem.W.subIn K (.ref C_BadText) (.ref C_BadText) = some true)
    (ca_BadText : PySem.W.findIn K (.ref C_BadText) "__getattribute__" = some (some (.builtin "BaseException.__getattribute__")))
    (cr_BadText : PySem.W.findIn K (.ref C_BadText) "__getattr__" = some none)
    (cd_BadText : PySem.W.hasDictIn K C_BadText = true)
    (cl_BadText : PySem.W.findIn K (.ref C_BadText) "__class__" = some (some (.builtin "object.__class__")))
    (cm_BadText : PySem.W.mroIn K C_BadText (.type "object") = some true)
    (cg_NotTight : PySem.W.nsIn K mainGlobals "NotTight" = some (some (.ref C_NotTight)))
    (cx_NotTight : PySem.W.excIn K C_NotTight [.type "ValueError", .type "Exception", .type "BaseException", .type "object"] "ValueError.__new__" = true)
    (ck_NotTight : PySem.W.keepIn K (.ref C_NotTight) = true)
    (cb_NotTight : PySem.W.subIn K (.ref C_NotTight) (.type "BaseException") = some true)
    (ct_NotTight : PySem.W.typeIn K (.ref C_NotTight) = some (.type "type"))
    (ci_NotTight : PySem.W.isClsIn K C_NotTight = true)
    (cv_NotTight : PySem.W.subIn K (.ref C_NotTight) (.type "ValueError") = some true)
    (cs_NotTight : PySem.W.subIn K (.ref C_NotTight) (.ref C_NotTight) = some true)
    (ca_NotTight : PySem.W.findIn K (.ref C_NotTight) "__getattribute__" = some (some (.builtin "BaseException.__getattribute__")))
    (cr_NotTight : PySem.W.findIn K (.ref C_NotTight) "__getattr__" = some none)
    (cd_NotTight : PySem.W.hasDictIn K C_NotTight = true)
    (cl_NotTight : PySem.W.findIn K (.ref C_NotTight) "__class__" = some (some (.builtin "object.__class__")))
    (cm_NotTight : PySem.W.mroIn K C_NotTight (.type "object") = some true)
    (cg_PulseError : PySem.W.nsIn K mainGlobals "PulseError" = some (some (.ref C_PulseError)))
    (cx_PulseError : PySem.W.excIn K C_PulseError [.type "ValueError", .type "Exception", .type "BaseException", .type "object"] "ValueError.__new__" = true)
    (ck_PulseError : PySem.W.keepIn K (.ref C_PulseError) = true)
    (cb_PulseError : PySem.W.subIn K (.ref C_PulseError) (.type "BaseException") = some true)
    (ct_PulseError : PySem.W.typeIn K (.ref C_PulseError) = some (.type "type"))
    (ci_PulseError : PySem.W.isClsIn K C_PulseError = true)
    (cv_PulseError : PySem.W.subIn K (.ref C_PulseError) (.type "ValueError") = some true)
    (cs_PulseError : PySem.W.subIn K (.ref C_PulseError) (.ref C_PulseError) = some true)
    (ca_PulseError : PySem.W.findIn K (.ref C_PulseError) "__getattribute__" = some (some (.builtin "BaseException.__getattribute__")))
    (cr_PulseError : PySem.W.findIn K (.ref C_PulseError) "__getattr__" = some none)
    (cd_PulseError : PySem.W.hasDictIn K C_PulseError = true)
    (cl_PulseError : PySem.W.findIn K (.ref C_PulseError) "__class__" = some (some (.builtin "object.__class__")))
    (cm_PulseError : PySem.W.mroIn K C_PulseError (.type "object") = some true)
    (cs_BadForm_PulseError : PySem.W.subIn K (.ref C_BadForm) (.ref C_PulseError) = some true)
    (cs_BadText_PulseError : PySem.W.subIn K (.ref C_BadText) (.ref C_PulseError) = some true)
    (cs_NotTight_PulseError : PySem.W.subIn K (.ref C_NotTight) (.ref C_PulseError) = some true)
    : ∃ fd : FuncData, (∀ (s : Shared) (v : Value), BindsTo s fd ⟨[v], []⟩ [("_law_script", v)]) ∧ ∀ base : Heap, K.In base → base.Ns mainGlobals mg → FnOk l.prog w K mg base CX0 7 fa fd ["_law_script"] (sp_law K) := by
  have e := hfa.symm.trans (PySem.W.mg_of X G a20)
  cases e
  have bt : Bt mg := ⟨PySem.W.mg_none_of X G z_len, PySem.W.mg_none_of X G z_range, PySem.W.mg_none_of X G z_int, PySem.W.mg_none_of X G z_list, PySem.W.mg_none_of X G z_tuple, PySem.W.mg_none_of X G z_max, PySem.W.mg_none_of X G z_min, PySem.W.mg_none_of X G z_isinstance, PySem.W.mg_none_of X G z_bool, PySem.W.mg_none_of X G z_str, PySem.W.mg_none_of X G z_sum, PySem.W.mg_none_of X G z_sorted, PySem.W.mg_none_of X G z_any, PySem.W.mg_none_of X G z_enumerate, PySem.W.mg_none_of X G z_ValueError⟩
  have g_MOST_HEAD : ∃ t, mg "MOST_HEAD" = some (.int 400 t) := ⟨_, PySem.W.mg_of X G v_MOST_HEAD⟩
  have g_MOST_BAR : ∃ t, mg "MOST_BAR" = some (.int 200 t) := ⟨_, PySem.W.mg_of X G v_MOST_BAR⟩
  have x_BadForm : ExcAt K mg "BadForm" C_BadForm := ⟨PySem.W.mg_of X G cg_BadForm, cx_BadForm, ck_BadForm, cb_BadForm, ct_BadForm, ci_BadForm, cv_BadForm, ⟨ca_BadForm, cr_BadForm, cb_BadForm, cd_BadForm, cl_BadForm, hn_x, ht_x, cm_BadForm⟩⟩
  have x_BadText : ExcAt K mg "BadText" C_BadText := ⟨PySem.W.mg_of X G cg_BadText, cx_BadText, ck_BadText, cb_BadText, ct_BadText, ci_BadText, cv_BadText, ⟨ca_BadText, cr_BadText, cb_BadText, cd_BadText, cl_BadText, hn_x, ht_x, cm_BadText⟩⟩
  have x_NotTight : ExcAt K mg "NotTight" C_NotTight := ⟨PySem.W.mg_of X G cg_NotTight, cx_NotTight, ck_NotTight, cb_NotTight, ct_NotTight, ci_NotTight, cv_NotTight, ⟨ca_NotTight, cr_NotTight, cb_NotTight, cd_NotTight, cl_NotTight, hn_x, ht_x, cm_NotTight⟩⟩
  have x_PulseError : ExcAt K mg "PulseError" C_PulseError := ⟨PySem.W.mg_of X G cg_PulseError, cx_PulseError, ck_PulseError, cb_PulseError, ct_PulseError, ci_PulseError, cv_PulseError, ⟨ca_PulseError, cr_PulseError, cb_PulseError, cd_PulseError, cl_PulseError, hn_x, ht_x, cm_PulseError⟩⟩
  have r_BadForm_PulseError : Rel K C_BadForm C_PulseError true := ⟨exm_of cb_PulseError ci_PulseError ct_PulseError cs_BadForm_PulseError, kit_of ci_PulseError ct_PulseError cs_BadForm_PulseError cs_PulseError⟩
  have r_BadText_BadText : Rel K C_BadText C_BadText true := ⟨exm_of cb_BadText ci_BadText ct_BadText cs_BadText, kit_of ci_BadText ct_BadText cs_BadText cs_BadText⟩
  have r_BadText_PulseError : Rel K C_BadText C_PulseError true := ⟨exm_of cb_PulseError ci_PulseError ct_PulseError cs_BadText_PulseError, kit_of ci_PulseError ct_PulseError cs_BadText_PulseError cs_PulseError⟩
  have r_NotTight_PulseError : Rel K C_NotTight C_PulseError true := ⟨exm_of cb_PulseError ci_PulseError ct_PulseError cs_NotTight_PulseError, kit_of ci_PulseError ct_PulseError cs_NotTight_PulseError cs_PulseError⟩
  have F0 := fun_mk (st := s_is_within) l0 c0 k0
  have d_is_within : Dfn K mg "is_within" s_is_within ["thing", "low", "high"] := ⟨_, _, F0, PySem.W.mg_of X G a0, F0.binds fun _ _ _ _ _ _ us hl => match us, hl with | [_, _, _], _ => rfl⟩
  have F1 := fun_mk (st := s_are_bits) l1 c1 k1
  have d_are_bits : Dfn K mg "are_bits" s_are_bits ["thing", "low", "high"] := ⟨_, _, F1, PySem.W.mg_of X G a1, F1.binds fun _ _ _ _ _ _ us hl => match us, hl with | [_, _, _], _ => rfl⟩
  have F2 := fun_mk (st := s_look_form) l2 c2 k2
  have d_look_form : Dfn K mg "look_form" s_look_form ["form"] := ⟨_, _, F2, PySem.W.mg_of X G a2, F2.binds fun _ _ _ _ _ _ us hl => match us, hl with | [_], _ => rfl⟩
  have F3 := fun_mk (st := s_shortest_bar) l3 c3 k3
  have d_shortest_bar : Dfn K mg "shortest_bar" s_shortest_bar ["bar"] := ⟨_, _, F3, PySem.W.mg_of X G a3, F3.binds fun _ _ _ _ _ _ us hl => match us, hl with | [_], _ => rfl⟩
  have F4 := fun_mk (st := s_tight) l4 c4 k4
  have d_tight : Dfn K mg "tight" s_tight ["head", "bar"] := ⟨_, _, F4, PySem.W.mg_of X G a4, F4.binds fun _ _ _ _ _ _ us hl => match us, hl with | [_, _], _ => rfl⟩
  have F5 := fun_mk (st := s_checked) l5 c5 k5
  have d_checked : Dfn K mg "checked" s_checked ["pulse"] := ⟨_, _, F5, PySem.W.mg_of X G a5, F5.binds fun _ _ _ _ _ _ us hl => match us, hl with | [_], _ => rfl⟩
  have F6 := fun_mk (st := s_bits_read) l6 c6 k6
  have d_bits_read : Dfn K mg "bits_read" s_bits_read ["text"] := ⟨_, _, F6, PySem.W.mg_of X G a6, F6.binds fun _ _ _ _ _ _ us hl => match us, hl with | [_], _ => rfl⟩
  have F7 := fun_mk (st := s_read) l7 c7 k7
  have d_read : Dfn K mg "read" s_read ["text"] := ⟨_, _, F7, PySem.W.mg_of X G a7, F7.binds fun _ _ _ _ _ _ us hl => match us, hl with | [_], _ => rfl⟩
  have F8 := fun_mk (st := s_law_cell) l8 c8 k8
  have d_law_cell : Dfn K mg "_law_cell" s_law_cell ["_law_script", "_law_k"] := ⟨_, _, F8, PySem.W.mg_of X G a8, F8.binds fun _ _ _ _ _ _ us hl => match us, hl with | [_, _], _ => rfl⟩
  have F9 := fun_mk (st := s_law_mix) l9 c9 k9
  have d_law_mix : Dfn K mg "_law_mix" s_law_mix ["_law_cell_here", "_law_prime", "_law_many"] := ⟨_, _, F9, PySem.W.mg_of X G a9, F9.binds fun _ _ _ _ _ _ us hl => match us, hl with | [_, _, _], _ => rfl⟩
  have F10 := fun_mk (st := s_law_large) l10 c10 k10
  have d_law_large : Dfn K mg "_law_large" s_law_large ["_law_script"] := ⟨_, _, F10, PySem.W.mg_of X G a10, F10.binds fun _ _ _ _ _ _ us hl => match us, hl with | [_], _ => rfl⟩
  have F11 := fun_mk (st := s_law_tight) l11 c11 k11
  have d_law_tight : Dfn K mg "_law_tight" s_law_tight ["_law_head", "_law_bar"] := ⟨_, _, F11, PySem.W.mg_of X G a11, F11.binds fun _ _ _ _ _ _ us hl => match us, hl with | [_, _], _ => rfl⟩
  have F12 := fun_mk (st := s_law_bits) l12 c12 k12
  have d_law_bits : Dfn K mg "_law_bits" s_law_bits ["_law_script", "_law_at", "_law_size"] := ⟨_, _, F12, PySem.W.mg_of X G a12, F12.binds fun _ _ _ _ _ _ us hl => match us, hl with | [_, _, _], _ => rfl⟩
  have F13 := fun_mk (st := s_law_form) l13 c13 k13
  have d_law_form : Dfn K mg "_law_form" s_law_form ["_law_script", "_law_at"] := ⟨_, _, F13, PySem.W.mg_of X G a13, F13.binds fun _ _ _ _ _ _ us hl => match us, hl with | [_, _], _ => rfl⟩
  have F14 := fun_mk (st := s_law_pulse) l14 c14 k14
  have d_law_pulse : Dfn K mg "_law_pulse" s_law_pulse ["_law_script", "_law_at"] := ⟨_, _, F14, PySem.W.mg_of X G a14, F14.binds fun _ _ _ _ _ _ us hl => match us, hl with | [_, _], _ => rfl⟩
  have F15 := fun_mk (st := s_law_refused) l15 c15 k15
  have d_law_refused : Dfn K mg "_law_refused" s_law_refused ["_law_text_here"] := ⟨_, _, F15, PySem.W.mg_of X G a15, F15.binds fun _ _ _ _ _ _ us hl => match us, hl with | [_], _ => rfl⟩
  have F16 := fun_mk (st := s_law_by_base) l16 c16 k16
  have d_law_by_base : Dfn K mg "_law_by_base" s_law_by_base ["_law_text_here"] := ⟨_, _, F16, PySem.W.mg_of X G a16, F16.binds fun _ _ _ _ _ _ us hl => match us, hl with | [_], _ => rfl⟩
  have F17 := fun_mk (st := s_law_text) l17 c17 k17
  have d_law_text : Dfn K mg "_law_text" s_law_text ["_law_form_here"] := ⟨_, _, F17, PySem.W.mg_of X G a17, F17.binds fun _ _ _ _ _ _ us hl => match us, hl with | [_], _ => rfl⟩
  have F18 := fun_mk (st := s_law_due) l18 c18 k18
  have d_law_due : Dfn K mg "_law_due" s_law_due ["_law_text_here"] := ⟨_, _, F18, PySem.W.mg_of X G a18, F18.binds fun _ _ _ _ _ _ us hl => match us, hl with | [_], _ => rfl⟩
  have F19 := fun_mk (st := s_law_bad) l19 c19 k19
  have d_law_bad : Dfn K mg "_law_bad" s_law_bad ["_law_script", "_law_text_here"] := ⟨_, _, F19, PySem.W.mg_of X G a19, F19.binds fun _ _ _ _ _ _ us hl => match us, hl with | [_, _], _ => rfl⟩
  have F20 := fun_mk (st := s_law) l20 c20 k20
  have d_law : Dfn K mg "law" s_law ["_law_script"] := ⟨_, _, F20, PySem.W.mg_of X G a20, F20.binds fun _ _ _ _ _ _ us hl => match us, hl with | [_], _ => rfl⟩
  refine ⟨PySem.W.fnOf "law" "law" (defArgs s_law) (defBody s_law) (defScope s_law) .none kV20 dc20 pm20 an20 cd20 ct20, fun s v => .of_eq rfl, fun base _ _ => ?_⟩
  have c_is_within : Can l.prog w K mg base CX0 1 "is_within" (sp_is_within K) := can_is_within d_is_within bt
  have c_shortest_bar : Can l.prog w K mg base CX0 1 "shortest_bar" (sp_shortest_bar K) := can_shortest_bar d_shortest_bar bt
  have c_bits_read : Can l.prog w K mg base (L2.CX l.prog w) 1 "bits_read" (sp_bits_read K C_BadText) := can_bits_read d_bits_read bt x_BadText
  have c_law_cell : Can l.prog w K mg base CX0 1 "_law_cell" (sp_law_cell K) := can_law_cell d_law_cell bt
  have c_law_mix : Can l.prog w K mg base CX0 1 "_law_mix" (sp_law_mix K) := can_law_mix d_law_mix bt
  have c_law_tight : Can l.prog w K mg base CX0 1 "_law_tight" (sp_law_tight K) := can_law_tight d_law_tight bt
  have c_law_text : Can l.prog w K mg base CX0 1 "_law_text" (sp_law_text K) := can_law_text d_law_text bt
  have c_are_bits : Can l.prog w K mg base CX0 2 "are_bits" (sp_are_bits K) := can_are_bits d_are_bits bt c_is_within
  have c_tight : Can l.prog w K mg base CX0 2 "tight" (sp_tight K) := can_tight d_tight bt c_shortest_bar
  have c_law_large : Can l.prog w K mg base CX0 2 "_law_large" (sp_law_large K) := can_law_large d_law_large bt c_law_mix c_law_cell
  have c_law_bits : Can l.prog w K mg base CX0 2 "_law_bits" (sp_law_bits K) := can_law_bits d_law_bits bt c_law_mix c_law_cell
  have c_law_due : Can l.prog w K mg base CX0 2 "_law_due" (sp_law_due K) := can_law_due d_law_due bt c_law_tight
  have c_look_form : Can l.prog w K mg base (L2N.CX l.prog w) 3 "look_form" (sp_look_form K C_BadForm) := can_look_form d_look_form bt c_are_bits g_MOST_BAR g_MOST_HEAD x_BadForm
  have c_law_form : Can l.prog w K mg base CX0 3 "_law_form" (sp_law_form K) := can_law_form d_law_form bt c_law_large c_law_cell c_law_bits c_law_mix
  have c_checked : Can l.prog w K mg base (L2N.CX l.prog w) 4 "checked" (sp_checked K C_BadForm C_NotTight) := can_checked d_checked bt c_look_form c_tight x_NotTight
  have c_law_pulse : Can l.prog w K mg base CX0 4 "_law_pulse" (sp_law_pulse K) := can_law_pulse d_law_pulse bt c_law_form c_law_tight
  have c_law_bad : Can l.prog w K mg base CX0 4 "_law_bad" (sp_law_bad K) := can_law_bad d_law_bad bt c_law_cell c_law_text c_law_form
  have c_read : Can l.prog w K mg base (L2.CX l.prog w) 5 "read" (sp_read K C_BadText) := can_read d_read bt c_bits_read c_checked x_BadForm x_BadText x_NotTight x_PulseError r_BadForm_PulseError r_NotTight_PulseError
  have c_law_refused : Can l.prog w K mg base CX0 6 "_law_refused" (sp_law_refused K) := can_law_refused d_law_refused bt c_read x_BadText r_BadText_BadText
  have c_law_by_base : Can l.prog w K mg base CX0 6 "_law_by_base" (sp_law_by_base K) := can_law_by_base d_law_by_base bt c_read x_BadText x_PulseError r_BadText_PulseError
  exact can_law F20 bt c_law_bad c_law_text c_law_due c_read c_law_pulse c_law_refused c_law_by_base
end Pb
open PySem PySem.W PyProof.Rows
set_option maxRecDepth 100000 in
set_option maxHeartbeats 0 in
theorem PySem.Challenge.cw_pulsebook_k21_spoilt_texts_holds : PySem.Challenge.rw_pulsebook_k21_spoilt_texts.Holds := by
  w_on; o_law; k_head; (case hw => w_witness2)
  k_fill
  refine L2.walk_ofK (l := PySem.Challenge.rw_pulsebook_k21_spoilt_texts) (n := 63) (k := 7) (x := "_law_script") (CX := L2.CX0) (sp := Pb.sp_law) rfl (by decide) rfl ⟨rfl, by decide, by decide⟩ (fun w h Y => PySem.W.kIn_of Y) ?F Pb.law_start (fun _ _ _ _ h => h)
  case F =>
    intro w mg fa h KX G hmg
    refine' Pb.all_mk KX G hmg ?a0 ?l0 ?c0 ?k0 ?a1 ?l1 ?c1 ?k1 ?a2 ?l2 ?c2 ?k2 ?a3 ?l3 ?c3 ?k3 ?a4 ?l4 ?c4 ?k4 ?a5 ?l5 ?c5 ?k5 ?a6 ?l6 ?c6 ?k6 ?a7 ?l7 ?c7 ?k7 ?a8 ?l8 ?c8 ?k8 ?a9 ?l9 ?c9 ?k9 ?a10 ?l10 ?c10 ?k10 ?a11 ?l11 ?c11 ?k11 ?a12 ?l12 ?c12 ?k12 ?a13 ?l13 ?c13 ?k13 ?a14 ?l14 ?c14 ?k14 ?a15 ?l15 ?c15 ?k15 ?a16 ?l16 ?c16 ?k16 ?a17 ?l17 ?c17 ?k17 ?a18 ?l18 ?c18 ?k18 ?a19 ?l19 ?c19 ?k19 ?a20 ?l20 ?c20 ?k20 ?z_len ?z_range ?z_int ?z_list ?z_tuple ?z_max ?z_min ?z_isinstance ?z_bool ?z_str ?z_sum ?z_sorted ?z_any ?z_enumerate ?z_ValueError ?v_MOST_HEAD ?v_MOST_BAR ?hn_x ?ht_x ?cg_BadForm ?cx_BadForm ?ck_BadForm ?cb_BadForm ?ct_BadForm ?ci_BadForm ?cv_BadForm ?cs_BadForm ?ca_BadForm ?cr_BadForm ?cd_BadForm ?cl_BadForm ?cm_BadForm ?cg_BadText ?cx_BadText ?ck_BadText ?cb_BadText ?ct_BadText ?ci_BadText ?cv_BadText ?cs_BadText ?ca_BadText ?cr_BadText ?cd_BadText ?cl_BadText ?cm_BadText ?cg_NotTight ?cx_NotTight ?ck_NotTight ?cb_NotTight ?ct_NotTight ?ci_NotTight ?cv_NotTight ?cs_NotTight ?ca_NotTight ?cr_NotTight ?cd_NotTight ?cl_NotTight ?cm_NotTight ?cg_PulseError ?cx_PulseError ?ck_PulseError ?cb_PulseError ?ct_PulseError ?ci_PulseError ?cv_PulseError ?cs_PulseError ?ca_PulseError ?cr_PulseError ?cd_PulseError ?cl_PulseError ?cm_PulseError ?cs_BadForm_PulseError ?cs_BadText_PulseError ?cs_NotTight_PulseError
    (case a0 => k_is); (case l0 => k_is); (case c0 => k_is); (case k0 => k_is); (case a1 => k_is); (case l1 => k_is); (case c1 => k_is); (case k1 => k_is); (case a2 => k_is); (case l2 => k_is); (case c2 => k_is); (case k2 => k_is); (case a3 => k_is); (case l3 => k_is); (case c3 => k_is); (case k3 => k_is); (case a4 => k_is); (case l4 => k_is); (case c4 => k_is); (case k4 => k_is); (case a5 => k_is); (case l5 => k_is); (case c5 => k_is); (case k5 => k_is); (case a6 => k_is); (case l6 => k_is); (case c6 => k_is); (case k6 => k_is); (case a7 => k_is); (case l7 => k_is); (case c7 => k_is); (case k7 => k_is); (case a8 => k_is); (case l8 => k_is); (case c8 => k_is); (case k8 => k_is); (case a9 => k_is); (case l9 => k_is); (case c9 => k_is); (case k9 => k_is); (case a10 => k_is); (case l10 => k_is); (case c10 => k_is); (case k10 => k_is); (case a11 => k_is); (case l11 => k_is); (case c11 => k_is); (case k11 => k_is); (case a12 => k_is); (case l12 => k_is); (case c12 => k_is); (case k12 => k_is); (case a13 => k_is); (case l13 => k_is); (case c13 => k_is); (case k13 => k_is); (case a14 => k_is); (case l14 => k_is); (case c14 => k_is); (case k14 => k_is); (case a15 => k_is); (case l15 => k_is); (case c15 => k_is); (case k15 => k_is); (case a16 => k_is); (case l16 => k_is); (case c16 => k_is); (case k16 => k_is); (case a17 => k_is); (case l17 => k_is); (case c17 => k_is); (case k17 => k_is); (case a18 => k_is); (case l18 => k_is); (case c18 => k_is); (case k18 => k_is); (case a19 => k_is); (case l19 => k_is); (case c19 => k_is); (case k19 => k_is); (case a20 => k_is); (case l20 => k_is); (case c20 => k_is); (case k20 => k_is); (case z_len => k_is); (case z_range => k_is); (case z_int => k_is); (case z_list => k_is); (case z_tuple => k_is); (case z_max => k_is); (case z_min => k_is); (case z_isinstance => k_is); (case z_bool => k_is); (case z_str => k_is); (case z_sum => k_is); (case z_sorted => k_is); (case z_any => k_is); (case z_enumerate => k_is); (case z_ValueError => k_is); (case v_MOST_HEAD => k_is); (case v_MOST_BAR => k_is); (case hn_x => k_is); (case ht_x => k_is); (case cg_BadForm => k_is); (case cx_BadForm => k_exc); (case ck_BadForm => k_is); (case cb_BadForm => k_is); (case ct_BadForm => k_is); (case ci_BadForm => k_is); (case cv_BadForm => k_is); (case cs_BadForm => first | rfl | k_is); (case ca_BadForm => k_is); (case cr_BadForm => k_is); (case cd_BadForm => k_is); (case cl_BadForm => k_is); (case cm_BadForm => k_is); (case cg_BadText => k_is); (case cx_BadText => k_exc); (case ck_BadText => k_is); (case cb_BadText => k_is); (case ct_BadText => k_is); (case ci_BadText => k_is); (case cv_BadText => k_is); (case cs_BadText => first | rfl | k_is); (case ca_BadText => k_is); (case cr_BadText => k_is); (case cd_BadText => k_is); (case cl_BadText => k_is); (case cm_BadText => k_is); (case cg_NotTight => k_is); (case cx_NotTight => k_exc); (case ck_NotTight => k_is); (case cb_NotTight => k_is); (case ct_NotTight => k_is); (case ci_NotTight => k_is); (case cv_NotTight => k_is); (case cs_NotTight => first | rfl | k_is); (case ca_NotTight => k_is); (case cr_NotTight => k_is); (case cd_NotTight => k_is); (case cl_NotTight => k_is); (case cm_NotTight => k_is); (case cg_PulseError => k_is); (case cx_PulseError => k_exc); (case ck_PulseError => k_is); (case cb_PulseError => k_is); (case ct_PulseError => k_is); (case ci_PulseError => k_is); (case cv_PulseError => k_is); (case cs_PulseError => first | rfl | k_is); (case ca_PulseError => k_is); (case cr_PulseError => k_is); (case cd_PulseError => k_is); (case cl_PulseError => k_is); (case cm_PulseError => k_is); (case cs_BadForm_PulseError => first | rfl | k_is); (case cs_BadText_PulseError => first | rfl | k_is); (case cs_NotTight_PulseError => first | rfl | k_is)
#print axioms PySem.Challenge.cw_pulsebook_k21_spoilt_texts_holds

