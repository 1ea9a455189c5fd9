import PyProof.Rows.All
import Wide.All
import OpenK.AllK
import Wide.FinOn
import KE.KStateDown
import HandS.ForMost
import HandS.ForExc
import HandS.ExcInit
import HandS.Defaults
import HandS.Codes
import HandS.Flow
import HandS.More
import HandS.StrMore
import HandS.IsInst
import HandS.RaiseMore
import HandS.Conv
import HandS.Wide
import HandS.Steps
import HandS.HeadHook1
import HandS.HeadHook2
import KE.KExcSuper
import KE.KSuper
import KE.KTryMore
import HandS.ExcOwn
import PyProof.ListStr
import HandS.Head0
import HandS.Head1
import HandS.Head2
import HandS.HeadEnd
import PySem.Challenge.RW_messageways_k52_records
set_option Elab.async false
set_option linter.all false
set_option maxRecDepth 100000
set_option maxHeartbeats 4000000
/-! MwA: the text by places, the heap in two parts (what is written, what may still be written), small rules. -/
namespace Mw
open PySem PySem.Spec PyProof.Rows L2
open SX (S S_cat S_len S_inj)
def top (i : Nat) : Stmt := PySem.Challenge.pw_messageways_k52_records.main.body.getD i (.Pass ⟨0, 0, 0, 0⟩)
/-! ### data that stands finished in a part G of the heap -/
mutual
inductive Rp (G : Hp) : V → PyData → Prop
  | non : Rp G .non .none
  | bl (b : Bool) : Rp G (.bl b) (.bool b)
  | int (i : Int) : Rp G (.int i) (.int i)
  | str (x : Str) : Rp G (.str x) (.str x)
  | lst {a : Addr} {xs : List V} {ds : List PyData} : G a = some (.lst xs) → RpL G xs ds → Rp G (.ref a) (.list ds)
  | tup {a : Addr} {xs : List V} {ds : List PyData} : G a = some (.tup xs) → RpL G xs ds → Rp G (.ref a) (.tuple ds)
inductive RpL (G : Hp) : List V → List PyData → Prop
  | nil : RpL G [] []
  | cons {v : V} {vs : List V} {d : PyData} {ds : List PyData} : Rp G v d → RpL G vs ds → RpL G (v :: vs) (d :: ds)
end
mutual
theorem Rp.same {G G' : Hp} (s : Same G G') : ∀ {v : V} {d : PyData}, Rp G v d → Rp G' v d
  | _, _, .non => .non
  | _, _, .bl b => .bl b
  | _, _, .int i => .int i
  | _, _, .str x => .str x
  | _, _, .lst h r => .lst (s _ _ h) (RpL.same s r)
  | _, _, .tup h r => .tup (s _ _ h) (RpL.same s r)
theorem RpL.same {G G' : Hp} (s : Same G G') : ∀ {vs : List V} {ds : List PyData}, RpL G vs ds → RpL G' vs ds
  | _, _, .nil => .nil
  | _, _, .cons h r => .cons (Rp.same s h) (RpL.same s r)
end
mutual
theorem Rp.dp {K : PySem.W.Frag} {G : Hp} : ∀ {v : V} {d : PyData}, Rp G v d → Dp K G v d
  | _, _, .non => .non
  | _, _, .bl b => .bl b
  | _, _, .int i => .int i
  | _, _, .str x => .str x
  | _, _, .lst h r => .lst (SqL.of h) (RpL.dp r)
  | _, _, .tup h r => .tup (SqT.of h) (RpL.dp r)
theorem RpL.dp {K : PySem.W.Frag} {G : Hp} : ∀ {vs : List V} {ds : List PyData}, RpL G vs ds → DpAll K G vs ds
  | _, _, .nil => .nil
  | _, _, .cons h r => .cons (Rp.dp h) (RpL.dp r)
end
section
variable {G : Hp} {v : V}
theorem Rp.non_inv (h : Rp G v .none) : v = .non := by cases h; rfl
theorem Rp.bl_inv {b : Bool} (h : Rp G v (.bool b)) : v = .bl b := by cases h; rfl
theorem Rp.int_inv {i : Int} (h : Rp G v (.int i)) : v = .int i := by cases h; rfl
theorem Rp.str_inv {x : Str} (h : Rp G v (.str x)) : v = .str x := by cases h; rfl
theorem Rp.lst_inv {ds : List PyData} (h : Rp G v (.list ds)) : ∃ a xs, v = .ref a ∧ G a = some (.lst xs) ∧ RpL G xs ds := by
  cases h with
  | lst h r => exact ⟨_, _, rfl, h, r⟩
theorem Rp.tup_inv {ds : List PyData} (h : Rp G v (.tuple ds)) : ∃ a xs, v = .ref a ∧ G a = some (.tup xs) ∧ RpL G xs ds := by
  cases h with
  | tup h r => exact ⟨_, _, rfl, h, r⟩
theorem RpL.nil_inv {vs : List V} (h : RpL G vs []) : vs = [] := by cases h; rfl
theorem RpL.cons_inv {vs : List V} {d : PyData} {ds : List PyData} (h : RpL G vs (d :: ds)) : ∃ v ws, vs = v :: ws ∧ Rp G v d ∧ RpL G ws ds := by
  cases h with
  | cons h r => exact ⟨_, _, rfl, h, r⟩
theorem RpL.length : ∀ {vs : List V} {ds : List PyData}, RpL G vs ds → vs.length = ds.length
  | _, _, .nil => rfl
  | _, _, .cons _ r => congrArg (· + 1) (RpL.length r)
theorem RpL.append : ∀ {vs ws : List V} {ds es : List PyData}, RpL G vs ds → RpL G ws es → RpL G (vs ++ ws) (ds ++ es)
  | _, _, _, _, .nil, s => s
  | _, _, _, _, .cons h r, s => .cons h (RpL.append r s)
theorem RpL.snoc {vs : List V} {ds : List PyData} {d : PyData} (r : RpL G vs ds) (h : Rp G v d) : RpL G (vs ++ [v]) (ds ++ [d]) := r.append (.cons h .nil)
theorem RpL.get : ∀ {vs : List V} {ds : List PyData} {i : Nat} {v : V}, RpL G vs ds → vs[i]? = some v → ∃ d, ds[i]? = some d ∧ Rp G v d
  | _, _, _, _, .nil, e => by simp at e
  | _, _, 0, _, .cons h _, e => by simp at e; subst e; exact ⟨_, rfl, h⟩
  | _, _, i + 1, _, .cons _ r, e => by
    obtain ⟨d, h1, h2⟩ := RpL.get (i := i) r (by simpa using e)
    exact ⟨d, by simpa using h1, h2⟩
theorem RpL.get' : ∀ {vs : List V} {ds : List PyData} {i : Nat} {d : PyData}, RpL G vs ds → ds[i]? = some d → ∃ v, vs[i]? = some v ∧ Rp G v d
  | _, _, _, _, .nil, e => by simp at e
  | _, _, 0, _, .cons h _, e => by simp at e; subst e; exact ⟨_, rfl, h⟩
  | _, _, i + 1, _, .cons _ r, e => by
    obtain ⟨d, h1, h2⟩ := RpL.get' (i := i) r (by simpa using e)
    exact ⟨d, by simpa using h1, h2⟩
theorem RpL.ints : ∀ ns : List Int, RpL G (ns.map V.int) (ns.map PyData.int)
  | [] => .nil
  | _ :: r => .cons (.int _) (RpL.ints r)
theorem RpL.ints_inv : ∀ {ns : List Int} {vs : List V}, RpL G vs (ns.map PyData.int) → vs = ns.map V.int
  | [], _, h => h.nil_inv
  | n :: r, _, h => by
    obtain ⟨v, ws, rfl, h1, h2⟩ := h.cons_inv
    rw [h1.int_inv, RpL.ints_inv h2]
    rfl
end
/-! ### how the heap grows: G what is written for good, M the addresses that may be changed -/
structure Gw (M : List Addr) (G H G' H' : Hp) : Prop where
  gg : Same G G'
  gh : Same G' H'
  sep : ∀ a, H a ≠ none → G a = none → G' a = none
  keep : ∀ a o, a ∉ M → H a = some o → H' a = some o
  there : ∀ a, H a ≠ none → H' a ≠ none
section
variable {M M' : List Addr} {G H G1 H1 G2 H2 : Hp} {p : Addr} {o o' : HO}
theorem Gw.refl (s : Same G H) : Gw M G H G H := ⟨Same.refl _, s, fun _ _ h => h, fun _ _ _ h => h, fun _ h => h⟩
theorem Gw.trans (a : Gw M G H G1 H1) (b : Gw M G1 H1 G2 H2) : Gw M G H G2 H2 where
  gg := a.gg.trans b.gg
  gh := b.gh
  sep := fun x h g => b.sep x (a.there x h) (a.sep x h g)
  keep := fun x o hx h => b.keep x o hx (a.keep x o hx h)
  there := fun x h => b.there x (a.there x h)
theorem Gw.mono (a : Gw M G H G1 H1) (s : ∀ x ∈ M, x ∈ M') : Gw M' G H G1 H1 := ⟨a.gg, a.gh, a.sep, fun x o hx h => a.keep x o (fun z => hx (s x z)) h, a.there⟩
theorem Gw.nil (a : Gw [] G H G1 H1) : Gw M G H G1 H1 := a.mono fun x z => (by cases z)
theorem Gw.same (a : Gw [] G H G1 H1) : Same H H1 := fun x o h => a.keep x o (by simp) h
theorem Gw.sh (a : Gw M G H G1 H1) : Same G H1 := a.gg.trans a.gh
/-- a new object that will not be changed -/
theorem Gw.alloc (s : Same G H) (n : H p = none) : Gw M G H (upd G p o) (upd H p o) where
  gg := fun x u h => by rw [upd_ne (ne_of_none (s x u h) n)]; exact h
  gh := fun x u h => by
    by_cases e : x = p
    · subst e; rw [upd_same] at h ⊢; exact h
    · rw [upd_ne e] at h ⊢; exact s x u h
  sep := fun x h g => by
    have e : x ≠ p := fun e => h (by rw [e]; exact n)
    rw [upd_ne e]; exact g
  keep := fun x u _ h => by rw [upd_ne (ne_of_none h n)]; exact h
  there := fun x h => by
    have e : x ≠ p := fun e => h (by rw [e]; exact n)
    rw [upd_ne e]; exact h
/-- a new object that will be changed -/
theorem Gw.allocM (s : Same G H) (n : H p = none) : Gw M G H G (upd H p o) where
  gg := Same.refl _
  gh := fun x u h => by rw [upd_ne (ne_of_none (s x u h) n)]; exact s x u h
  sep := fun _ _ h => h
  keep := fun x u _ h => by rw [upd_ne (ne_of_none h n)]; exact h
  there := fun x h => by
    have e : x ≠ p := fun e => h (by rw [e]; exact n)
    rw [upd_ne e]; exact h
/-- an object is changed -/
theorem Gw.write (s : Same G H) (g : G p = none) (m : p ∈ M) : Gw M G H G (upd H p o) where
  gg := Same.refl _
  gh := fun x u h => by rw [upd_ne (ne_of_none h g)]; exact s x u h
  sep := fun _ _ h => h
  keep := fun x u hx h => by
    have e : x ≠ p := fun e => hx (by rw [e]; exact m)
    rw [upd_ne e]; exact h
  there := fun x h => by
    by_cases e : x = p
    · subst e; rw [upd_same]; simp
    · rw [upd_ne e]; exact h
/-- an object of one's own is changed no more -/
theorem Gw.close (s : Same G H) (n : H p = none) (a : Gw (p :: M) G (upd H p o) G1 H1) (e : H1 p = some o') : Gw M G H (upd G1 p o') H1 where
  gg := fun x u h => by rw [upd_ne (ne_of_none (s x u h) n)]; exact a.gg x u h
  gh := fun x u h => by
    by_cases z : x = p
    · subst z; rw [upd_same] at h; cases h; exact e
    · rw [upd_ne z] at h; exact a.gh x u h
  sep := fun x h g => by
    have z : x ≠ p := fun z => h (by rw [z]; exact n)
    rw [upd_ne z]; exact a.sep x (by rw [upd_ne z]; exact h) g
  keep := fun x u hx h => by
    have z : x ≠ p := ne_of_none h n
    exact a.keep x u (by simp [z, hx]) (by rw [upd_ne z]; exact h)
  there := fun x h => by
    have z : x ≠ p := fun z => h (by rw [z]; exact n)
    exact a.there x (by rw [upd_ne z]; exact h)
/-- an object of one's own is thrown away, what it was filled with is kept -/
theorem Gw.drop (s : Same G H) (n : H p = none) (a : Gw (p :: M) G (upd H p o) G1 H1) : Gw M G H G1 H1 where
  gg := a.gg
  gh := a.gh
  sep := fun x h g => by
    have z : x ≠ p := fun z => h (by rw [z]; exact n)
    exact a.sep x (by rw [upd_ne z]; exact h) g
  keep := fun x u hx h => by
    have z : x ≠ p := ne_of_none h n
    exact a.keep x u (by simp [z, hx]) (by rw [upd_ne z]; exact h)
  there := fun x h => by
    have z : x ≠ p := fun z => h (by rw [z]; exact n)
    exact a.there x (by rw [upd_ne z]; exact h)
theorem Gw.none (a : Gw M G H G1 H1) (h : H p ≠ Option.none) (g : G p = Option.none) : G1 p = Option.none := a.sep p h g
end
theorem some_ne {α : Type} {x : Option α} {a : α} (h : x = some a) : x ≠ none := by rw [h]; simp
theorem upd_ne_none {H : Hp} {p : Addr} {o : HO} : upd H p o p ≠ none := by rw [upd_same]; simp
/-! ### small rules -/
section
variable {X : Cx} {x : Str} {pos : Pos}
theorem pe_gs {z : Str} (hm : ∃ t, X.mg x = some (.str z t)) (hg : Gl X x := by rfl) (hd : (x == ("__debug__" : Str)) = false := by decide) : PE X (.Name x pos) (tC (.str z)) := by
  obtain ⟨t, e⟩ := hm
  exact pe_glob hg e ⟨t, rfl⟩ hd
theorem pe_gi {z : Int} (hm : ∃ t, X.mg x = some (.int z t)) (hg : Gl X x := by rfl) (hd : (x == ("__debug__" : Str)) = false := by decide) : PE X (.Name x pos) (tC (.int z)) := by
  obtain ⟨t, e⟩ := hm
  exact pe_glob hg e ⟨t, rfl⟩ hd
theorem pe_gr {a : Addr} (hm : X.mg x = some (.ref a)) (hg : Gl X x := by rfl) (hd : (x == ("__debug__" : Str)) = false := by decide) : PE X (.Name x pos) (tC (.ref a)) := pe_glob hg hm rfl hd
theorem pe_s {z : Str} {j pos} (l : List Nat) (h : z = S l := by decide +kernel) : PE X (.Constant (.str z) j pos) (tC (.str (S l))) := by
  subst h
  exact pe_str
theorem CallR.or {f : Value} {r q : List V → Hp → VK → Prop} (a : CallR X f r) (b : CallR X f q) : CallR X f (fun xs H Q => r xs H Q ∨ q xs H Q) := fun pins s σ H xs us Q I rv h => by
  rcases h with h | h
  · exact a pins s σ H xs us Q I rv h
  · exact b pins s σ H xs us Q I rv h
theorem OpR.or {f : Value → Value → Sem Value} {r q : R2} (a : OpR X f r) (b : OpR X f q) : OpR X f (fun x y H Q => r x y H Q ∨ q x y H Q) := fun pins s σ H x y v u Q I rx ry h => by
  rcases h with h | h
  · exact a pins s σ H x y v u Q I rx ry h
  · exact b pins s σ H x y v u Q I rx ry h
end
/-! ### tests on texts and ints -/
theorem vs_eq {a b : List Nat} : (V.str (S a) = V.str (S b)) ↔ a = b := ⟨fun h => S_inj (V.str.inj h), fun h => by rw [h]⟩
theorem vi_eq {a b : Int} : (V.int a = V.int b) ↔ a = b := ⟨fun h => V.int.inj h, fun h => by rw [h]⟩
theorem iteS {a b : List Nat} {A B : Prop} (h1 : a = b → A) (h2 : a ≠ b → B) : if decide (V.str (S a) = V.str (S b)) = true then A else B :=
  ite2 (fun h => h1 (vs_eq.mp (of_decide_eq_true h))) (fun h => h2 fun e => h (decide_eq_true (vs_eq.mpr e)))
theorem iteSN {a b : List Nat} {A B : Prop} (h1 : a ≠ b → A) (h2 : a = b → B) : if (!decide (V.str (S a) = V.str (S b))) = true then A else B := by
  by_cases e : a = b
  · rw [decide_eq_true (vs_eq.mpr e)]; exact iteF (h2 e)
  · rw [decide_eq_false (fun z => e (vs_eq.mp z))]; exact iteT (h1 e)
theorem iteI {a b : Int} {A B : Prop} (h1 : a = b → A) (h2 : a ≠ b → B) : if decide (V.int a = V.int b) = true then A else B :=
  ite2 (fun h => h1 (vi_eq.mp (of_decide_eq_true h))) (fun h => h2 fun e => h (decide_eq_true (vi_eq.mpr e)))
theorem iteIN {a b : Int} {A B : Prop} (h1 : a ≠ b → A) (h2 : a = b → B) : if (!decide (V.int a = V.int b)) = true then A else B := by
  by_cases e : a = b
  · rw [decide_eq_true (vi_eq.mpr e)]; exact iteF (h2 e)
  · rw [decide_eq_false (fun z => e (vi_eq.mp z))]; exact iteT (h1 e)
theorem iteD {c : Prop} [Decidable c] {A B : Prop} (h1 : c → A) (h2 : ¬ c → B) : if decide c = true then A else B :=
  ite2 (fun h => h1 (of_decide_eq_true h)) (fun h => h2 fun e => h (decide_eq_true e))
theorem iteDN {c : Prop} [Decidable c] {A B : Prop} (h1 : ¬ c → A) (h2 : c → B) : if (!decide c) = true then A else B := by
  by_cases e : c
  · rw [decide_eq_true e]; exact iteF (h2 e)
  · rw [decide_eq_false e]; exact iteT (h1 e)
theorem iteB {b : Bool} {A B : Prop} (h1 : b = true → A) (h2 : b = false → B) : if b = true then A else B := by
  cases b
  · exact iteF (h2 rfl)
  · exact iteT (h1 rfl)
/-- += of texts, at a name -/
def ipS : TIp := fun x y H Q => ∃ i j, x = .str i ∧ y = .str j ∧ i.length + j.length ≤ sizeLine ∧ Q (.str (i ++ j)) H
theorem ip_addS {X : Cx} : PIp X .Add ipS := fun pins s σ H x y v u Q I rx ry h => iop_add_str pins s σ H x y v u Q I rx ry h
/-- a def by its body, called by its name -/
theorem cal_of {P : Program} {w : World} {K : PySem.W.Frag} {mg : Str → Option Value} {base : Heap} {x : Str} {st : Stmt} {N ps : List Str} {k : Nat} {sp : Sp} {f : Addr} (hF : ∃ fd, FunD K x x (defArgs st) (defBody st) (defScope st) [] [] f fd) (hm : mg x = some (.ref f))
    (hb : ∀ (kV doc pm : Value) (an : Option Addr) (cdv ct : Value) (us : List Value), us.length = ps.length → bindArgs (PySem.W.fnOf x x (defArgs st) (defBody st) (defScope st) .none kV doc pm an cdv ct) ⟨us, []⟩ = pure (ps.zip us))
    (S : FnScope N ps (defScope st)) (len : ∀ vs H Q E, sp vs H Q E → vs.length = ps.length)
    (hbody : ∀ (cdv : Value) (A : Around) (outer : List Env) (s : Shared) (H : Hp) (vs : List V) (Q : VK) (E : XK), Room k (A.deeper (envOfC x (defScope st) s.heap.objs.size f cdv)) → sp vs H Q E →
      ∃ t, PSs (cxOf CX0 P w K mg base N x (defScope st) f cdv A outer s H E).nox (defBody st) t ∧ t { nx := fun _ H' => Q .non H', rt := Q } (start N vs) H) : C8.Cal P w K mg base (k + 1) x sp [] := by
  obtain ⟨fd, F⟩ := hF
  have b : Binds K fd ps [] := F.bindsN hb
  refine ⟨f, fd, ps, [], F.ok S len fun cdv A outer s H vs Q E hr h => ?_, hm, F.kp, b, .nil⟩
  obtain ⟨t, h1, h2⟩ := hbody cdv A outer s H vs Q E hr h
  exact ⟨t, h1.nox, h2⟩
end Mw

set_option Elab.async false
set_option linter.all false
set_option maxRecDepth 100000
set_option maxHeartbeats 4000000
namespace Mw
open PySem PySem.Spec PyProof.Rows L2
open SX (S S_cat S_len S_inj)
abbrev tText : List Nat := [116, 101, 120, 116]
abbrev tShow : List Nat := [115, 104, 111, 119]
abbrev tNum : List Nat := [110, 117, 109, 98, 101, 114]
abbrev tSel : List Nat := [115, 101, 108, 101, 99, 116]
abbrev tPlu : List Nat := [112, 108, 117, 114, 97, 108]
abbrev tOth : List Nat := [111, 116, 104, 101, 114]
abbrev cats : List (List Nat) := [[122, 101, 114, 111], [111, 110, 101], [116, 119, 111], [102, 101, 119], [109, 97, 110, 121]]
/-! the defs by places, their names by slot (printed by gent.py) -/
abbrev s_cases_of : Stmt := top 13
abbrev N_cases_of : List Str := ["node"]
theorem sc_cases_of : FnScope N_cases_of ["node"] (defScope s_cases_of) := ⟨rfl, rfl, rfl, by decide +kernel, rfl, by decide +kernel, by decide +kernel⟩
abbrev s_other_of : Stmt := top 14
abbrev N_other_of : List Str := ["node"]
theorem sc_other_of : FnScope N_other_of ["node"] (defScope s_other_of) := ⟨rfl, rfl, rfl, by decide +kernel, rfl, by decide +kernel, by decide +kernel⟩
abbrev s_plain_node : Stmt := top 15
abbrev N_plain_node : List Str := ["node", "cases", "key", "message"]
theorem sc_plain_node : FnScope N_plain_node ["node"] (defScope s_plain_node) := ⟨rfl, rfl, rfl, by decide +kernel, rfl, by decide +kernel, by decide +kernel⟩
abbrev s_plain : Stmt := top 16
abbrev N_plain : List Str := ["message", "found", "node"]
theorem sc_plain : FnScope N_plain ["message"] (defScope s_plain) := ⟨rfl, rfl, rfl, by decide +kernel, rfl, by decide +kernel, by decide +kernel⟩
abbrev s_format_text : Stmt := top 27
abbrev N_format_text : List Str := ["text", "found", "sign"]
theorem sc_format_text : FnScope N_format_text ["text"] (defScope s_format_text) := ⟨rfl, rfl, rfl, by decide +kernel, rfl, by decide +kernel, by decide +kernel⟩
abbrev s_format_key : Stmt := top 28
abbrev N_format_key : List Str := ["key"]
theorem sc_format_key : FnScope N_format_key ["key"] (defScope s_format_key) := ⟨rfl, rfl, rfl, by decide +kernel, rfl, by decide +kernel, by decide +kernel⟩
abbrev s_format_choice : Stmt := top 29
abbrev N_format_choice : List Str := ["node", "words", "key", "message"]
theorem sc_format_choice : FnScope N_format_choice ["node"] (defScope s_format_choice) := ⟨rfl, rfl, rfl, by decide +kernel, rfl, by decide +kernel, by decide +kernel⟩
abbrev s_format_node : Stmt := top 30
abbrev N_format_node : List Str := ["node"]
theorem sc_format_node : FnScope N_format_node ["node"] (defScope s_format_node) := ⟨rfl, rfl, rfl, by decide +kernel, rfl, by decide +kernel, by decide +kernel⟩
abbrev s_format_message : Stmt := top 31
abbrev N_format_message : List Str := ["message", "node"]
theorem sc_format_message : FnScope N_format_message ["message"] (defScope s_format_message) := ⟨rfl, rfl, rfl, by decide +kernel, rfl, by decide +kernel, by decide +kernel⟩
abbrev s_is_sign : Stmt := top 32
abbrev N_is_sign : List Str := ["sign"]
theorem sc_is_sign : FnScope N_is_sign ["sign"] (defScope s_is_sign) := ⟨rfl, rfl, rfl, by decide +kernel, rfl, by decide +kernel, by decide +kernel⟩
abbrev s_parse_message : Stmt := top 34
abbrev N_parse_message : List Str := ["text", "reader", "message"]
theorem sc_parse_message : FnScope N_parse_message ["text"] (defScope s_parse_message) := ⟨rfl, rfl, rfl, by decide +kernel, rfl, by decide +kernel, by decide +kernel⟩
abbrev s_octets_of : Stmt := top 42
abbrev N_octets_of : List Str := ["text", "sign"]
theorem sc_octets_of : FnScope N_octets_of ["text"] (defScope s_octets_of) := ⟨rfl, rfl, rfl, by decide +kernel, rfl, by decide +kernel, by decide +kernel⟩
abbrev s_text_of : Stmt := top 43
abbrev N_text_of : List Str := ["octets", "found", "octet"]
theorem sc_text_of : FnScope N_text_of ["octets"] (defScope s_text_of) := ⟨rfl, rfl, rfl, by decide +kernel, rfl, by decide +kernel, by decide +kernel⟩
abbrev s_body_of : Stmt := top 44
abbrev N_body_of : List Str := ["deed"]
theorem sc_body_of : FnScope N_body_of ["deed"] (defScope s_body_of) := ⟨rfl, rfl, rfl, by decide +kernel, rfl, by decide +kernel, by decide +kernel⟩
abbrev s_record_of : Stmt := top 45
abbrev N_record_of : List Str := ["deed", "body"]
theorem sc_record_of : FnScope N_record_of ["deed"] (defScope s_record_of) := ⟨rfl, rfl, rfl, by decide +kernel, rfl, by decide +kernel, by decide +kernel⟩
abbrev s_key_of : Stmt := top 46
abbrev N_key_of : List Str := ["octets", "text", "sign"]
theorem sc_key_of : FnScope N_key_of ["octets"] (defScope s_key_of) := ⟨rfl, rfl, rfl, by decide +kernel, rfl, by decide +kernel, by decide +kernel⟩
abbrev s_message_of : Stmt := top 47
abbrev N_message_of : List Str := ["octets", "text", "message"]
theorem sc_message_of : FnScope N_message_of ["octets"] (defScope s_message_of) := ⟨rfl, rfl, rfl, by decide +kernel, rfl, by decide +kernel, by decide +kernel⟩
abbrev s_deed_of : Stmt := top 48
abbrev N_deed_of : List Str := ["body", "key", "message"]
theorem sc_deed_of : FnScope N_deed_of ["body"] (defScope s_deed_of) := ⟨rfl, rfl, rfl, by decide +kernel, rfl, by decide +kernel, by decide +kernel⟩
abbrev s_recovered : Stmt := top 49
abbrev N_recovered : List Str := ["octets", "deeds", "place", "end", "body", "deed"]
theorem sc_recovered : FnScope N_recovered ["octets"] (defScope s_recovered) := ⟨rfl, rfl, rfl, by decide +kernel, rfl, by decide +kernel, by decide +kernel⟩
abbrev s_law_cell : Stmt := top 51
abbrev N_law_cell : List Str := ["_law_script", "_law_k"]
theorem sc_law_cell : FnScope N_law_cell ["_law_script", "_law_k"] (defScope s_law_cell) := ⟨rfl, rfl, rfl, by decide +kernel, rfl, by decide +kernel, by decide +kernel⟩
abbrev s_law_row : Stmt := top 52
abbrev N_law_row : List Str := ["_law_cell_here", "_law_k", "_law_many", "_law_row_here", "_law_turn", "_law_seed"]
theorem sc_law_row : FnScope N_law_row ["_law_cell_here", "_law_k", "_law_many"] (defScope s_law_row) := ⟨rfl, rfl, rfl, by decide +kernel, rfl, by decide +kernel, by decide +kernel⟩
abbrev s_law_box : Stmt := top 53
abbrev N_law_box : List Str := ["_law_script", "_law_first", "_law_last", "_law_row_here", "_law_k"]
theorem sc_law_box : FnScope N_law_box ["_law_script", "_law_first", "_law_last"] (defScope s_law_box) := ⟨rfl, rfl, rfl, by decide +kernel, rfl, by decide +kernel, by decide +kernel⟩
abbrev s_law_draw : Stmt := top 54
abbrev N_law_draw : List Str := ["_law_box_here", "_law_many", "_law_at"]
theorem sc_law_draw : FnScope N_law_draw ["_law_box_here", "_law_many"] (defScope s_law_draw) := ⟨rfl, rfl, rfl, by decide +kernel, rfl, by decide +kernel, by decide +kernel⟩
abbrev s_law_same : Stmt := top 55
abbrev N_law_same : List Str := ["_law_one", "_law_other"]
theorem sc_law_same : FnScope N_law_same ["_law_one", "_law_other"] (defScope s_law_same) := ⟨rfl, rfl, rfl, by decide +kernel, rfl, by decide +kernel, by decide +kernel⟩
abbrev s_law_message : Stmt := top 56
abbrev N_law_message : List Str := ["_law_box_here", "_law_depth", "_law_inside", "_law_numbers", "_law_found", "_law_turn", "_law_kind", "_law_cases", "_law_key", "_law_name", "_law_word_here"]
theorem sc_law_message : FnScope N_law_message ["_law_box_here", "_law_depth", "_law_inside", "_law_numbers"] (defScope s_law_message) := ⟨rfl, rfl, rfl, by decide +kernel, rfl, by decide +kernel, by decide +kernel⟩
abbrev s_law_plain : Stmt := top 57
abbrev N_law_plain : List Str := ["_law_message_here", "_law_found", "_law_node_here", "_law_key", "_law_inner"]
theorem sc_law_plain : FnScope N_law_plain ["_law_message_here"] (defScope s_law_plain) := ⟨rfl, rfl, rfl, by decide +kernel, rfl, by decide +kernel, by decide +kernel⟩
abbrev s_law_notation : Stmt := top 58
abbrev N_law_notation : List Str := ["_law_message_here", "_law_text", "_law_node_here", "_law_sign", "_law_key", "_law_inner"]
theorem sc_law_notation : FnScope N_law_notation ["_law_message_here"] (defScope s_law_notation) := ⟨rfl, rfl, rfl, by decide +kernel, rfl, by decide +kernel, by decide +kernel⟩
abbrev s_law_word : Stmt := top 59
abbrev N_law_word : List Str := ["_law_text", "_law_at", "_law_found", "_law_sign"]
theorem sc_law_word : FnScope N_law_word ["_law_text", "_law_at"] (defScope s_law_word) := ⟨rfl, rfl, rfl, by decide +kernel, rfl, by decide +kernel, by decide +kernel⟩
abbrev s_law_key_at : Stmt := top 60
abbrev N_law_key_at : List Str := ["_law_text", "_law_at", "_law_kind", "_law_figures", "_law_sign", "_law_word_here"]
theorem sc_law_key_at : FnScope N_law_key_at ["_law_text", "_law_at", "_law_kind"] (defScope s_law_key_at) := ⟨rfl, rfl, rfl, by decide +kernel, rfl, by decide +kernel, by decide +kernel⟩
abbrev s_law_choice : Stmt := top 61
abbrev N_law_choice : List Str := ["_law_text", "_law_at", "_law_inside", "_law_head", "_law_cases", "_law_offset", "_law_turn", "_law_key", "_law_inner", "_law_other"]
theorem sc_law_choice : FnScope N_law_choice ["_law_text", "_law_at", "_law_inside", "_law_head"] (defScope s_law_choice) := ⟨rfl, rfl, rfl, by decide +kernel, rfl, by decide +kernel, by decide +kernel⟩
abbrev s_law_node : Stmt := top 62
abbrev N_law_node : List Str := ["_law_text", "_law_at", "_law_inside", "_law_sign", "_law_written", "_law_char", "_law_name"]
theorem sc_law_node : FnScope N_law_node ["_law_text", "_law_at", "_law_inside"] (defScope s_law_node) := ⟨rfl, rfl, rfl, by decide +kernel, rfl, by decide +kernel, by decide +kernel⟩
abbrev s_law_parsed : Stmt := top 63
abbrev N_law_parsed : List Str := ["_law_text", "_law_at", "_law_inside", "_law_found", "_law_turn", "_law_node_here"]
theorem sc_law_parsed : FnScope N_law_parsed ["_law_text", "_law_at", "_law_inside"] (defScope s_law_parsed) := ⟨rfl, rfl, rfl, by decide +kernel, rfl, by decide +kernel, by decide +kernel⟩
abbrev s_law_signs : Stmt := top 64
abbrev N_law_signs : List Str := ["_law_octets", "_law_signs_here", "_law_text", "_law_octet"]
theorem sc_law_signs : FnScope N_law_signs ["_law_octets"] (defScope s_law_signs) := ⟨rfl, rfl, rfl, by decide +kernel, rfl, by decide +kernel, by decide +kernel⟩
abbrev s_law_body_told : Stmt := top 65
abbrev N_law_body_told : List Str := ["_law_body", "_law_text", "_law_many", "_law_told"]
theorem sc_law_body_told : FnScope N_law_body_told ["_law_body"] (defScope s_law_body_told) := ⟨rfl, rfl, rfl, by decide +kernel, rfl, by decide +kernel, by decide +kernel⟩
abbrev s_law_read : Stmt := top 66
abbrev N_law_read : List Str := ["_law_octets", "_law_deeds", "_law_place", "_law_rest", "_law_many", "_law_deed"]
theorem sc_law_read : FnScope N_law_read ["_law_octets"] (defScope s_law_read) := ⟨rfl, rfl, rfl, by decide +kernel, rfl, by decide +kernel, by decide +kernel⟩
abbrev s_law_record : Stmt := top 67
abbrev N_law_record : List Str := ["_law_deed", "_law_body", "_law_sign"]
theorem sc_law_record : FnScope N_law_record ["_law_deed"] (defScope s_law_record) := ⟨rfl, rfl, rfl, by decide +kernel, rfl, by decide +kernel, by decide +kernel⟩
abbrev s_law_some : Stmt := top 68
abbrev N_law_some : List Str := ["_law_box_here", "_law_found", "_law_turn"]
theorem sc_law_some : FnScope N_law_some ["_law_box_here"] (defScope s_law_some) := ⟨rfl, rfl, rfl, by decide +kernel, rfl, by decide +kernel, by decide +kernel⟩
abbrev s_law_plainly : Stmt := top 69
abbrev N_law_plainly : List Str := ["_law_deeds", "_law_found", "_law_deed"]
theorem sc_law_plainly : FnScope N_law_plainly ["_law_deeds"] (defScope s_law_plainly) := ⟨rfl, rfl, rfl, by decide +kernel, rfl, by decide +kernel, by decide +kernel⟩
abbrev s_law_some_deed : Stmt := top 70
abbrev N_law_some_deed : List Str := ["_law_box_here", "_law_kind", "_law_key"]
theorem sc_law_some_deed : FnScope N_law_some_deed ["_law_box_here"] (defScope s_law_some_deed) := ⟨rfl, rfl, rfl, by decide +kernel, rfl, by decide +kernel, by decide +kernel⟩
abbrev s_law_by_hand : Stmt := top 71
abbrev N_law_by_hand : List Str := ["_law_box_here", "_law_texts", "_law_body", "_law_rows", "_law_sign"]
theorem sc_law_by_hand : FnScope N_law_by_hand ["_law_box_here"] (defScope s_law_by_hand) := ⟨rfl, rfl, rfl, by decide +kernel, rfl, by decide +kernel, by decide +kernel⟩
abbrev s_law_spoilt : Stmt := top 72
abbrev N_law_spoilt : List Str := ["_law_box_here", "_law_octets", "_law_at", "_law_kind", "_law_octet"]
theorem sc_law_spoilt : FnScope N_law_spoilt ["_law_box_here", "_law_octets"] (defScope s_law_spoilt) := ⟨rfl, rfl, rfl, by decide +kernel, rfl, by decide +kernel, by decide +kernel⟩
abbrev s_law : Stmt := top 73
abbrev N_law : List Str := ["_law_script", "_law_box_here", "_law_turn", "_law_deeds", "_law_octets", "_law_deed", "_law_step", "_law_handed", "_law_k"]
theorem sc_law : FnScope N_law ["_law_script"] (defScope s_law) := ⟨rfl, rfl, rfl, by decide +kernel, rfl, by decide +kernel, by decide +kernel⟩
abbrev s_Reader_init : Stmt := inClass (top 33) 0
abbrev N_Reader_init : List Str := ["self", "text"]
theorem sc_Reader_init : FnScope N_Reader_init ["self", "text"] (defScope s_Reader_init) := ⟨rfl, rfl, rfl, by decide +kernel, rfl, by decide +kernel, by decide +kernel⟩
abbrev s_Reader_sign : Stmt := inClass (top 33) 1
abbrev N_Reader_sign : List Str := ["self"]
theorem sc_Reader_sign : FnScope N_Reader_sign ["self"] (defScope s_Reader_sign) := ⟨rfl, rfl, rfl, by decide +kernel, rfl, by decide +kernel, by decide +kernel⟩
abbrev s_Reader_skip : Stmt := inClass (top 33) 2
abbrev N_Reader_skip : List Str := ["self"]
theorem sc_Reader_skip : FnScope N_Reader_skip ["self"] (defScope s_Reader_skip) := ⟨rfl, rfl, rfl, by decide +kernel, rfl, by decide +kernel, by decide +kernel⟩
abbrev s_Reader_expect : Stmt := inClass (top 33) 3
abbrev N_Reader_expect : List Str := ["self", "sign"]
theorem sc_Reader_expect : FnScope N_Reader_expect ["self", "sign"] (defScope s_Reader_expect) := ⟨rfl, rfl, rfl, by decide +kernel, rfl, by decide +kernel, by decide +kernel⟩
abbrev s_Reader_run : Stmt := inClass (top 33) 4
abbrev N_Reader_run : List Str := ["self", "signs", "begin"]
theorem sc_Reader_run : FnScope N_Reader_run ["self", "signs"] (defScope s_Reader_run) := ⟨rfl, rfl, rfl, by decide +kernel, rfl, by decide +kernel, by decide +kernel⟩
abbrev s_Reader_word : Stmt := inClass (top 33) 5
abbrev N_Reader_word : List Str := ["self", "word", "begin"]
theorem sc_Reader_word : FnScope N_Reader_word ["self"] (defScope s_Reader_word) := ⟨rfl, rfl, rfl, by decide +kernel, rfl, by decide +kernel, by decide +kernel⟩
abbrev s_Reader_natural : Stmt := inClass (top 33) 6
abbrev N_Reader_natural : List Str := ["self", "most", "begin", "word"]
theorem sc_Reader_natural : FnScope N_Reader_natural ["self", "most"] (defScope s_Reader_natural) := ⟨rfl, rfl, rfl, by decide +kernel, rfl, by decide +kernel, by decide +kernel⟩
abbrev s_Reader_offset : Stmt := inClass (top 33) 7
abbrev N_Reader_offset : List Str := ["self"]
theorem sc_Reader_offset : FnScope N_Reader_offset ["self"] (defScope s_Reader_offset) := ⟨rfl, rfl, rfl, by decide +kernel, rfl, by decide +kernel, by decide +kernel⟩
abbrev s_Reader_key : Stmt := inClass (top 33) 8
abbrev N_Reader_key : List Str := ["self", "kind", "begin", "word"]
theorem sc_Reader_key : FnScope N_Reader_key ["self", "kind"] (defScope s_Reader_key) := ⟨rfl, rfl, rfl, by decide +kernel, rfl, by decide +kernel, by decide +kernel⟩
abbrev s_Reader_choice : Stmt := inClass (top 33) 9
abbrev N_Reader_choice : List Str := ["self", "name", "kind", "head", "cases", "key", "begin", "message", "other"]
theorem sc_Reader_choice : FnScope N_Reader_choice ["self", "name", "kind"] (defScope s_Reader_choice) := ⟨rfl, rfl, rfl, by decide +kernel, rfl, by decide +kernel, by decide +kernel⟩
abbrev s_Reader_braces : Stmt := inClass (top 33) 10
abbrev N_Reader_braces : List Str := ["self", "name", "begin", "kind"]
theorem sc_Reader_braces : FnScope N_Reader_braces ["self"] (defScope s_Reader_braces) := ⟨rfl, rfl, rfl, by decide +kernel, rfl, by decide +kernel, by decide +kernel⟩
abbrev s_Reader_escape : Stmt := inClass (top 33) 11
abbrev N_Reader_escape : List Str := ["self", "sign", "written"]
theorem sc_Reader_escape : FnScope N_Reader_escape ["self"] (defScope s_Reader_escape) := ⟨rfl, rfl, rfl, by decide +kernel, rfl, by decide +kernel, by decide +kernel⟩
abbrev s_Reader_node : Stmt := inClass (top 33) 12
abbrev N_Reader_node : List Str := ["self", "sign"]
theorem sc_Reader_node : FnScope N_Reader_node ["self"] (defScope s_Reader_node) := ⟨rfl, rfl, rfl, by decide +kernel, rfl, by decide +kernel, by decide +kernel⟩
abbrev s_Reader_message : Stmt := inClass (top 33) 13
abbrev N_Reader_message : List Str := ["self", "inside", "before", "found"]
theorem sc_Reader_message : FnScope N_Reader_message ["self", "inside"] (defScope s_Reader_message) := ⟨rfl, rfl, rfl, by decide +kernel, rfl, by decide +kernel, by decide +kernel⟩
abbrev cR (K : PySem.W.Frag) : Addr := He.ga K "Reader"
abbrev cTok (K : PySem.W.Frag) : Addr := He.ga K "TokenError"
abbrev cEnd (K : PySem.W.Frag) : Addr := He.ga K "EndError"
abbrev FnX (K : PySem.W.Frag) (x qual : Str) (st : Stmt) (f : Addr) : Prop := ∃ fd, FunD K x qual (defArgs st) (defBody st) (defScope st) [] [] f fd
/-- what the top has written -/
structure Tx (K : PySem.W.Frag) (mg : Str → Option Value) : Prop where
  s_TEXT : ∃ t, mg "TEXT" = some (.str (S [116, 101, 120, 116]) t)
  s_SHOW : ∃ t, mg "SHOW" = some (.str (S [115, 104, 111, 119]) t)
  s_NUMBER : ∃ t, mg "NUMBER" = some (.str (S [110, 117, 109, 98, 101, 114]) t)
  s_SELECT : ∃ t, mg "SELECT" = some (.str (S [115, 101, 108, 101, 99, 116]) t)
  s_PLURAL : ∃ t, mg "PLURAL" = some (.str (S [112, 108, 117, 114, 97, 108]) t)
  s_OTHER : ∃ t, mg "OTHER" = some (.str (S [111, 116, 104, 101, 114]) t)
  s_LETTERS_notation : ∃ t, mg "LETTERS_notation" = some (.str (S [97, 98, 99, 100, 101, 102, 103, 104, 105, 106, 107, 108, 109, 110, 111, 112, 113, 114, 115, 116, 117, 118, 119, 120, 121, 122]) t)
  s_FIGURES : ∃ t, mg "FIGURES" = some (.str (S [48, 49, 50, 51, 52, 53, 54, 55, 56, 57]) t)
  s_QUOTE : ∃ t, mg "QUOTE" = some (.str (S [39]) t)
  s_ESCAPED : ∃ t, mg "ESCAPED" = some (.str (S [123, 125, 35, 39]) t)
  s_SPACES : ∃ t, mg "SPACES" = some (.str (S [32, 10]) t)
  s_OFFSET : ∃ t, mg "OFFSET" = some (.str (S [111, 102, 102, 115, 101, 116, 58]) t)
  s_LETTERS_journal : ∃ t, mg "LETTERS_journal" = some (.str (S [97, 98, 99, 100, 101, 102, 103, 104, 105, 106, 107, 108, 109, 110, 111, 112, 113, 114, 115, 116, 117, 118, 119, 120, 121, 122]) t)
  s_PRINTED : ∃ t, mg "PRINTED" = some (.str (S [32, 33, 34, 35, 36, 38, 39, 40, 41, 42, 43, 44, 45, 46, 47, 48, 49, 50, 51, 52, 53, 54, 55, 56, 57, 58, 59, 60, 61, 62, 63, 64, 65, 66, 67, 68, 69, 70, 71, 72, 73, 74, 75, 76, 77, 78, 79, 80, 81, 82, 83, 84, 85, 86, 87, 88, 89, 90, 91, 92, 93, 94, 95, 96, 97, 98, 99, 100, 101, 102, 103, 104, 105, 106, 107, 108, 109, 110, 111, 112, 113, 114, 115, 116, 117, 118, 119, 120, 121, 122, 123, 124, 125, 126]) t)
  i_NAME_MOST : ∃ t, mg "NAME_MOST" = some (.int 8 t)
  i_OFFSET_MOST : ∃ t, mg "OFFSET_MOST" = some (.int 9 t)
  i_EXACT_MOST : ∃ t, mg "EXACT_MOST" = some (.int 999 t)
  i_MARK : ∃ t, mg "MARK" = some (.int 170 t)
  i_PUT : ∃ t, mg "PUT" = some (.int 1 t)
  i_DROP : ∃ t, mg "DROP" = some (.int 2 t)
  i_UNDO : ∃ t, mg "UNDO" = some (.int 3 t)
  f_len : mg "len" = none
  f_isinstance : mg "isinstance" = none
  f_int : mg "int" = none
  f_str : mg "str" = none
  f_range : mg "range" = none
  f_list : mg "list" = none
  f_ord : mg "ord" = none
  f_sum : mg "sum" = none
  f_repr : mg "repr" = none
  f_super : mg "super" = none
  f_ValueError : mg "ValueError" = none
  g_cases_of : mg "cases_of" = some (.ref (He.ga K "cases_of"))
  d_cases_of : FnX K "cases_of" "cases_of" s_cases_of (He.ga K "cases_of")
  g_other_of : mg "other_of" = some (.ref (He.ga K "other_of"))
  d_other_of : FnX K "other_of" "other_of" s_other_of (He.ga K "other_of")
  g_plain_node : mg "plain_node" = some (.ref (He.ga K "plain_node"))
  d_plain_node : FnX K "plain_node" "plain_node" s_plain_node (He.ga K "plain_node")
  g_plain : mg "plain" = some (.ref (He.ga K "plain"))
  d_plain : FnX K "plain" "plain" s_plain (He.ga K "plain")
  g_format_text : mg "format_text" = some (.ref (He.ga K "format_text"))
  d_format_text : FnX K "format_text" "format_text" s_format_text (He.ga K "format_text")
  g_format_key : mg "format_key" = some (.ref (He.ga K "format_key"))
  d_format_key : FnX K "format_key" "format_key" s_format_key (He.ga K "format_key")
  g_format_choice : mg "format_choice" = some (.ref (He.ga K "format_choice"))
  d_format_choice : FnX K "format_choice" "format_choice" s_format_choice (He.ga K "format_choice")
  g_format_node : mg "format_node" = some (.ref (He.ga K "format_node"))
  d_format_node : FnX K "format_node" "format_node" s_format_node (He.ga K "format_node")
  g_format_message : mg "format_message" = some (.ref (He.ga K "format_message"))
  d_format_message : FnX K "format_message" "format_message" s_format_message (He.ga K "format_message")
  g_is_sign : mg "is_sign" = some (.ref (He.ga K "is_sign"))
  d_is_sign : FnX K "is_sign" "is_sign" s_is_sign (He.ga K "is_sign")
  g_parse_message : mg "parse_message" = some (.ref (He.ga K "parse_message"))
  d_parse_message : FnX K "parse_message" "parse_message" s_parse_message (He.ga K "parse_message")
  g_octets_of : mg "octets_of" = some (.ref (He.ga K "octets_of"))
  d_octets_of : FnX K "octets_of" "octets_of" s_octets_of (He.ga K "octets_of")
  g_text_of : mg "text_of" = some (.ref (He.ga K "text_of"))
  d_text_of : FnX K "text_of" "text_of" s_text_of (He.ga K "text_of")
  g_body_of : mg "body_of" = some (.ref (He.ga K "body_of"))
  d_body_of : FnX K "body_of" "body_of" s_body_of (He.ga K "body_of")
  g_record_of : mg "record_of" = some (.ref (He.ga K "record_of"))
  d_record_of : FnX K "record_of" "record_of" s_record_of (He.ga K "record_of")
  g_key_of : mg "key_of" = some (.ref (He.ga K "key_of"))
  d_key_of : FnX K "key_of" "key_of" s_key_of (He.ga K "key_of")
  g_message_of : mg "message_of" = some (.ref (He.ga K "message_of"))
  d_message_of : FnX K "message_of" "message_of" s_message_of (He.ga K "message_of")
  g_deed_of : mg "deed_of" = some (.ref (He.ga K "deed_of"))
  d_deed_of : FnX K "deed_of" "deed_of" s_deed_of (He.ga K "deed_of")
  g_recovered : mg "recovered" = some (.ref (He.ga K "recovered"))
  d_recovered : FnX K "recovered" "recovered" s_recovered (He.ga K "recovered")
  g_law_cell : mg "_law_cell" = some (.ref (He.ga K "_law_cell"))
  d_law_cell : FnX K "_law_cell" "_law_cell" s_law_cell (He.ga K "_law_cell")
  g_law_row : mg "_law_row" = some (.ref (He.ga K "_law_row"))
  d_law_row : FnX K "_law_row" "_law_row" s_law_row (He.ga K "_law_row")
  g_law_box : mg "_law_box" = some (.ref (He.ga K "_law_box"))
  d_law_box : FnX K "_law_box" "_law_box" s_law_box (He.ga K "_law_box")
  g_law_draw : mg "_law_draw" = some (.ref (He.ga K "_law_draw"))
  d_law_draw : FnX K "_law_draw" "_law_draw" s_law_draw (He.ga K "_law_draw")
  g_law_same : mg "_law_same" = some (.ref (He.ga K "_law_same"))
  d_law_same : FnX K "_law_same" "_law_same" s_law_same (He.ga K "_law_same")
  g_law_message : mg "_law_message" = some (.ref (He.ga K "_law_message"))
  d_law_message : FnX K "_law_message" "_law_message" s_law_message (He.ga K "_law_message")
  g_law_plain : mg "_law_plain" = some (.ref (He.ga K "_law_plain"))
  d_law_plain : FnX K "_law_plain" "_law_plain" s_law_plain (He.ga K "_law_plain")
  g_law_notation : mg "_law_notation" = some (.ref (He.ga K "_law_notation"))
  d_law_notation : FnX K "_law_notation" "_law_notation" s_law_notation (He.ga K "_law_notation")
  g_law_word : mg "_law_word" = some (.ref (He.ga K "_law_word"))
  d_law_word : FnX K "_law_word" "_law_word" s_law_word (He.ga K "_law_word")
  g_law_key_at : mg "_law_key_at" = some (.ref (He.ga K "_law_key_at"))
  d_law_key_at : FnX K "_law_key_at" "_law_key_at" s_law_key_at (He.ga K "_law_key_at")
  g_law_choice : mg "_law_choice" = some (.ref (He.ga K "_law_choice"))
  d_law_choice : FnX K "_law_choice" "_law_choice" s_law_choice (He.ga K "_law_choice")
  g_law_node : mg "_law_node" = some (.ref (He.ga K "_law_node"))
  d_law_node : FnX K "_law_node" "_law_node" s_law_node (He.ga K "_law_node")
  g_law_parsed : mg "_law_parsed" = some (.ref (He.ga K "_law_parsed"))
  d_law_parsed : FnX K "_law_parsed" "_law_parsed" s_law_parsed (He.ga K "_law_parsed")
  g_law_signs : mg "_law_signs" = some (.ref (He.ga K "_law_signs"))
  d_law_signs : FnX K "_law_signs" "_law_signs" s_law_signs (He.ga K "_law_signs")
  g_law_body_told : mg "_law_body_told" = some (.ref (He.ga K "_law_body_told"))
  d_law_body_told : FnX K "_law_body_told" "_law_body_told" s_law_body_told (He.ga K "_law_body_told")
  g_law_read : mg "_law_read" = some (.ref (He.ga K "_law_read"))
  d_law_read : FnX K "_law_read" "_law_read" s_law_read (He.ga K "_law_read")
  g_law_record : mg "_law_record" = some (.ref (He.ga K "_law_record"))
  d_law_record : FnX K "_law_record" "_law_record" s_law_record (He.ga K "_law_record")
  g_law_some : mg "_law_some" = some (.ref (He.ga K "_law_some"))
  d_law_some : FnX K "_law_some" "_law_some" s_law_some (He.ga K "_law_some")
  g_law_plainly : mg "_law_plainly" = some (.ref (He.ga K "_law_plainly"))
  d_law_plainly : FnX K "_law_plainly" "_law_plainly" s_law_plainly (He.ga K "_law_plainly")
  g_law_some_deed : mg "_law_some_deed" = some (.ref (He.ga K "_law_some_deed"))
  d_law_some_deed : FnX K "_law_some_deed" "_law_some_deed" s_law_some_deed (He.ga K "_law_some_deed")
  g_law_by_hand : mg "_law_by_hand" = some (.ref (He.ga K "_law_by_hand"))
  d_law_by_hand : FnX K "_law_by_hand" "_law_by_hand" s_law_by_hand (He.ga K "_law_by_hand")
  g_law_spoilt : mg "_law_spoilt" = some (.ref (He.ga K "_law_spoilt"))
  d_law_spoilt : FnX K "_law_spoilt" "_law_spoilt" s_law_spoilt (He.ga K "_law_spoilt")
  g_law : mg "law" = some (.ref (He.ga K "law"))
  d_law : FnX K "law" "law" s_law (He.ga K "law")
  g_Reader : mg "Reader" = some (.ref (cR K))
  cls : Cls K (cR K)
  no_text : NoAttr K (cR K) "text"
  no_place : NoAttr K (cR K) "place"
  no_inside : NoAttr K (cR K) "inside"
  mkr : Mk K (cR K) (He.ma K (cR K) "__init__")
  d_Reader_init : FnX K "__init__" "Reader.__init__" s_Reader_init (He.ma K (cR K) "__init__")
  m_sign : Meth K (cR K) "sign" (He.ma K (cR K) "sign")
  d_Reader_sign : FnX K "sign" "Reader.sign" s_Reader_sign (He.ma K (cR K) "sign")
  m_skip : Meth K (cR K) "skip" (He.ma K (cR K) "skip")
  d_Reader_skip : FnX K "skip" "Reader.skip" s_Reader_skip (He.ma K (cR K) "skip")
  m_expect : Meth K (cR K) "expect" (He.ma K (cR K) "expect")
  d_Reader_expect : FnX K "expect" "Reader.expect" s_Reader_expect (He.ma K (cR K) "expect")
  m_run : Meth K (cR K) "run" (He.ma K (cR K) "run")
  d_Reader_run : FnX K "run" "Reader.run" s_Reader_run (He.ma K (cR K) "run")
  m_word : Meth K (cR K) "word" (He.ma K (cR K) "word")
  d_Reader_word : FnX K "word" "Reader.word" s_Reader_word (He.ma K (cR K) "word")
  m_natural : Meth K (cR K) "natural" (He.ma K (cR K) "natural")
  d_Reader_natural : FnX K "natural" "Reader.natural" s_Reader_natural (He.ma K (cR K) "natural")
  m_offset : Meth K (cR K) "offset" (He.ma K (cR K) "offset")
  d_Reader_offset : FnX K "offset" "Reader.offset" s_Reader_offset (He.ma K (cR K) "offset")
  m_key : Meth K (cR K) "key" (He.ma K (cR K) "key")
  d_Reader_key : FnX K "key" "Reader.key" s_Reader_key (He.ma K (cR K) "key")
  m_choice : Meth K (cR K) "choice" (He.ma K (cR K) "choice")
  d_Reader_choice : FnX K "choice" "Reader.choice" s_Reader_choice (He.ma K (cR K) "choice")
  m_braces : Meth K (cR K) "braces" (He.ma K (cR K) "braces")
  d_Reader_braces : FnX K "braces" "Reader.braces" s_Reader_braces (He.ma K (cR K) "braces")
  m_escape : Meth K (cR K) "escape" (He.ma K (cR K) "escape")
  d_Reader_escape : FnX K "escape" "Reader.escape" s_Reader_escape (He.ma K (cR K) "escape")
  m_node : Meth K (cR K) "node" (He.ma K (cR K) "node")
  d_Reader_node : FnX K "node" "Reader.node" s_Reader_node (He.ma K (cR K) "node")
  m_message : Meth K (cR K) "message" (He.ma K (cR K) "message")
  d_Reader_message : FnX K "message" "Reader.message" s_Reader_message (He.ma K (cR K) "message")
  g_CATEGORIES : mg "CATEGORIES" = some (.ref (He.ga K "CATEGORIES"))
  t_CATEGORIES : ∀ H : Hp, SqT K H (He.ga K "CATEGORIES") (cats.map fun c => .str (S c))
  g_CHOICES : mg "CHOICES" = some (.ref (He.ga K "CHOICES"))
  t_CHOICES : ∀ H : Hp, SqT K H (He.ga K "CHOICES") [.str (S tSel), .str (S tPlu)]
end Mw

set_option Elab.async false
set_option linter.all false
set_option maxRecDepth 100000
set_option maxHeartbeats 4000000
/-! MwR: the operations on texts and lists, said by lists of codes. -/
namespace Mw
open PySem PySem.Spec L2
open SX (S S_cat S_len S_inj)
abbrev big : Nat := 16000000
theorem szl {n : Nat} (h : n ≤ big) : n ≤ sizeLine := by rw [sizeLine_eq]; unfold big at h; omega
theorem szlt {n : Nat} (h : n ≤ big) : n < sizeLine := by rw [sizeLine_eq]; unfold big at h; omega
section
variable {X : Cx}
theorem op_addS : OpR X (binaryOp .Add) (fun x y H Q => ∃ a b : List Nat, x = .str (S a) ∧ y = .str (S b) ∧ a.length + b.length ≤ big ∧ Q (.str (S (a ++ b))) H) := fun pins s σ H x y v u Q I rx ry h => by
  obtain ⟨a, b, e1, e2, hz, q⟩ := h
  refine op_add_str pins s σ H x y v u Q I rx ry ⟨_, _, e1, e2, ?_, ?_⟩
  · rw [S_len, S_len]; exact szl hz
  · rw [S_cat]; exact q
/-- += of texts, at a name -/
def ipL : TIp := fun x y H Q => ∃ a b : List Nat, x = .str (S a) ∧ y = .str (S b) ∧ a.length + b.length ≤ big ∧ Q (.str (S (a ++ b))) H
theorem ip_addL : PIp X .Add ipL := fun pins s σ H x y v u Q I rx ry h => by
  obtain ⟨a, b, e1, e2, hz, q⟩ := h
  refine iop_add_str pins s σ H x y v u Q I rx ry ⟨_, _, e1, e2, ?_, ?_⟩
  · rw [S_len, S_len]; exact szl hz
  · rw [S_cat]; exact q
theorem op_inS : OpR X (compareOp .In) (fun x y H Q => ∃ (c : Nat) (l : List Nat), x = .str (S [c]) ∧ y = .str (S l) ∧ Q (.bl (decide (c ∈ l))) H) := fun pins s σ H x y v u Q I rx ry h => by
  obtain ⟨c, l, e1, e2, q⟩ := h
  exact op_in_sign pins s σ H x y v u Q I rx ry ⟨c, S l, e1, e2, q⟩
theorem op_ninS : OpR X (compareOp .NotIn) (fun x y H Q => ∃ (c : Nat) (l : List Nat), x = .str (S [c]) ∧ y = .str (S l) ∧ Q (.bl (!decide (c ∈ l))) H) := fun pins s σ H x y v u Q I rx ry h => by
  obtain ⟨c, l, e1, e2, q⟩ := h
  exact op_notIn_sign pins s σ H x y v u Q I rx ry ⟨c, S l, e1, e2, q⟩
theorem lt_one {a b : Nat} : ([a] < [b]) ↔ a < b := by
  show List.lt [a] [b] ↔ _
  constructor
  · intro h
    cases h with
    | rel h => exact h
    | cons h => cases h
  · intro h
    exact List.Lex.rel h
theorem op_leS : OpR X (compareOp .LtE) (fun x y H Q => ∃ a b : Nat, x = .str (S [a]) ∧ y = .str (S [b]) ∧ Q (.bl (decide (a ≤ b))) H) := fun pins s σ H x y v u Q I rx ry h => by
  obtain ⟨a, b, e1, e2, q⟩ := h
  refine op_le_str pins s σ H x y v u Q I rx ry ⟨S [a], S [b], e1, e2, ?_⟩
  have e : (!decide ((S [b]).cps.toList < (S [a]).cps.toList)) = decide (a ≤ b) := by
    show (!decide ([b] < [a])) = decide (a ≤ b)
    by_cases z : a ≤ b
    · rw [decide_eq_true z, decide_eq_false (fun w => by rw [lt_one] at w; omega)]; rfl
    · rw [decide_eq_false z, decide_eq_true (by rw [lt_one]; omega)]; rfl
  rw [e]; exact q
theorem ix_S : IxR X (fun x y H Q => ∃ (l : List Nat) (i : Int) (n c : Nat), x = .str (S l) ∧ y = .int i ∧ i = (n : Int) ∧ l.length ≤ big ∧ l[n]? = some c ∧ Q (.str (S [c])) H) := by
  have key : ∀ (x y : V) (H : Hp) (Q : VK), (∃ (l : List Nat) (i : Int) (n c : Nat), x = .str (S l) ∧ y = .int i ∧ i = (n : Int) ∧ l.length ≤ big ∧ l[n]? = some c ∧ Q (.str (S [c])) H) → rIxS x y H Q := fun x y H Q h => by
    obtain ⟨l, i, n, c, e1, e2, e3, hz, hc, q⟩ := h
    subst e3
    exact ⟨S l, _, c, e1, e2, by rw [S_len]; exact szl hz, atI_nat (xs := l) hc, q⟩
  intro value slice pins s σ H x y v u Q I rx ry h hs
  exact ix_str value slice pins s σ H x y v u Q I rx ry (key _ _ _ _ h) hs
/-- a[lo:hi] of a text, the bounds not below 0 -/
def cutL {α : Type} (l : List α) (lo hi : Option Nat) : List α := (l.drop (lo.getD 0)).take (match hi with | none => l.length - lo.getD 0 | some b => b - lo.getD 0)
theorem cut_eq {α : Type} (l : List α) (n : Nat) (h : l.length = n) (lo hi : Option Nat) : (l.drop (HT.sIx n 0 (lo.map fun (a : Nat) => (a : Int)))).take (HT.sIx n n (hi.map fun (a : Nat) => (a : Int)) - HT.sIx n 0 (lo.map fun (a : Nat) => (a : Int))) = cutL l lo hi := by
  subst h
  unfold cutL
  have e1 : HT.sIx l.length 0 (lo.map fun (a : Nat) => (a : Int)) = min (lo.getD 0) l.length := by
    cases lo with
    | none => show 0 = _; simp
    | some a => exact HT.sIx_nat _ _ _
  have e2 : HT.sIx l.length l.length (hi.map fun (a : Nat) => (a : Int)) = min (match hi with | none => l.length | some b => b) l.length := by
    cases hi with
    | none => show l.length = _; simp
    | some a => exact HT.sIx_nat _ _ _
  rw [e1, e2]
  have key : ∀ a b : Nat, (l.drop (min a l.length)).take (min b l.length - min a l.length) = (l.drop a).take (b - a) := fun a b => by
    by_cases ha : a ≤ l.length
    · rw [Nat.min_eq_left ha]
      by_cases hb : b ≤ l.length
      · rw [Nat.min_eq_left hb]
      · have e : min b l.length = l.length := Nat.min_eq_right (by omega)
        rw [e, List.take_of_length_le (by rw [List.length_drop]; omega), List.take_of_length_le (by rw [List.length_drop]; omega)]
    · have e : min a l.length = l.length := Nat.min_eq_right (by omega)
      rw [e, List.drop_eq_nil_of_le (Nat.le_refl _), List.drop_eq_nil_of_le (as := l) (by omega)]
      simp
  rw [key]
  cases hi with
  | none => rfl
  | some b => rfl
theorem sl_S : SlR X (fun x lo hi H Q => ∃ (l : List Nat) (a b : Option Nat), x = .str (S l) ∧ lo = a.map (fun (n : Nat) => (n : Int)) ∧ hi = b.map (fun (n : Nat) => (n : Int)) ∧ l.length ≤ big ∧ Q (.str (S (cutL l a b))) H) := by
  have key : ∀ (x : V) (lo hi : Option Int) (H : Hp) (Q : VK), (∃ (l : List Nat) (a b : Option Nat), x = .str (S l) ∧ lo = a.map (fun (n : Nat) => (n : Int)) ∧ hi = b.map (fun (n : Nat) => (n : Int)) ∧ l.length ≤ big ∧ Q (.str (S (cutL l a b))) H) → rSlS x lo hi H Q := fun x lo hi H Q h => by
    obtain ⟨l, a, b, e1, e2, e3, hz, q⟩ := h
    refine ⟨S l, e1, by rw [S_len]; exact szl hz, ?_⟩
    have e : cutS (S l) lo hi = S (cutL l a b) := by
      unfold cutS
      rw [e2, e3, S_len]
      exact congrArg S (cut_eq l l.length rfl a b)
    rw [e]; exact q
  intro pins s σ H x v vl vu lo hi sl Q I rx hs pl pu h
  exact sl_str pins s σ H x v vl vu lo hi sl Q I rx hs pl pu (key _ _ _ _ _ h)
/-- a[lo:hi] of a list -/
theorem sl_L : SlR X (fun x lo hi H Q => ∃ (p : Addr) (xs : List V) (a b : Option Nat), x = .ref p ∧ SqL X.K H p xs ∧ lo = a.map (fun (n : Nat) => (n : Int)) ∧ hi = b.map (fun (n : Nat) => (n : Int)) ∧ ∀ r, H r = none → Q (.ref r) (upd H r (.lst (cutL xs a b)))) := by
  have key : ∀ (x : V) (lo hi : Option Int) (H : Hp) (Q : VK), (∃ (p : Addr) (xs : List V) (a b : Option Nat), x = .ref p ∧ SqL X.K H p xs ∧ lo = a.map (fun (n : Nat) => (n : Int)) ∧ hi = b.map (fun (n : Nat) => (n : Int)) ∧ ∀ r, H r = none → Q (.ref r) (upd H r (.lst (cutL xs a b)))) → rSlL X.K x lo hi H Q := fun x lo hi H Q h => by
    obtain ⟨p, xs, a, b, e1, hp, e2, e3, q⟩ := h
    refine ⟨p, xs, e1, hp, fun r hr => ?_⟩
    have e : cutV xs lo hi = cutL xs a b := by
      unfold cutV
      rw [e2, e3]
      exact cut_eq xs xs.length rfl a b
    rw [e]; exact q r hr
  intro pins s σ H x v vl vu lo hi sl Q I rx hs pl pu h
  exact sl_list pins s σ H x v vl vu lo hi sl Q I rx hs pl pu (key _ _ _ _ _ h)
theorem call_lenS : CallR X (.builtin "len") (fun xs H Q => ∃ l : List Nat, xs = [.str (S l)] ∧ l.length ≤ big ∧ Q (.int l.length) H) := fun pins s σ H xs us Q I rv h => by
  obtain ⟨l, e, hz, q⟩ := h
  refine call_len_str pins s σ H xs us Q I rv ⟨S l, e, by rw [S_len]; exact szl hz, ?_⟩
  rw [S_len]; exact q
theorem call_lenL : CallR X (.builtin "len") (fun xs H Q => ∃ (p : Addr) (ys : List V), xs = [.ref p] ∧ SqL X.K H p ys ∧ Q (.int ys.length) H) := fun pins s σ H xs us Q I rv h => by
  obtain ⟨p, ys, e, hz, q⟩ := h
  exact call_len_seq pins s σ H xs us Q I rv ⟨p, ys, e, .inl hz, q⟩
theorem call_ordS : CallR X (.builtin "ord") (fun xs H Q => ∃ c : Nat, xs = [.str (S [c])] ∧ Q (.int c) H) := fun pins s σ H xs us Q I rv h => by
  obtain ⟨c, e, q⟩ := h
  exact call_ord pins s σ H xs us Q I rv ⟨S [c], e, rfl, q⟩
def isDig (c : Nat) : Bool := decide (48 ≤ c) && decide (c ≤ 57)
theorem call_intS : CallR X (.type "int") (fun xs H Q => ∃ l : List Nat, xs = [.str (S l)] ∧ l.all isDig = true ∧ l ≠ [] ∧ l.length ≤ 600 ∧ Q (.int (NumText.digitsVal l : Nat)) H) := fun pins s σ H xs us Q I rv h => by
  obtain ⟨l, e, hd, hn, hz, q⟩ := h
  exact call_int_str pins s σ H xs us Q I rv ⟨S l, _, e, SX.int_S hd hn (by omega), by rw [S_len]; omega, q⟩
theorem call_strS : CallR X (.type "str") (fun xs H Q => (∃ n : Nat, xs = [.int n] ∧ n ≤ 1000 ∧ Q (.str (S (TL.numL n))) H) ∨ ∃ l : List Nat, xs = [.str (S l)] ∧ Q (.str (S l)) H) := fun pins s σ H xs us Q I rv h => by
  rcases h with ⟨n, e, hn, q⟩ | ⟨l, e, q⟩
  · refine call_str_int pins s σ H xs us Q I rv ⟨n, e, ?_, ?_⟩
    · have : (n : Int).natAbs = n := by omega
      rw [this]
      have h2 : n.log2 < 11 := by
        by_cases z : n = 0
        · subst z; decide
        · exact (Nat.log2_lt z).mpr (by omega)
      omega
    · have e2 : (Str.ofString (toString (n : Int))) = S (TL.numL n) := SX.num_S n
      rw [e2]; exact q
  · exact SkE.call_str_str pins s σ H xs us Q I rv ⟨S l, e, q⟩
theorem mt_startsS : MtR X "str.startswith" (fun x xs H Q => ∃ (a b : List Nat) (i : Nat), x = .str (S a) ∧ xs = [.str (S b), .int i] ∧ Q (.bl (decide (b ≠ [] ∧ i ≤ a.length ∧ b <+: a.drop i))) H ∧ b ≠ [] ∧ i ≤ a.length) := fun pins s σ H x xs v us Q I rx rs h => by
  obtain ⟨a, b, i, e1, e2, q, hb, hi⟩ := h
  refine mt_startswith3 pins s σ H x xs v us Q I rx rs ⟨S a, S b, i, e1, e2, ?_⟩
  have e : Txt.startswith3 (S a) (S b) i = decide (b ≠ [] ∧ i ≤ a.length ∧ b <+: a.drop i) := by
    have ef : fromIndex (S a).length (i : Int) = i := by
      unfold fromIndex
      rw [if_neg (by omega)]
      omega
    have hat := TL.at_iff (x := S a) (y := S b) (show TL.tl (S b) ≠ [] from hb) i
    have hpre : TL.pre b (a.drop i) = true ↔ b <+: a.drop i := by
      unfold TL.pre
      rw [beq_iff_eq]
      constructor
      · intro z; rw [← z]; exact List.take_prefix _ _
      · intro z; exact (List.prefix_iff_eq_take.mp z).symm
    have h1 : Txt.startswith3 (S a) (S b) i = true ↔ b <+: a.drop i := by
      rw [← hpre]
      refine Iff.trans ?_ hat
      unfold Txt.startswith3
      rw [ef]
      unfold StrLaws.At
      rw [Bool.and_eq_true, decide_eq_true_eq]
    by_cases z : b <+: a.drop i
    · rw [h1.mpr z, decide_eq_true ⟨hb, hi, z⟩]
    · rw [decide_eq_false (fun w => z w.2.2)]
      cases y : Txt.startswith3 (S a) (S b) i with
      | false => rfl
      | true => exact absurd (h1.mp y) z
  rw [e]; exact q
end
/-- sep.join(xs) -/
theorem mt_joinS {X : Cx} : MtR X "str.join" (fun x xs H Q => ∃ (a : List Nat) (p : Addr) (ys : List (List Nat)), x = .str (S a) ∧ xs = [.ref p] ∧ SqL X.K H p (ys.map fun l => .str (S l)) ∧
      (ys.map (·.length)).sum + ys.length * a.length ≤ big ∧ Q (.str (S (TL.joinL a ys))) H) := fun pins s σ H x xs v us Q I rx rs h => by
  obtain ⟨a, p, ys, e1, e2, hp, hz, q⟩ := h
  refine mt_join pins s σ H x xs v us Q I rx rs ⟨S a, p, ys.map S, e1, e2, .inl ?_, ?_, ?_⟩
  · rw [List.map_map]; exact hp
  · rw [SX.lens, List.length_map, S_len]; unfold big at hz; omega
  · rw [SX.join_S]; exact q
theorem pe_joinS {X : Cx} {o e : Expr} {to te : TE} {apos pos : Pos} (ho : PE X o to) (he : PE X e te) (hs : starEach [e] X.env = [(false, eval e X.env)] := by rfl) (hbase : attributeBase o "join" X.env (eval o X.env) = eval o X.env := by rfl) (hline : (apos.endLine == pos.line) = true := by rfl) :
    PE X (.Call (.Attribute o "join" apos) [e] [] pos) (tM1 (fun x xs H Q => ∃ (a : List Nat) (p : Addr) (ys : List (List Nat)), x = .str (S a) ∧ xs = [.ref p] ∧ SqL X.K H p (ys.map fun l => .str (S l)) ∧
      (ys.map (·.length)).sum + ys.length * a.length ≤ big ∧ Q (.str (S (TL.joinL a ys))) H) to te) :=
  pe_m1 PySem.F.slot_str_join PySem.F.type_str_join mt_joinS ho he hs hbase hline
end Mw

set_option Elab.async false
set_option linter.all false
set_option maxRecDepth 100000
set_option maxHeartbeats 4000000
/-! MwM: messages, their notation, the two readers, as plain functions on lists of codes. -/
namespace Mw
open PySem PySem.Spec L2
open SX (S S_cat S_len S_inj)
/-- the key of a case -/
inductive Ky where
  | ix (i : Nat)
  | wd (w : List Nat)
  deriving DecidableEq
inductive Nd where
  | txt (s : List Nat)
  | shw (n : List Nat)
  | num
  | cho (pl : Bool) (n : List Nat) (off : Nat) (cs : List (Ky × List Nd)) (ot : List Nd)
abbrev Cs := List (Ky × List Nd)
abbrev tOff : List Nat := [111, 102, 102, 115, 101, 116, 58]
def tKind (pl : Bool) : List Nat := if pl = true then tPlu else tSel
def encK : Ky → PyData
  | .ix i => .int (i : Nat)
  | .wd w => .str (S w)
mutual
def encN : Nd → PyData
  | .txt s => .tuple [.str (S tText), .str (S s)]
  | .shw n => .tuple [.str (S tShow), .str (S n)]
  | .num => .tuple [.str (S tNum)]
  | .cho false n _ cs ot => .tuple [.str (S tSel), .str (S n), .list (encC cs), .list (encM ot)]
  | .cho true n off cs ot => .tuple [.str (S tPlu), .str (S n), .int (off : Nat), .list (encC cs), .list (encM ot)]
def encM : List Nd → List PyData
  | [] => []
  | x :: r => encN x :: encM r
def encC : List (Ky × List Nd) → List PyData
  | [] => []
  | (k, m) :: r => .tuple [encK k, .list (encM m)] :: encC r
end
def fmtC (c : Nat) : List Nat := if c = 39 then [39, 39] else if c = 123 ∨ c = 125 ∨ c = 35 then [39, c, 39] else [c]
def fmtT (l : List Nat) : List Nat := l.flatMap fmtC
def fmtK : Ky → List Nat
  | .ix i => 61 :: TL.numL i
  | .wd w => w
def fmtO (pl : Bool) (off : Nat) : List Nat := if pl = true ∧ 0 < off then tOff ++ (TL.numL off ++ [32]) else []
mutual
def fmtN : Nd → List Nat
  | .txt s => fmtT s
  | .shw n => 123 :: (n ++ [125])
  | .num => [35]
  | .cho pl n off cs ot => 123 :: (n ++ ([44, 32] ++ (tKind pl ++ ([44, 32] ++ (fmtO pl off ++ (fmtCs cs ++ (tOth ++ ([32, 123] ++ (fmtM ot ++ [125, 125])))))))))
def fmtM : List Nd → List Nat
  | [] => []
  | x :: r => fmtN x ++ fmtM r
def fmtCs : List (Ky × List Nd) → List Nat
  | [] => []
  | (k, m) :: r => fmtK k ++ ([32, 123] ++ (fmtM m ++ ([125, 32] ++ fmtCs r)))
end
/-- a node goes to the end of a row -/
def pushN (acc : List Nd) (x : Nd) : List Nd :=
  match x with
  | .txt s => (match acc.getLast? with
    | some (.txt t) => acc.dropLast ++ [.txt (t ++ s)]
    | _ => if s = [] then acc else acc ++ [.txt s])
  | x => acc ++ [x]
mutual
def plainN : Nd → Nd
  | .txt s => .txt s
  | .shw n => .shw n
  | .num => .num
  | .cho pl n off cs ot => .cho pl n off (plainC cs) (plainA [] ot)
def plainA (acc : List Nd) : List Nd → List Nd
  | [] => acc
  | x :: r => plainA (pushN acc (plainN x)) r
def plainC : List (Ky × List Nd) → List (Ky × List Nd)
  | [] => []
  | (k, m) :: r => (k, plainA [] m) :: plainC r
end
def plainM (m : List Nd) : List Nd := plainA [] m
mutual
def dpN : Nd → Nat
  | .txt _ => 0
  | .shw _ => 0
  | .num => 0
  | .cho _ _ _ cs ot => 1 + max (dpC cs) (dpM ot)
def dpM : List Nd → Nat
  | [] => 0
  | x :: r => max (dpN x) (dpM r)
def dpC : List (Ky × List Nd) → Nat
  | [] => 0
  | (_, m) :: r => max (dpM m) (dpC r)
end
def isLet (c : Nat) : Bool := decide (97 ≤ c) && decide (c ≤ 122)
def isSp (c : Nat) : Bool := decide (c = 32) || decide (c = 10)
def okC (c : Nat) : Prop := c = 10 ∨ (32 ≤ c ∧ c ≤ 126)
instance (c : Nat) : Decidable (okC c) := by unfold okC; infer_instance
def okName (n : List Nat) : Prop := 1 ≤ n.length ∧ n.length ≤ 8 ∧ n.all isLet = true
def okK (pl : Bool) : Ky → Prop
  | .ix i => pl = true ∧ i ≤ 999
  | .wd w => okName w ∧ w ≠ tOth ∧ (pl = true → w ∈ cats)
mutual
def wfN (i : Bool) : Nd → Prop
  | .txt s => s ≠ [] ∧ ∀ c ∈ s, okC c
  | .shw n => okName n
  | .num => i = true
  | .cho pl n off cs ot => okName n ∧ off ≤ 9 ∧ (pl = false → off = 0) ∧ wfC (pl || i) pl cs ∧ (cs.map (·.1)).Nodup ∧ wfM (pl || i) ot
def wfM (i : Bool) : List Nd → Prop
  | [] => True
  | x :: r => wfN i x ∧ wfM i r
def wfC (i pl : Bool) : List (Ky × List Nd) → Prop
  | [] => True
  | (k, m) :: r => okK pl k ∧ wfM i m ∧ wfC i pl r
end
def isTxt : Nd → Bool
  | .txt _ => true
  | _ => false
/-- no texts beside one another -/
def apart : List Nd → Prop
  | [] => True
  | [_] => True
  | x :: y :: r => ¬ (isTxt x = true ∧ isTxt y = true) ∧ apart (y :: r)
mutual
def plN : Nd → Prop
  | .cho _ _ _ cs ot => plC cs ∧ plM ot ∧ apart ot
  | _ => True
def plM : List Nd → Prop
  | [] => True
  | x :: r => plN x ∧ plM r
def plC : List (Ky × List Nd) → Prop
  | [] => True
  | (_, m) :: r => plM m ∧ apart m ∧ plC r
end
/-! ### the program's reader, on what is left of the text -/
def skip (r : List Nat) : List Nat := r.dropWhile isSp
def pExpect (c : Nat) (r : List Nat) : Option (List Nat) :=
  match skip r with
  | [] => none
  | x :: t => if x = c then some t else none
def pWord (r : List Nat) : Option (List Nat × List Nat) :=
  if 1 ≤ ((skip r).takeWhile isLet).length ∧ ((skip r).takeWhile isLet).length ≤ 8 then some ((skip r).takeWhile isLet, (skip r).dropWhile isLet) else none
def badNat (most : Nat) (w : List Nat) : Prop := w = [] ∨ 3 < w.length ∨ (w.head? = some 48 ∧ w ≠ [48]) ∨ most < NumText.digitsVal w
instance (most : Nat) (w : List Nat) : Decidable (badNat most w) := by unfold badNat; infer_instance
def pNat (most : Nat) (r : List Nat) : Option (Nat × List Nat) :=
  if badNat most (r.takeWhile isDig) then none else some (NumText.digitsVal (r.takeWhile isDig), r.dropWhile isDig)
def pOff (r : List Nat) : Option (Nat × List Nat) :=
  if tOff <+: skip r then pNat 9 ((skip r).drop 7) else some (0, skip r)
def pKey (pl : Bool) (r : List Nat) : Option (Ky × List Nat) :=
  if pl = true ∧ (skip r).head? = some 61 then (pNat 999 (skip r).tail).map fun p => (.ix p.1, p.2)
  else match pWord (skip r) with
    | none => none
    | some (w, t) => if pl = true ∧ w ∉ cats ∧ w ≠ tOth then none else some (.wd w, t)
def escs : List Nat := [123, 125, 35, 39]
def pEsc : List Nat → List Nat → Option (Nat × List Nat)
  | [], _ => none
  | c :: cs, r => if fmtC c <+: r then some (c, r.drop (fmtC c).length) else pEsc cs r
mutual
def pMsg (i : Bool) (r : List Nat) : Option (List Nd × List Nat) :=
  match r with
  | [] => some ([], [])
  | c :: t => if c = 125 then some ([], c :: t) else
    match pNode i (c :: t) with
    | none => none
    | some (x, u) => if h : u.length < (c :: t).length then (match pMsg i u with
      | none => none
      | some (m, v) => some (x :: m, v)) else none
termination_by (r.length, 2)
def pNode (i : Bool) (r : List Nat) : Option (Nd × List Nat) :=
  match r with
  | [] => none
  | c :: t =>
    if c = 123 then
      match pWord t with
      | none => none
      | some (n, r2) => match skip r2 with
        | [] => none
        | d :: r3 => if d = 125 then some (.shw n, r3) else if d = 44 then
            (match pWord r3 with
            | none => none
            | some (k, r4) => if k = tSel ∨ k = tPlu then
                (match pExpect 44 r4 with
                | none => none
                | some r5 => if k = tPlu then (match pOff r5 with
                    | none => none
                    | some (o, r6) => if h : r6.length < (c :: t).length then pCho i true n o [] r6 else none)
                  else if h : r5.length < (c :: t).length then pCho i false n 0 [] r5 else none)
              else none)
          else none
    else if c = 39 then (pEsc escs (c :: t)).map fun p => (.txt [p.1], p.2)
    else if c = 35 ∧ i = true then some (.num, t)
    else if c = 125 ∨ c = 35 ∨ ¬ okC c then none
    else some (.txt [c], t)
termination_by (r.length, 1)
def pCho (i pl : Bool) (n : List Nat) (off : Nat) (acc : List (Ky × List Nd)) (r : List Nat) : Option (Nd × List Nat) :=
  match pKey pl r with
  | none => none
  | some (k, r1) => if k ∈ acc.map (·.1) then none else
    match pExpect 123 r1 with
    | none => none
    | some r2 => if h : r2.length < r.length then
        (match pMsg (pl || i) r2 with
        | none => none
        | some (m, r3) => match pExpect 125 r3 with
          | none => none
          | some r4 => if k = .wd tOth then (match pExpect 125 r4 with
              | none => none
              | some r5 => some (.cho pl n off acc m, r5))
            else if h2 : r4.length < r.length then pCho i pl n off (acc ++ [(k, m)]) r4 else none)
      else none
termination_by (r.length, 0)
end
/-! ### the law's reader -/
def lKey (pl : Bool) (r : List Nat) : Option (Ky × List Nat) :=
  if pl = true ∧ r.head? = some 61 then
    (if r.tail.takeWhile isDig = [] ∨ 3 < (r.tail.takeWhile isDig).length ∨ ((r.tail.takeWhile isDig).head? = some 48 ∧ 1 < (r.tail.takeWhile isDig).length) then none
      else some (.ix (NumText.digitsVal (r.tail.takeWhile isDig)), r.tail.dropWhile isDig))
  else if r.takeWhile isLet = [] ∨ 8 < (r.takeWhile isLet).length ∨ (pl = true ∧ r.takeWhile isLet ∉ cats ++ [tOth]) then none
    else some (.wd (r.takeWhile isLet), r.dropWhile isLet)
def lOff (pl : Bool) (r : List Nat) : Option (Nat × List Nat) :=
  if pl = true ∧ tOff <+: r then (match r.drop 7 with
    | d :: e :: t => if (49 ≤ d ∧ d ≤ 57) ∧ e = 32 then some (d - 48, t) else none
    | _ => none)
  else some (0, r)
def lEscs : List (List Nat × Nat) := [([39, 39], 39), ([39, 123, 39], 123), ([39, 125, 39], 125), ([39, 35, 39], 35)]
def lEsc : List (List Nat × Nat) → List Nat → Option (Nat × List Nat)
  | [], _ => none
  | (w, c) :: cs, r => if w <+: r then some (c, r.drop w.length) else lEsc cs r
def starts (p : List Nat) (r : List Nat) : Option (List Nat) := if p <+: r then some (r.drop p.length) else none
mutual
def lMsg (i : Bool) (acc : List Nd) (r : List Nat) : Option (List Nd × List Nat) :=
  match r with
  | [] => some (acc, [])
  | c :: t => if c = 125 then some (acc, c :: t) else
    match lNode i (c :: t) with
    | none => none
    | some (x, u) => if h : u.length < (c :: t).length then lMsg i (pushN acc x) u else none
termination_by (r.length, 2)
def lNode (i : Bool) (r : List Nat) : Option (Nd × List Nat) :=
  match r with
  | [] => none
  | c :: t =>
    if c = 39 then (lEsc lEscs (c :: t)).map fun p => (.txt [p.1], p.2)
    else if c = 35 then (if i = true then some (.num, t) else none)
    else if c ≠ 123 then some (.txt [c], t)
    else if t.takeWhile isLet = [] ∨ 8 < (t.takeWhile isLet).length then none
    else match t.dropWhile isLet with
      | [] => none
      | d :: r3 => if d = 125 then some (.shw (t.takeWhile isLet), r3) else
        match starts ([44, 32] ++ tSel ++ [44, 32]) (d :: r3) with
        | some r5 => if h : r5.length < (c :: t).length then lCho i false (t.takeWhile isLet) 0 [] r5 else none
        | none => match starts ([44, 32] ++ tPlu ++ [44, 32]) (d :: r3) with
          | none => none
          | some r5 => match lOff true r5 with
            | none => none
            | some (o, r6) => if h : r6.length < (c :: t).length then lCho i true (t.takeWhile isLet) o [] r6 else none
termination_by (r.length, 1)
def lCho (i pl : Bool) (n : List Nat) (off : Nat) (acc : List (Ky × List Nd)) (r : List Nat) : Option (Nd × List Nat) :=
  match lKey pl r with
  | none => none
  | some (k, r1) => match starts [32, 123] r1 with
    | none => none
    | some r2 => if k ∈ acc.map (·.1) then none else
      if h : r2.length < r.length then
        (match lMsg (pl || i) [] r2 with
        | none => none
        | some (m, r3) => match starts [125] r3 with
          | none => none
          | some r4 => if k = .wd tOth then (match starts [125] r4 with
              | none => none
              | some r5 => some (.cho pl n off acc m, r5))
            else match starts [32] r4 with
              | none => none
              | some r5 => if h2 : r5.length < r.length then lCho i pl n off (acc ++ [(k, m)]) r5 else none)
      else none
termination_by (r.length, 0)
end
end Mw

set_option Elab.async false
set_option linter.all false
set_option maxRecDepth 100000
set_option maxHeartbeats 4000000
/-! MwX: rules that the layer lacks: != of a tuple of texts, repr of data, a def called where the guards are known. -/
namespace Mw
open PySem PySem.Spec L2
open SX (S S_cat S_len S_inj)
section
variable {X : Cx}
/-- t != (z0, z1), t's first item a text, its second one, if any, a text -/
theorem op_ne2 (hu : X.A.units < cLine) : OpR X (compareOp .NotEq) (fun x y H Q => ∃ (a b : Addr) (u0 z0 z1 : Str) (rest : List V), x = .ref a ∧ y = .ref b ∧ SqT X.K H a (.str u0 :: rest) ∧ SqT X.K H b [.str z0, .str z1] ∧
    (∀ v, rest[0]? = some v → ∃ u1, v = .str u1) ∧ ((u0 ≠ z0 ∧ Q (.bl true) H) ∨ (u0 = z0 ∧ ∃ u1, rest = [.str u1] ∧ Q (.bl (!decide (u1 = z1))) H))) := by
  intro pins s σ H x y v u Q I rx ry h
  obtain ⟨a, b, u0, z0, z1, rest, rfl, rfl, ha, hb, hr, q⟩ := h
  cases rx
  cases ry
  obtain ⟨its, r1, p1, _⟩ := I.tuple ha
  obtain ⟨its2, r2, p2, _⟩ := I.tuple hb
  cases r1 with
  | @cons _ v0 _ vr h0 hr1 =>
  cases r2 with
  | @cons _ w0 _ wr g0 hr2 =>
  cases hr2 with
  | @cons _ w1 _ wr g1 hr3 =>
  cases hr3
  obtain ⟨t0, rfl⟩ := h0
  obtain ⟨s0, rfl⟩ := g0
  obtain ⟨s1, rfl⟩ := g1
  have hbd : ∀ y z : Str, (y == z) = decide (y = z) := fun y z => by
    by_cases e : y = z
    · rw [decide_eq_true e]; exact beq_iff_eq.mpr e
    · rw [decide_eq_false e]; exact beq_eq_false_iff_ne.mpr e
  rcases q with ⟨hne, q⟩ | ⟨rfl, u1, rfl, q⟩
  · -- the first items differ
    let e : Nat → Bool := fun j => if j = 0 then false else (match vr[0]? with | some (Value.str u1 _) => u1 == z1 | _ => false)
    have he : ∀ j (h1 : j < (Value.str u0 t0 :: vr).toArray.size) (h2 : j < [Value.str z0 s0, Value.str z1 s1].toArray.size), SeqAt.EqAt X.A.in1 s (Value.str u0 t0 :: vr).toArray[j] [Value.str z0 s0, Value.str z1 s1].toArray[j] (e j) := by
      intro j h1 h2
      have hj : j < 2 := by simpa using h2
      match j, h1, hj with
      | 0, h1, _ =>
        have q := SeqAt.EqAt.str_str (A := X.A.in1) (s := s) u0 t0 z0 s0
        have z : (u0 == z0) = e 0 := by
          show (u0 == z0) = false
          exact beq_eq_false_iff_ne.mpr hne
        rw [← z]; simpa using q
      | 1, h1, _ =>
        cases vr with
        | nil => simp at h1
        | cons v1 vr' =>
          cases hr1 with
          | @cons y1 _ ys _ k1 k2 =>
            obtain ⟨u1, rfl⟩ := hr y1 rfl
            obtain ⟨t1, rfl⟩ := k1
            have q := SeqAt.EqAt.str_str (A := X.A.in1) (s := s) u1 t1 z1 s1
            simpa [e] using q
    have R := SeqAt.RcNeAt.tuples (A := X.A) (s := s) (e := e) p1 p2 hu he
    have z : (!((List.range (min (Value.str u0 t0 :: vr).toArray.size [Value.str z0 s0, Value.str z1 s1].toArray.size)).all e && (Value.str u0 t0 :: vr).toArray.size == [Value.str z0 s0, Value.str z1 s1].toArray.size)) = true := by
      have e0 : (List.range (min (Value.str u0 t0 :: vr).toArray.size [Value.str z0 s0, Value.str z1 s1].toArray.size)).all e = false := by
        rw [List.all_eq_false]
        refine ⟨0, ?_, by simp [e]⟩
        rw [List.mem_range]
        simp only [List.size_toArray, List.length_cons, List.length_nil]
        omega
      rw [e0]; rfl
    rw [z] at R
    exact R X.prog X.w _ _ ⟨.bl true, H, I, rfl, q⟩
  · cases hr1 with
    | @cons _ v1 _ vr' k1 k2 =>
    cases k2
    obtain ⟨t1, rfl⟩ := k1
    let e : Nat → Bool := fun j => if j = 0 then true else u1 == z1
    have he : ∀ j (h1 : j < [Value.str u0 t0, Value.str u1 t1].toArray.size) (h2 : j < [Value.str u0 s0, Value.str z1 s1].toArray.size), SeqAt.EqAt X.A.in1 s [Value.str u0 t0, Value.str u1 t1].toArray[j] [Value.str u0 s0, Value.str z1 s1].toArray[j] (e j) := by
      intro j h1 h2
      have hj : j < 2 := by simpa using h2
      match j, h1, hj with
      | 0, h1, _ =>
        have q := SeqAt.EqAt.str_str (A := X.A.in1) (s := s) u0 t0 u0 s0
        simpa [e] using q
      | 1, h1, _ =>
        have q := SeqAt.EqAt.str_str (A := X.A.in1) (s := s) u1 t1 z1 s1
        simpa [e] using q
    have R := SeqAt.RcNeAt.tuples (A := X.A) (s := s) (e := e) p1 p2 hu he
    have z : (!((List.range (min [Value.str u0 t0, Value.str u1 t1].toArray.size [Value.str u0 s0, Value.str z1 s1].toArray.size)).all e && [Value.str u0 t0, Value.str u1 t1].toArray.size == [Value.str u0 s0, Value.str z1 s1].toArray.size)) = !decide (u1 = z1) := by
      have e2 : List.range (min [Value.str u0 t0, Value.str u1 t1].toArray.size [Value.str u0 s0, Value.str z1 s1].toArray.size) = [0, 1] := rfl
      rw [e2]
      simp [e, hbd]
    rw [z] at R
    exact R X.prog X.w _ _ ⟨.bl _, H, I, rfl, q⟩
end

/-! ### repr of data -/
mutual
theorem Rp.noDict {G : Hp} : ∀ {v : V} {d : PyData}, Rp G v d → d.hasDict = false
  | _, _, .non => by simp only [PyData.hasDict]
  | _, _, .bl _ => by simp only [PyData.hasDict]
  | _, _, .int _ => by simp only [PyData.hasDict]
  | _, _, .str _ => by simp only [PyData.hasDict]
  | _, _, .lst _ r => by simp only [PyData.hasDict]; exact RpL.noDict r
  | _, _, .tup _ r => by simp only [PyData.hasDict]; exact RpL.noDict r
theorem RpL.noDict {G : Hp} : ∀ {vs : List V} {ds : List PyData}, RpL G vs ds → PyData.hasDictAll ds = false
  | _, _, .nil => by simp only [PyData.hasDictAll]
  | _, _, .cons h r => by simp only [PyData.hasDictAll, Rp.noDict h, RpL.noDict r, Bool.or_false]
end
section
variable {X : Cx}
/-- repr of a list or a tuple, where no repr is under way -/
theorem call_reprG (hg : X.A.guards = some []) : CallR X (.builtin "repr") (fun xs H Q => ∃ (a : Addr) (d : PyData), xs = [.ref a] ∧ Rp H (.ref a) d ∧ d.showable = true ∧ X.A.units + (d.depth + 1) < cLine ∧ d.shown.length ≤ sizeLine ∧ Q (.str d.shown) H) := by
  intro pins s σ H xs us Q I rv h
  obtain ⟨a, d, rfl, hd, hs, hu, hz, q⟩ := h
  cases rv with
  | @cons _ u _ ur r1 r2 =>
  cases r2
  obtain rfl : u = Value.ref a := r1
  obtain ⟨as, rd⟩ := Dp.reads I d (.ref a) (.ref a) (hd.dp) rfl
  refine repr_of_reads' rd hs (PyData.noDict_hsm hd.noDict) hg hu (fun _ _ e => e) (fun h' u tk k => ?_) hz
  exact ⟨.str d.shown, H, I.kept k, ⟨u, rfl⟩, q⟩
end
/-! ### a def that asks that no repr is under way -/
structure FnG (P : Program) (w : World) (K : PySem.W.Frag) (mg : Str → Option Value) (base : Heap) (k : Nat) (f : Addr) (fd : FuncData) (ps : List Str) (sp : Sp) : Prop where
  len : ∀ vs H Q E, sp vs H Q E → vs.length = ps.length
  run : ∀ (A : Around) (outer : List Env) (s : Shared) (H : Hp) (args : Args) (us : List Value) (vs : List V) (Q : VK) (E : XK), A.guards = some [] → Room k A → Env0 P w K mg base A outer s H → BindsTo s fd args (ps.zip us) → Vals vs us → sp vs H Q E →
    codeAny (model P w) A (.call (.ref f) args) (CR CX0 outer P w H s Q E) s
theorem fnG_of {P : Program} {w : World} {K : PySem.W.Frag} {mg : Str → Option Value} {base : Heap} {k : Nat} {f : Addr} {x : Str} {st : Stmt} {fd : FuncData} {N ps : List Str} {sp : Sp} (F : FunD K x x (defArgs st) (defBody st) (defScope st) [] [] f fd) (Sc : FnScope N ps (defScope st))
    (len : ∀ vs H Q E, sp vs H Q E → vs.length = ps.length)
    (hbody : ∀ (cdv : Value) (A : Around) (outer : List Env) (s : Shared) (H : Hp) (vs : List V) (Q : VK) (E : XK), A.guards = some [] → Room k (A.deeper (PyProof.Rows.envOfC x (defScope st) s.heap.objs.size f cdv)) → sp vs H Q E →
      ∃ t, PSs (cxOf CX0 P w K mg base N x (defScope st) f cdv A outer s H E).nox (defBody st) t ∧ t { nx := fun _ H' => Q .non H', rt := Q } (start N vs) H) : FnG P w K mg base (k + 1) f fd ps sp := by
  obtain ⟨oc, od, dV, kV, doc, pm, an, cdv, ct, osl, rfl, lk, hcd, _, _⟩ := F.ex
  refine ⟨len, fun A outer s H args us vs Q E hg hr e0 hb r hsp => ?_⟩
  have KX := e0.mod.kin.keeps fun b o e => (e0.bs b o e).1
  have lim := e0.mod.nolimit.keeps fun b o e => (e0.bs b o e).1
  refine codeAny_call_function hr.depth (KX _ _ lk) rfl Sc.co Sc.gen rfl (PySem.W.codeRec_of KX hcd) (hb _ _ _ _ ?_)
  refine wpAny_newFunctionEnv_cells Sc.kind (fun ⟨n, v⟩ hy => ?_) fun env he s1 z => ?_
  · rcases Sc.par n (List.of_mem_zip hy).1 with q | q
    · exact .inl q
    · exact .inr ⟨q, PySem.W.cellsFrom_some _ _ _ (.inl q)⟩
  subst he
  obtain ⟨t, ht, hq⟩ := hbody cdv A outer s H vs Q E hg (hr.deeper _) hsp
  refine ⟨lim.keeps z.toInCall.keep, codeAny_func ?_⟩
  have I := inv_start (CX := CX0) (E := E) Sc hr.hd e0 (len _ _ _ _ hsp) r z
  refine wpAny_mono (ht.nox.run [] s1 (start N vs) H _ I hq) (fun fl s' hs => ?_) fun e s' hs => hs
  cases fl with
  | ret u =>
    obtain ⟨v, σ', H', J, rv, q⟩ := hs
    exact ⟨v, H', J.os, J.bare, J.base, J.hok, rv, q⟩
  | next =>
    obtain ⟨σ', H', J, q⟩ := hs
    exact ⟨.non, H', J.os, J.bare, J.base, J.hok, rfl, q⟩
  | brk =>
    obtain ⟨_, _, _, q⟩ := hs
    exact q.elim
  | cont =>
    obtain ⟨_, _, _, q⟩ := hs
    exact q.elim
/-- .. called by its name -/
structure CalG (P : Program) (w : World) (K : PySem.W.Frag) (mg : Str → Option Value) (base : Heap) (k : Nat) (x : Str) (sp : Sp) : Prop where
  ex : ∃ (f : Addr) (fd : FuncData) (ps : List Str), FnG P w K mg base k f fd ps sp ∧ mg x = some (.ref f) ∧ PySem.W.keepIn K (.ref f) = true ∧ Binds K fd ps []
theorem calG_of {P : Program} {w : World} {K : PySem.W.Frag} {mg : Str → Option Value} {base : Heap} {x : Str} {st : Stmt} {N ps : List Str} {k : Nat} {sp : Sp} {f : Addr} (hF : ∃ fd, FunD K x x (defArgs st) (defBody st) (defScope st) [] [] f fd) (hm : mg x = some (.ref f))
    (hb : ∀ (kV doc pm : Value) (an : Option Addr) (cdv ct : Value) (us : List Value), us.length = ps.length → bindArgs (PySem.W.fnOf x x (defArgs st) (defBody st) (defScope st) .none kV doc pm an cdv ct) ⟨us, []⟩ = pure (ps.zip us))
    (Sc : FnScope N ps (defScope st)) (len : ∀ vs H Q E, sp vs H Q E → vs.length = ps.length)
    (hbody : ∀ (cdv : Value) (A : Around) (outer : List Env) (s : Shared) (H : Hp) (vs : List V) (Q : VK) (E : XK), A.guards = some [] → Room k (A.deeper (PyProof.Rows.envOfC x (defScope st) s.heap.objs.size f cdv)) → sp vs H Q E →
      ∃ t, PSs (cxOf CX0 P w K mg base N x (defScope st) f cdv A outer s H E).nox (defBody st) t ∧ t { nx := fun _ H' => Q .non H', rt := Q } (start N vs) H) : CalG P w K mg base (k + 1) x sp := by
  obtain ⟨fd, F⟩ := hF
  exact ⟨f, fd, ps, fnG_of F Sc len hbody, hm, F.kp, F.bindsN hb⟩
theorem pe_callG {X : Cx} {k j : Nat} {x : Str} {sp : Sp} {p pos : Pos} {e : Expr} {es : List Expr} {t : TA} (c : CalG X.prog X.w X.K X.mg X.base k x sp) (hG : X.A.guards = some []) (hr : Room j X.A) (hk : k ≤ j) (hg : Gl X x) (ha : PA X (e :: es) t)
    (hdb : (x == ("__debug__" : Str)) = false := by decide) (he : starEach (e :: es) X.env = (false, eval e X.env) :: starEach es X.env := by rfl) (hpl : (backTo pos (starEach es X.env)).any (·.1) = false := by rfl) :
    PE X (.Call (.Name x p) (e :: es) [] pos) (fun σ H Q => t σ H fun vs H1 => sp vs H1 Q E0) := by
  obtain ⟨f, fd, ps, F, hm, kp, b⟩ := c.ex
  refine ⟨fun pins s σ H Q I h => ?_⟩
  refine wpAny_Call_Name_kw (ld_glob I hg hm ?_ hdb)
  refine PySem.W.callWith_K (h₀ := X.base) I.ok.mod.kin kp (thn (ha.run pos pins s σ H _ I h) fun us s1 ⟨vs, H1, I1, r, q⟩ => ⟨I1.kIn, ?_⟩) he hpl
  have hl : us.length = ps.length := by rw [← r.length]; exact F.len _ _ _ _ q
  have bb := b s1 us I1.kIn (by rw [List.append_nil]; exact hl)
  rw [List.append_nil] at bb
  refine wpAny_call (codeAny_mono (F.run X.A X.stack s1 H1 ⟨us, []⟩ us vs Q E0 hG (hr.mono hk) I1.env0 bb r q) fun res s' hq => ?_)
  match res, hq with
  | .error _, hq => exact hq.elim
  | .ok (.ret u), hq => exact I1.after hq
  | .ok .next, hq => exact False.elim hq
  | .ok .brk, hq => exact False.elim hq
  | .ok .cont, hq => exact False.elim hq
end Mw

set_option Elab.async false
set_option linter.all false
set_option maxRecDepth 100000
set_option maxHeartbeats 4000000
/-! MwTok: TokenError(place): an own error whose __init__ says super().__init__(f"..") and stores a field. -/
namespace Mw
open PySem PySem.W PySem.Calls PySem.HandSPX
open L2 (V Hp)
abbrev sTok : Stmt := L2.inClass (top 2) 0
/-- what the top has written of TokenError, at C, its __init__ at fI -/
structure TokTxt (P : Program) (K : Frag) (mg : Str → Option Value) (C fI : Addr) : Prop where
  gC : mg "TokenError" = some (.ref C)
  mS : mg "super" = none
  cls : ∃ nm q N bs bm sn sub ab col dd k0 k1 k2 k3 k5, K.lookup C = some (excClassObj nm q C N bs bm true sn sub ab col dd k0 k1 k2 k3 k5 "ValueError.__new__") ∧ refsVE bm = true
  sa : findIn K (.ref C) "__setattr__" = some (some (.builtin "object.__setattr__"))
  noP : findIn K (.ref C) "place" = some none
  iC : findIn K (.ref C) "__init__" = some (some (.ref fI))
  tI : typeIn K (.ref fI) = some (.type "function")
  kC : keepIn K (.ref C) = true
  exC : subIn K (.ref C) (.type "BaseException") = some true
  veC : subIn K (.ref C) (.type "ValueError") = some true
  tyC : typeIn K (.ref C) = some (.type "type")
  mC : mroIn K C (.ref C) = some true
  opq : nsIn K cStatics "thirdparty.any" = some none
  sup : ks_superIn K C C "__init__" = some (some (.builtin "ValueError.__init__"))
  top : (P.main.scope.names.lookup ("super" : Str)).isSome = false
  fn : ∃ (oc : Value) (od : Option Addr) (kV doc pm : Value) (an : Option Addr) (cda : Addr) (ct : Value) (osl : Array (Option Value)) (cc : Addr),
    K.lookup fI = some ⟨oc, od, .func (ksFn "__init__" "TokenError.__init__" (L2.defArgs sTok) (L2.defBody sTok) (L2.defScope sTok) .none kV doc pm an (.ref cda) ct cc), osl⟩ ∧ codeIn K (.ref cda) "TokenError.__init__" = true ∧
    (∃ ccl cdd vs ccs file tf, K.lookup cda = some ⟨ccl, cdd, .fields vs, ccs⟩ ∧ vs[2]? = some (.str file tf) ∧ ((P.main.file : Str) == file) = true) ∧
    ∃ cl cld csl, K.lookup cc = some ⟨cl, cld, .cell (some (.ref C)), csl⟩
theorem tk_super : (L2.defScope sTok).names.lookup ("super" : Str) = some .globalImplicit := by decide +kernel
theorem tk_class : (L2.defScope sTok).names.lookup ("__class__" : Str) = some .free := by decide +kernel
theorem tk_self : (L2.defScope sTok).names.lookup ("self" : Str) = some .local := by decide +kernel
theorem tk_place : (L2.defScope sTok).names.lookup ("place" : Str) = some .local := by decide +kernel
theorem tk_cell : ∀ y ∈ (L2.defScope sTok).names, y.2 ≠ .cell := by decide +kernel
/-- what __init__ leaves -/
structure TokEnd (h h' : Heap) (x C dx t1 : Addr) (v : Value) : Prop where
  keep : ∀ b o, b ≠ x → h.get? b = some o → h'.get? b = some o
  obj : h'.get? x = some { cls := .ref C, dict := some dx, data := .fields #[.ref t1, .none, .none, .none, .bool false, .none] }
  dbig : h.objs.size ≤ dx
  dne : dx ≠ x
  ns : h'.Ns1 dx (fun y => if y = "place" then some v else none)
section
variable {prog : Program} {w : World} {A : Around} {E : Value → Shared → Prop} {R : Result → Shared → Prop} {s : Shared} {K : Frag} {mg : Str → Option Value} {C fI : Addr}
theorem tok_init (T : TokTxt prog K mg C fI) {x t0 : Addr} {i : Int} {ti : Tok} (X : K.In s.heap) (G : s.heap.Ns mainGlobals mg) (B : ∃ mb, s.heap.Ns builtinsNs mb ∧ ∀ x : Str, x ≠ "__name__" → mb x = bootBuiltins x)
    (hlim : s.heap.NoLimit) (hx : s.heap.get? x = some (excO C t0)) (hnx : K.lookup x = none) (hroom : A.depth < recursionLimit) (hi : i.natAbs.log2 < 1920) (hz : (Str.ofString (toString i)).length ≤ 1000)
    (hq : ∀ h' tk dx t1, TokEnd s.heap h' x C dx t1 (.int i ti) → R (.ok (.ret .none)) { s with heap := h', toks := tk }) :
    codeAny (model prog w) A (.call (.ref fI) ⟨[.ref x, .int i ti], []⟩) R s := by
  obtain ⟨oc, od, kV, doc, pm, an, cda, ct, osl, cc, ho, hcd, ⟨ccl, cdd, vs, ccs, file, tf, hcode, hvs, hfile⟩, cl, cld, csl, hcell⟩ := T.fn
  obtain ⟨nm, q, N, bs, bm, sn, sub, ab, col, dd, k0, k1, k2, k3, k5, hC, hbm⟩ := T.cls
  obtain ⟨mb, hB, hbb⟩ := B
  have hcl : clsIn K C = some { name := nm, bases := bs, mro := .ref C :: bm, ns := N, qualname := q, hasDict := true, slotNames := sn, subclasses := sub, abstract := ab, collection := col, hasDel := false } := by unfold clsIn; rw [hC] <;> rfl
  refine ks_codeAny_call_defAt (fd := ksFn "__init__" "TokenError.__init__" (L2.defArgs sTok) (L2.defBody sTok) (L2.defScope sTok) .none kV doc pm an (.ref cda) ct cc) (body := L2.defBody sTok) (binds := [("self", .ref x), ("place", .int i ti)])
    hroom (X _ _ ho) rfl hlim (codeRec_of X hcd) rfl (BindsTo.of_eq (by first | rfl | with_unfolding_all rfl)) tk_cell (fun y hy => ?_) (fun h₁ hns hk₁ => ?_) rfl rfl rfl
  · rcases List.mem_cons.mp hy with rfl | hy
    · exact tk_self
    · rcases List.mem_cons.mp hy with rfl | hy
      · exact tk_place
      · cases hy
  have X₁ : K.In h₁ := X.keeps hk₁
  have hx₁ := hk₁ _ _ hx
  refine ks_wpAt_execs_cons ?_
  refine ks_wpAt_Expr_any ?_
  refine ks_wpAt_MethodCall ?_
  have G₁ := G.keeps hk₁
  have B₁ := hB.keeps hk₁
  have I : InstAt h₁ x (excO C t0) C none := ⟨hx₁, rfl, rfl, trivial⟩
  obtain ⟨oD, hD1, hD2⟩ : ∃ oD, h₁.get? C = some oD ∧ oD.data = .cls { name := nm, bases := bs, mro := .ref C :: bm, ns := N, qualname := q, hasDict := true, slotNames := sn, subclasses := sub, abstract := ab, collection := col, hasDel := false } := ⟨_, X₁ _ _ hC, rfl⟩
  refine ks_wpAt_super_base tk_super tk_class (by decide +kernel) rfl (X₁ _ _ ho) rfl (ar := { arg := "self", annotation := none, pos := ⟨6, 17, 6, 21⟩ }) (by rfl) rfl (X₁ _ _ hcode) rfl hvs hfile T.top ?_
  refine ks_loadName_global rfl tk_super (loadGlobal_builtin G₁ T.mS B₁ ((hbb _ (by decide +kernel)).trans (by decide +kernel)) ⟨rfl, ?_⟩)
  refine wpAny_loadName_free rfl tk_class (by rfl) ⟨_, X₁ _ _ hcell, rfl⟩ ?_
  refine wpAny_loadName_local rfl tk_self hns (by rfl) ?_
  refine ks_wpAny_isType_cls hD1 hD2 ⟨rfl, ?_⟩
  refine ks_wpAny_call_super hD1 hD2 I.at_ I.cls (fun c e => ?_) (looks_mroIn X₁ T.mC) (fun h₂ hso k₂ => ?_)
  · cases e
  have X₂ : K.In h₂ := X₁.keeps k₂
  have hx₂ := k₂ _ _ hx₁
  have I₂ : InstAt h₂ x (excO C t0) C none := ⟨hx₂, rfl, rfl, trivial⟩
  have hm : alongIn K "__init__" (((Value.ref C :: bm).dropWhile (· != .ref C)).drop 1) = some (some (.builtin "ValueError.__init__")) := by
    have z := T.sup
    unfold ks_superIn at z
    rw [hcl] at z
    exact z
  refine kxs_getMethod kxs_ValueError hso (looks_opaque X₂ T.opq) (l₀ := .ref C :: bm) (fun A Q E s k q => wpAny_bind ((looks_clsIn X₂ hcl) A _ E s k (wpAny_pure q))) rfl X₂ hm (I₂.type.andThen (looks_subIn X₂ T.veC)) (ks_ne X₂ I₂ hcl) (by decide +kernel) ?_
  have ho₃ : (h₂.push (kxs_mw "ValueError.__init__" x)).get? h₂.objs.size = some (kxs_mw "ValueError.__init__" x) := Heap.get?_push_size _ rfl
  have k₃ : ∀ b o, h₂.get? b = some o → (h₂.push (kxs_mw "ValueError.__init__" x)).get? b = some o := fun b o e => Heap.get?_push_of_some _ e
  generalize hh₃ : h₂.push (kxs_mw "ValueError.__init__" x) = h₃ at ho₃ k₃ ⊢
  have hx₃ := k₃ _ _ hx₂
  have X₃ : K.In h₃ := X₂.keeps k₃
  have hns₃ := (hns.keeps k₂).keeps k₃
  refine kxs_callWith (i := "ValueError.__init__") (x := x) rfl ?_
  refine evalArgs_plain (Calls.spliced_cons ?_)
  have len3 : ∀ a b c : Str, (a ++ b ++ c).length = a.length + b.length + c.length := fun a b c => by rw [strLen_append, strLen_append]
  refine wpAny_JoinedStr (pos := ⟨7, 25, 7, 67⟩) ?_
  refine Calls.Constant_str ⟨_, _, rfl, by decide +kernel, ?_⟩
  refine wpAny_FormattedValue_plain (wpAny_Name (wpAny_loadName_local rfl tk_place hns₃ (by rfl) ?_) (by decide +kernel))
  refine wpAny_formatField_int hi ⟨_, _, rfl, ?_, ?_⟩
  · rw [len3]
    have e1 : (Str.empty).length = 0 := rfl
    have e2 : (Str.ofString "something at ").length = 13 := by decide +kernel
    rw [e1, e2, sizeLine_eq]; omega
  refine Calls.Constant_str ⟨_, _, rfl, ?_, ?_⟩
  · rw [strLen_append, len3]
    have e1 : (Str.empty).length = 0 := rfl
    have e2 : (Str.ofString "something at ").length = 13 := by decide +kernel
    have e3 : (Str.ofString " cannot stand there").length = 19 := by decide +kernel
    rw [e1, e2, e3, sizeLine_eq]; omega
  refine ⟨?_, Calls.spliced_nil ⟨ho₃, ?_⟩⟩
  · rw [strLen_append, len3]
    have e1 : (Str.empty).length = 0 := rfl
    have e2 : (Str.ofString "something at ").length = 13 := by decide +kernel
    have e3 : (Str.ofString " cannot stand there").length = 19 := by decide +kernel
    rw [e1, e2, e3, sizeLine_eq]; omega
  have X₃C := X₃ _ _ hC
  refine wpAny_call (codeAny_of_tree ?_)
  show wpAny _ _ (callAny (.ref h₂.objs.size) ⟨_, []⟩) _ _ _
  unfold callAny
  refine wpAny_bind (wpAny_load ho₃ ?_)
  have FB := F.excBase_ValueError
  have isMw : (Value.type "method-wrapper" == Value.type "method" || Value.type "method-wrapper" == Value.type "builtin_function_or_method" || Value.type "method-wrapper" == Value.type "method-wrapper") = true := by decide
  simp only [kxs_mw, isMw, if_true]
  refine KFB.if_so (by decide) ?_
  refine wpAny_bind (check_bound_init FB.toExcCallFacts X₃C hx₃ rfl (wpAny_bind (wpAny_pure (wpAny_pure ?_))))
  refine ⟨plainId_quiet FB.init.plain _, codeAny_builtin FB.initEntry ?_⟩
  refine exc_init_tree (cls := .ref C) (t0 := t0) (dv := none) (c2 := .none) (c3 := .none) (b4 := .bool false) hx₃ (by show 1 ≤ sizeLine; rw [sizeLine_eq]; omega) fun h₄ k₄ hx₄ ht₄ => ?_
  -- self.place = place
  have xL : s.heap.objs.size ≠ x := Nat.ne_of_gt (Heap.lt_size hx)
  have keep4 : ∀ b o, b ≠ x → s.heap.get? b = some o → h₄.get? b = some o := fun b o hb e => k₄ b o hb (k₃ _ _ (k₂ _ _ (hk₁ b o e)))
  have X₄ : K.In h₄ := fun a o e => keep4 a o (fun z => by rw [z, hnx] at e; cases e) (X a o e)
  have hns₄ : h₄.Ns s.heap.objs.size _ := hns₃.at fun o e => k₄ _ _ xL e
  show wpAt _ _ _ (execs _ _) _ _ _
  refine ks_wpAt_execs_cons ?_
  refine ks_wpAt_Assign_Attr (wpAt_of_wpAny ?_)
  refine wpAny_Name (wpAny_loadName_local rfl tk_place hns₄ (by rfl) ?_) (by decide +kernel)
  refine wpAny_Name (wpAny_loadName_local rfl tk_self hns₄ (by rfl) ?_) (by decide +kernel)
  refine set_plain X₄ (ox := excO C h₃.objs.size) (od := none) ⟨hx₄, rfl, rfl, trivial⟩ T.sa ?_
  refine exc_osa X₄ hx₄ hcl (show refsVE (.ref C :: bm) = true from hbm) rfl T.noP (fun h₅ tk₅ dx k₅ dn dne hx₅ hn₅ => ?_)
  refine wpAt_of_wpAny (wpAny_execs_nil ?_)
  refine hq h₅ tk₅ dx _ ⟨fun b o hb e => k₅ b o hb (keep4 b o hb e), hx₅, ?_, dne, hn₅⟩
  have z1 : s.heap.objs.size < h₄.objs.size := hns₄.lt
  exact Nat.le_of_lt (Nat.lt_of_lt_of_le z1 dn)
end
end Mw

set_option Elab.async false
set_option linter.all false
set_option maxRecDepth 100000
set_option maxHeartbeats 4000000
/-! MwTok2: raise TokenError(place), raise EndError(). -/
namespace Mw
open PySem PySem.W PySem.Calls PySem.HandSPX
open L2 (V Hp)
/-- a made TokenError -/
structure TokMade (h h' : Heap) (e C d : Addr) (v : Value) : Prop where
  keep : ∀ b o, h.get? b = some o → h'.get? b = some o
  new : h.objs.size ≤ e
  obj : ∃ oe vs, h'.get? e = some oe ∧ oe.cls = .ref C ∧ oe.dict = some d ∧ oe.data = .fields vs ∧ vs[1]? = some .none
  dbig : h.objs.size ≤ d
  dne : d ≠ e
  ns : h'.Ns1 d (fun y => if y = "place" then some v else none)
section
variable {prog : Program} {w : World} {A : Around} {E : Value → Shared → Prop} {s : Shared} {K : Frag} {mg : Str → Option Value} {C fI : Addr}
theorem tok_made (T : TokTxt prog K mg C fI) {i : Int} {ti : Tok} (X : K.In s.heap) (G : s.heap.Ns mainGlobals mg) (B : ∃ mb, s.heap.Ns builtinsNs mb ∧ ∀ x : Str, x ≠ "__name__" → mb x = bootBuiltins x)
    (hlim : s.heap.NoLimit) (hroom : A.depth + 1 < recursionLimit) (hi : i.natAbs.log2 < 1920) (hz : (Str.ofString (toString i)).length ≤ 1000)
    (hq : ∀ h' tk e d, TokMade s.heap h' e C d (.int i ti) → R (.ok (.ret (.ref e))) { s with heap := h', toks := tk }) :
    codeAny (model prog w) A (.call (.ref C) ⟨[.int i ti], []⟩) R s := by
  obtain ⟨nm, q, N, bs, bm, sn, sub, ab, col, dd, k0, k1, k2, k3, k5, hC, hbm⟩ := T.cls
  obtain ⟨mb, hB, hbb⟩ := B
  obtain ⟨hp, g, dr, tk, os⟩ := s
  have k : ∀ b o, hp.get? b = some o → ((hp.push (kdv_tup [.int i ti])).push (excO C hp.objs.size)).get? b = some o := fun b o e => Heap.get?_push_of_some _ (Heap.get?_push_of_some _ e)
  have hget : ((hp.push (kdv_tup [.int i ti])).push (excO C hp.objs.size)).get? (hp.objs.size + 1) = some (excO C hp.objs.size) := by heap_get
  have hnx : K.lookup (hp.objs.size + 1) = none := by
    cases e : K.lookup (hp.objs.size + 1) with
    | none => rfl
    | some o =>
      have z : hp.get? (hp.objs.size + 1) = some o := X _ _ e
      exact absurd (Nat.lt_of_succ_lt (Heap.lt_size z)) (Nat.lt_irrefl _)
  refine call_own F.excBase_ValueError (fun X => refsVE_contains X bm hbm) (X _ _ hC) (looks_findIn X T.iC) (fun self => bind_fn X self T.tI) (by show 1 ≤ sizeLine; rw [sizeLine_eq]; omega) ?_
  refine tok_init (s := ⟨(hp.push (kdv_tup [.int i ti])).push (excO C hp.objs.size), g, dr, tk, os⟩) T (X.keeps k) (G.keeps k) ⟨mb, hB.keeps k, hbb⟩ (hlim.keeps k) hget hnx (by show A.depth + 1 < recursionLimit; exact hroom) hi hz fun h' tk' dx t1 M => ?_
  have z : hp.objs.size + 1 + 1 ≤ dx := by
    have q := M.dbig
    simp only [Heap.size_push] at q
    exact q
  have old : ∀ b o, hp.get? b = some o → h'.get? b = some o := fun b o e => M.keep b o (Nat.ne_of_lt (Nat.lt_succ_of_lt (Heap.lt_size e))) (k b o e)
  exact ⟨rfl, hq h' tk' (hp.objs.size + 1) dx ⟨old, Nat.le_succ _, ⟨_, _, M.obj, rfl, rfl, rfl, rfl⟩, Nat.le_trans (Nat.le_trans (Nat.le_succ _) (Nat.le_succ _)) z, M.dne, M.ns⟩⟩
end
end Mw
namespace Mw
open PySem PySem.Spec L2
theorem relO_place {v : V} {v' : Value} (r : RelV v v') (f : Str) : RelO (List.lookup f [(("place" : Str), v)]) (if f = "place" then some v' else none) := by
  by_cases h : f = "place"
  · subst h
    rw [if_pos rfl, show List.lookup ("place" : Str) [(("place" : Str), v)] = some v by simp [List.lookup]]
    exact r
  · rw [if_neg h]
    have e : (f == ("place" : Str)) = false := by simpa using h
    rw [show List.lookup f [(("place" : Str), v)] = none by simp [List.lookup, e]]
    trivial
section
variable {X : Cx} {C fI : Addr}
/-- TokenError(e): the error's own dict d is new -/
def tTok (C : Addr) (ta : TA) : L2.St → Hp → XK → Prop := fun σ H Q => ta σ H fun vs H1 => ∃ n : Nat, vs = [V.int n] ∧ n ≤ 10 ^ 9 ∧ ∀ d, H1 d = none → Q (.ref C) (some d) (upd H1 d (.xd [(("place" : Str), V.int n)]))
theorem pmk_tok {a : Expr} {ta : TA} {p pos : Pos} {k : Nat} (T : TokTxt X.prog X.K X.mg C fI) (hr : Room k X.A) (ha : PA X [a] ta) (hg : Gl X "TokenError" := by rfl)
    (he : starEach (a :: []) X.env = (false, eval a X.env) :: starEach [] X.env := by rfl) (hpl : (backTo pos (starEach [] X.env)).any (·.1) = false := by rfl) :
    PMk X (.Call (.Name "TokenError" p) [a] [] pos) (tTok C ta) := by
  intro pins s σ H Q I h
  refine wpAny_Call_Name_kw (ld_glob I hg T.gC ?_)
  refine PySem.W.callWith_K (h₀ := X.base) I.ok.mod.kin T.kC (thn (ha.run pos pins s σ H _ I h) fun us s1 hh => ?_) he hpl
  obtain ⟨vs, H1, I1, r1, n, ev, hn, q1⟩ := hh
  subst ev
  refine ⟨I1.kIn, ?_⟩
  cases r1 with
  | @cons _ v' _ us' rv rn =>
  cases rn
  have rv0 := rv
  obtain ⟨ti, rfl⟩ := rv
  show wpAny _ _ (call (.ref C) [_]) _ _ _
  have hlim := I1.nolimit
  have hG : s1.heap.Ns mainGlobals X.mg := I1.ok.mod.glob.keeps I1.bk
  have hB : ∃ mb, s1.heap.Ns builtinsNs mb ∧ ∀ x : Str, x ≠ "__name__" → mb x = bootBuiltins x := let ⟨mb, h1, h2⟩ := I1.ok.mod.blt; ⟨mb, h1.keeps I1.bk, h2⟩
  have hlog : (n : Int).natAbs.log2 < 1920 := by
    have e : (n : Int).natAbs = n := by omega
    rw [e]
    by_cases z : n = 0
    · subst z; decide
    · have : n.log2 < 30 := (Nat.log2_lt z).mpr (by omega)
      omega
  have hlen : (Str.ofString (toString (n : Int))).length ≤ 1000 := by
    rw [SX.num_S, SX.S_len]
    exact Nat.le_trans (TL.numL_len (k := 10) (by decide) (by omega)) (by decide)
  obtain ⟨hp, g, dr, tk, os⟩ := s1
  refine wpAny_call (tok_made (s := ⟨hp, g, dr, tk, os⟩) T I1.kIn hG hB hlim (by have := hr.dp; omega) hlog hlen fun h' tk' e d M => ?_)
  show MkP X pins σ Q (.ref e) ⟨h', g, dr, tk', os⟩
  obtain ⟨oe, fv, hoe, hc, hd, hdat, h1⟩ := M.obj
  obtain ⟨G', g1, g2⟩ := restrict h' fun b => decide (b ≠ e)
  have gk : ∀ b, b ≠ e → G'.get? b = h'.get? b := fun b hb => g1 b (decide_eq_true hb)
  have ge : G'.get? e = none := g2 e (by simp)
  have old : ∀ b o, hp.get? b = some o → G'.get? b = some o := fun b o q => (gk b (Nat.ne_of_lt (Nat.lt_of_lt_of_le (Heap.lt_size q) M.new))).trans (M.keep b o q)
  have ob : ObjOk X.prog X.w (upd H1 d (.xd [(("place" : Str), V.int n)])) G' d (.xd [(("place" : Str), V.int n)]) :=
    ⟨_, M.ns.at (fun o q => (gk d M.dne).trans q), fun f => relO_place rv0 f⟩
  have J : Inv X pins σ (upd H1 d (.xd [(("place" : Str), V.int n)])) ⟨G', g, dr, tk', os⟩ := I1.laid (t' := tk') old M.dbig ob
  refine ⟨e, oe, fv, ⟨G', g, dr, tk', os⟩, _, .ref C, some d, rfl, J, fun b o q => ?_, ge, hoe, ⟨hc, hd⟩, hdat, h1, ?_, rfl, I1.bare, raises_own T.exC T.tyC, q1 d (I1.hok.fresh M.dbig)⟩
  · by_cases hb : b = e
    · have q' : G'.get? b = some o := q
      rw [hb, ge] at q'; cases q'
    · exact (gk b hb).symm.trans q
  · rw [upd_ne (Ne.symm M.dne)]
    exact I1.hok.fresh M.new
/-- X() of an own exception without an __init__ of its own -/
theorem pmk_own0 {bmB : List Value} {B newId initId : String} {x : Str} {p pos : Pos} (F : ExcBaseFacts B newId initId bmB) (q : PySem.W.excIn X.K C bmB newId = true) (gC : X.mg x = some (.ref C)) (kC : PySem.W.keepIn X.K (.ref C) = true) (r : Raises X (.ref C)) (hg : Gl X x)
    (hdb : (x == ("__debug__" : Str)) = false := by decide) : PMk X (.Call (.Name x p) [] [] pos) (fun _ H Q => Q (.ref C) none H) := by
  intro pins s σ H Q I h
  refine wpAny_Call_Name_kw (ld_glob I hg gC ?_ hdb)
  refine PySem.W.callWith_K0 I.kIn kC ?_
  show wpAny _ _ (call (.ref C) []) _ _ _
  obtain ⟨bm, N, nm, qn, bs, hdct, sn, sub, ab, col, dd, k0, k1, k2, k3, k5, mN, hC, hN, hni, T⟩ := exc_obj I.kIn q
  exact wpAny_call_exc_subT F T hC hN hni (fun h' e hm => mk_of I hm r h (I.hok.gone hm.new)) (Nat.zero_le _)
end
end Mw

set_option Elab.async false
set_option linter.all false
set_option maxRecDepth 100000
set_option maxHeartbeats 4000000
/-! MwTry: try: .. except (X1, X2): suite, where whatever the body raises is an X1 or an X2. -/
namespace Mw
open PySem PySem.Spec L2
/-- what stays stays: an exception in flight flies on over a heap that only has grown -/
theorem flying_grown {B h h' : Heap} {l : List Env} {a : Addr} {Z : Obj → Prop} (x : HandSPX.FlyingZ B l a Z h) (k : ∀ b o, h.get? b = some o → h'.get? b = some o) : HandSPX.FlyingZ B l a Z h' := by
  obtain ⟨k1, k2, k3, oe, vs, T, oT, ts, he, hz, hd, h1, hn, hne, hT, hdT, h3⟩ := x
  exact ⟨fun b o e => k b o (k1 b o e), k2, k3.of_keeps fun b o hb _ => ⟨o, k b o hb, rfl⟩, oe, vs, T, oT, ts, k _ _ he, hz, hd, h1, hn, hne, k _ _ hT, hdT, h3⟩
theorem upTo_grown {h h1 h2 : Heap} (u : h.UpToSlots h1) (k : ∀ b o, h1.get? b = some o → h2.get? b = some o) : h.UpToSlots h2 := fun b o e d => by
  obtain ⟨sl, q⟩ := u b o e d
  exact ⟨sl, k _ _ q⟩
/-- the body's wish of an exception: it is one of both, and then the suite's reading -/
def wTup (K : PySem.W.Frag) (c1 c2 : Value) (ts : TS) (D : Ends) : WX := fun cls _ σ H => PySem.W.exmAny K cls [c1, c2] = some true ∧ ts D σ H
section
variable {X : Cx} {x1 x2 : Str} {c1 c2 : Value} {body suite : List Stmt} {b₀ : Stmt} {n1 n2 tpos pos pos' : Pos} {kt} {tb : WX → TS} {ts : TS}
theorem ps_try_tup (hs : X.stack = X.env :: X.outer) (hf : X.env.frame = some X.env.locals) (hg1 : Gl X x1) (hm1 : X.mg x1 = some c1) (hg2 : Gl X x2) (hm2 : X.mg x2 = some c2)
    (hb : ∀ (W : WX) (pn : List (Addr × Obj)) (xe : Value → Shared → Prop), Takes (X.tr pn xe) W → PSs (X.tr pn xe) body (tb W))
    (hsu : ∀ (a : Addr) (oe : Obj) (pn : List (Addr × Obj)), PSs (X.suite a ((a, oe) :: pn)) (b₀ :: suite) ts)
    (hd1 : (x1 == ("__debug__" : Str)) = false := by decide) (hd2 : (x2 == ("__debug__" : Str)) = false := by decide)
    (hst : starEach [.Name x1 n1, .Name x2 n2] X.env = [(false, eval (.Name x1 n1) X.env), (false, eval (.Name x2 n2) X.env)] := by rfl) :
    PS X (.Try body [.ExceptHandler (some (.Tuple [.Name x1 n1, .Name x2 n2] kt tpos)) none (b₀ :: suite) pos'] [] [] pos) (fun D σ H => tb (wTup X.K c1 c2 ts D) D σ H) := by
  refine ⟨fun pins s σ H D I h => ?_⟩
  have ok := I.ok
  have hfr : X.A.frames = some (X.env :: X.outer) := by rw [ok.frames, hs]
  refine wpAny_Try_except ?_
  let xe' : Value → Shared → Prop := fun e s₁ => wpAny (model X.prog X.w) X.A (noteFrame e X.env) (fun _ s₂ => wpAny (model X.prog X.w) X.A (setFlight e none) (fun _ s₃ =>
    wpAny (model X.prog X.w) X.A (handleBy e X.env [.ExceptHandler (some (.Tuple [.Name x1 n1, .Name x2 n2] kt tpos)) none (b₀ :: suite) pos']) (SP X pins D) X.xe s₃) X.xe s₂) X.xe s₁
  have takes : Takes (X.tr (X.pn ++ pins) xe') (wTup X.K c1 c2 ts D) := by
    intro u s' xx
    obtain ⟨a, B, sI, pins', σ', H', cls, d, rfl, J', nb, up, sky, na, os, ag, hit, hts⟩ := xx
    have J : Inv X pins σ' H' sI := J'.ofTry ok
    have sky' : Sky B (X.env :: X.outer) a (Zc cls d) X.env.locals s'.heap := by rw [← hs]; exact sky
    show wpAny _ X.A (noteFrame (.ref a) X.env) _ _ _
    refine Sky.land Zc.steady hfr hf sky' fun h3 fl up3 => ?_
    obtain ⟨oe, vs, he, hz, hdt⟩ := fl.there
    have notIn : a ∉ frs (X.env :: X.outer) := fun hm => by
      obtain ⟨_, o, e, nf⟩ := fl.2.2.1.mem hm
      rw [he] at e; cases e
      exact nf _ hdt
    have nL : a ≠ X.env.locals := fun z => notIn (List.mem_filterMap.mpr ⟨X.env, List.mem_cons_self, by rw [hf, z]⟩)
    have nF : a ∉ X.fs := fun hm => by
      obtain ⟨e, he', q⟩ := List.mem_filterMap.mp hm
      exact notIn (List.mem_filterMap.mpr ⟨e, List.mem_cons_of_mem _ he', q⟩)
    have J3 : Inv X pins σ' H' { s' with heap := h3 } := J.landed nb fl.1 (up.trans up3) os ag
    have S3 := J3.suite he hdt na nL nF
    refine wpAny_handleBy_cons (codeAny_handlers_test ?_) (by intro q; cases q)
    refine wpAny_Tuple_spliced ?_
    show wpAny _ _ (spliced (backTo tpos (starEach [.Name x1 n1, .Name x2 n2] X.env))) _ _ _
    rw [hst]
    refine Calls.spliced_cons (ld_glob (X := X.suite a ((a, oe) :: (X.pn ++ pins))) S3 hg1 hm1 ?_ hd1)
    refine Calls.spliced_cons (ld_glob (X := X.suite a ((a, oe) :: (X.pn ++ pins))) S3 hg2 hm2 ?_ hd2)
    refine Calls.spliced_nil ⟨by show 2 ≤ sizeLine; rw [sizeLine_eq]; omega, ?_⟩
    let tp : Obj := { cls := .type "tuple", data := .seq [c1, c2].toArray }
    have kp : ∀ b o, h3.get? b = some o → (h3.push tp).get? b = some o := fun b o e => Heap.get?_push_of_some _ e
    have htp : (h3.push tp).get? h3.objs.size = some tp := Heap.get?_push_size _ rfl
    have fl4 := flying_grown fl kp
    have up4 : sI.heap.UpToSlots (h3.push tp) := upTo_grown (up.trans up3) kp
    have J4 : Inv X pins σ' H' { s' with heap := h3.push tp } := J.landed nb fl4.1 up4 os ag
    have LT : PySem.W.Looks (model X.prog X.w) (h3.push tp) (typeOf (.ref a)) cls := fun A Q E s k q => wpAny_typeOf_ref (k _ _ (kp _ _ he)) (by rw [hz.1]; exact q)
    refine (PySem.W.exm_tup2 (M := model X.prog X.w) J4.kIn LT htp hit).here ?_
    show codeAny _ _ _ _ _
    refine codeAny_handlers_suite ?_
    refine HandSPX.lands_againZ fl4 fun h5 fl5 up5 => ?_
    obtain ⟨oe5, vs5, he5, hz5, hd5⟩ := fl5.there
    have J5 : Inv X pins σ' H' { s' with heap := h5 } := J.landed nb fl5.1 (up4.trans up5) os ag
    have S5 := J5.suite he5 hd5 na nL nF
    refine wpAny_mono ((hsu a oe5 (X.pn ++ pins)).run [] _ _ H' D S5 hts) (fun f s6 hsp => ?_) (fun _ _ z => False.elim z)
    match f, hsp with
    | .next, ⟨σ6, H6, S6, q6⟩ => exact ⟨_, _, S6.unsuite ok, q6⟩
    | .brk, ⟨σ6, H6, S6, q6⟩ => exact ⟨_, _, S6.unsuite ok, q6⟩
    | .cont, ⟨σ6, H6, S6, q6⟩ => exact ⟨_, _, S6.unsuite ok, q6⟩
    | .ret u, ⟨v6, σ6, H6, S6, r6, q6⟩ => exact ⟨_, _, _, S6.unsuite ok, r6, q6⟩
  refine wpAny_mono ((hb (wTup X.K c1 c2 ts D) (X.pn ++ pins) xe' takes).run [] s σ H D (I.toTry _) h) (fun f s1 hsp => ?_) (fun e s1 he => he)
  match f, hsp with
  | .next, ⟨σ', H', J', q⟩ => exact wpAny_execs_nil ⟨σ', H', J'.ofTry ok, q⟩
  | .brk, ⟨σ', H', J', q⟩ => exact ⟨σ', H', J'.ofTry ok, q⟩
  | .cont, ⟨σ', H', J', q⟩ => exact ⟨σ', H', J'.ofTry ok, q⟩
  | .ret u, ⟨v, σ', H', J', r, q⟩ => exact ⟨v, σ', H', J'.ofTry ok, r, q⟩
end
end Mw

set_option Elab.async false
set_option linter.all false
set_option maxRecDepth 100000
set_option maxHeartbeats 4000000
/-! MwRd: the reader's object, methods that may raise, the loop that takes signs. -/
namespace Mw
open PySem PySem.Spec L2
open SX (S S_cat S_len S_inj)
abbrev rdO (C dx : Addr) (l : List Nat) (p : Nat) (b : Bool) : HO := .ins C dx [("text", .str (S l)), ("place", .int p), ("inside", .bl b)]
/-- the reader r over the text l, at p -/
structure At (K : PySem.W.Frag) (r dx : Addr) (l : List Nat) (G H : Hp) (p : Nat) (b : Bool) : Prop where
  sm : Same G H
  gr : G r = none
  hr : H r = some (rdO (cR K) dx l p b)
  hp : p ≤ l.length
  hl : l.length ≤ 100000
/-- whatever is let out is one of the two errors, over a heap of which only r has been changed -/
def Bad (K : PySem.W.Frag) (r : Addr) (G H : Hp) (E : XK) : Prop := ∀ cls d G' H', PySem.W.exmAny K cls [.ref (cTok K), .ref (cEnd K)] = some true → Gw [r] G H G' H' → E cls d H'
theorem Bad.on {K : PySem.W.Frag} {r : Addr} {G H G1 H1 : Hp} {E : XK} (h : Bad K r G H E) (g : Gw [r] G H G1 H1) : Bad K r G1 H1 E := fun cls d G' H' e g' => h cls d G' H' e (g.trans g')
theorem upd_eta {H : Hp} {a : Addr} {o : HO} (h : H a = some o) : upd H a o = H := by
  funext b; unfold upd; split
  · next e => rw [e, h]
  · rfl
section
variable {K : PySem.W.Frag} {r dx : Addr} {l : List Nat} {G H G1 H1 : Hp} {p p' : Nat} {b b' : Bool}
theorem At.big (h : At K r dx l G H p b) : l.length ≤ big := Nat.le_trans h.hl (by decide)
theorem At.put (h : At K r dx l G H p b) (hp : p' ≤ l.length) : Gw [r] G H G (upd H r (rdO (cR K) dx l p' b')) ∧ At K r dx l G (upd H r (rdO (cR K) dx l p' b')) p' b' :=
  have g := Gw.write (M := [r]) (o := rdO (cR K) dx l p' b') h.sm h.gr (List.mem_singleton.mpr rfl)
  ⟨g, g.gh, h.gr, upd_same, hp, h.hl⟩
theorem At.refl (h : At K r dx l G H p b) : Gw [r] G H G H := Gw.refl h.sm
theorem At.there (h : At K r dx l G H p b) : H r ≠ none := some_ne h.hr
end
/-! ### the two errors -/
structure Ex (P : Program) (K : PySem.W.Frag) (mg : Str → Option Value) : Prop where
  tok : TokTxt P K mg (cTok K) (He.ma K (cTok K) "__init__")
  aT : PySem.W.exmAny K (.ref (cTok K)) [.ref (cTok K), .ref (cEnd K)] = some true
  aE : PySem.W.exmAny K (.ref (cEnd K)) [.ref (cTok K), .ref (cEnd K)] = some true
  eI : ∃ (bmB : List Value) (B newId initId : String), ExcBaseFacts B newId initId bmB ∧ PySem.W.excIn K (cEnd K) bmB newId = true
  gE : mg "EndError" = some (.ref (cEnd K))
  kE : PySem.W.keepIn K (.ref (cEnd K)) = true
  xE : PySem.W.subIn K (.ref (cEnd K)) (.type "BaseException") = some true
  tE : PySem.W.typeIn K (.ref (cEnd K)) = some (.type "type")
section
variable {X : Cx}
theorem pmk_end {p pos : Pos} (T : Ex X.prog X.K X.mg) (hg : Gl X "EndError" := by rfl) : PMk X (.Call (.Name "EndError" p) [] [] pos) (fun _ H Q => Q (.ref (cEnd X.K)) none H) := by
  obtain ⟨bmB, B, n, i, F, q⟩ := T.eI
  exact pmk_own0 F q T.gE T.kE (raises_own T.xE T.tE) hg
end
/-! ### methods that may raise -/
section
variable {P : Program} {w : World} {K : PySem.W.Frag} {mg : Str → Option Value} {base : Heap}
structure MetX (P : Program) (w : World) (K : PySem.W.Frag) (mg : Str → Option Value) (base : Heap) (k : Nat) (C : Addr) (m : Str) (sp : Sp) : Prop where
  ex : ∃ (f : Addr) (fd : FuncData) (ps : List Str), Cls K C ∧ Meth K C m f ∧ FnOk P w K mg base (L2.CX P w) k f fd ps sp ∧ Binds K fd ps []
structure CalX (P : Program) (w : World) (K : PySem.W.Frag) (mg : Str → Option Value) (base : Heap) (k : Nat) (x : Str) (sp : Sp) : Prop where
  ex : ∃ (f : Addr) (fd : FuncData) (ps : List Str), FnOk P w K mg base (L2.CX P w) k f fd ps sp ∧ mg x = some (.ref f) ∧ PySem.W.keepIn K (.ref f) = true ∧ Binds K fd ps []
theorem metX_of {m qual : Str} {C : Addr} {st : Stmt} {N ps : List Str} {k : Nat} {sp : Sp} {f : Addr} (hF : ∃ fd, FunD K m qual (defArgs st) (defBody st) (defScope st) [] [] f fd) (c : Cls K C) (me : Meth K C m f)
    (hb : ∀ (kV doc pm : Value) (an : Option Addr) (cdv ct : Value) (us : List Value), us.length = ps.length → bindArgs (PySem.W.fnOf m qual (defArgs st) (defBody st) (defScope st) .none kV doc pm an cdv ct) ⟨us, []⟩ = pure (ps.zip us))
    (S : FnScope N ps (defScope st)) (len : ∀ vs H Q E, sp vs H Q E → vs.length = ps.length)
    (hbody : ∀ (cdv : Value) (A : Around) (outer : List Env) (s : Shared) (H : Hp) (vs : List V) (Q : VK) (E : XK), Room k (A.deeper (PyProof.Rows.envOfC qual (defScope st) s.heap.objs.size f cdv)) → sp vs H Q E →
      ∃ t, PSs (cxOf (L2.CX P w) P w K mg base N qual (defScope st) f cdv A outer s H E) (defBody st) t ∧ t { nx := fun _ H' => Q .non H', rt := Q } (start N vs) H) : MetX P w K mg base (k + 1) C m sp := by
  obtain ⟨fd, F⟩ := hF
  exact ⟨f, fd, ps, c, me, F.ok S len hbody, F.bindsN hb⟩
theorem calX_of {x : Str} {st : Stmt} {N ps : List Str} {k : Nat} {sp : Sp} {f : Addr} (hF : ∃ fd, FunD K x x (defArgs st) (defBody st) (defScope st) [] [] f fd) (hm : mg x = some (.ref f))
    (hb : ∀ (kV doc pm : Value) (an : Option Addr) (cdv ct : Value) (us : List Value), us.length = ps.length → bindArgs (PySem.W.fnOf x x (defArgs st) (defBody st) (defScope st) .none kV doc pm an cdv ct) ⟨us, []⟩ = pure (ps.zip us))
    (S : FnScope N ps (defScope st)) (len : ∀ vs H Q E, sp vs H Q E → vs.length = ps.length)
    (hbody : ∀ (cdv : Value) (A : Around) (outer : List Env) (s : Shared) (H : Hp) (vs : List V) (Q : VK) (E : XK), Room k (A.deeper (PyProof.Rows.envOfC x (defScope st) s.heap.objs.size f cdv)) → sp vs H Q E →
      ∃ t, PSs (cxOf (L2.CX P w) P w K mg base N x (defScope st) f cdv A outer s H E) (defBody st) t ∧ t { nx := fun _ H' => Q .non H', rt := Q } (start N vs) H) : CalX P w K mg base (k + 1) x sp := by
  obtain ⟨fd, F⟩ := hF
  exact ⟨f, fd, ps, F.ok S len hbody, hm, F.kp, F.bindsN hb⟩
theorem met_of {m qual : Str} {C : Addr} {st : Stmt} {N ps : List Str} {k : Nat} {sp : Sp} {f : Addr} (hF : ∃ fd, FunD K m qual (defArgs st) (defBody st) (defScope st) [] [] f fd) (c : Cls K C) (me : Meth K C m f)
    (hb : ∀ (kV doc pm : Value) (an : Option Addr) (cdv ct : Value) (us : List Value), us.length = ps.length → bindArgs (PySem.W.fnOf m qual (defArgs st) (defBody st) (defScope st) .none kV doc pm an cdv ct) ⟨us, []⟩ = pure (ps.zip us))
    (S : FnScope N ps (defScope st)) (len : ∀ vs H Q E, sp vs H Q E → vs.length = ps.length)
    (hbody : ∀ (cdv : Value) (A : Around) (outer : List Env) (s : Shared) (H : Hp) (vs : List V) (Q : VK) (E : XK), Room k (A.deeper (PyProof.Rows.envOfC qual (defScope st) s.heap.objs.size f cdv)) → sp vs H Q E →
      ∃ t, PSs (cxOf CX0 P w K mg base N qual (defScope st) f cdv A outer s H E).nox (defBody st) t ∧ t { nx := fun _ H' => Q .non H', rt := Q } (start N vs) H) : C8.Met P w K mg base (k + 1) C m sp [] := by
  obtain ⟨fd, F⟩ := hF
  refine ⟨f, fd, ps, [], c, me, F.ok S len fun cdv A outer s H vs Q E hr h => ?_, F.bindsN hb, .nil⟩
  obtain ⟨t, h1, h2⟩ := hbody cdv A outer s H vs Q E hr h
  exact ⟨t, h1.nox, h2⟩
end
section
variable {X : Cx} {k j : Nat} {C : Addr} {x m : Str} {sp : Sp} {p pos apos : Pos} {e o : Expr} {es : List Expr} {ta : TE} {t : TA} {E : XK}
theorem pe_mx {pl : Sem Bool} (c : MetX X.prog X.w X.K X.mg X.base k C m sp) (hr : Room j X.A) (hk : k ≤ j) (tk : Takes X fun cls d _ H => E cls d H) (he : PE X o ta) (ha : PA X (e :: es) t)
    (hst : starEach (e :: es) X.env = (false, eval e X.env) :: starEach es X.env := by rfl) (hpl : (backTo pos (starEach es X.env)).any (·.1) = false := by rfl)
    (ht : eval (.Call (.Attribute o m apos) (e :: es) [] pos) X.env = (do
      let ov ← eval o X.env
      standAt apos.atName
      let (f, first) ← holding [ov] (getMethod ov m pl)
      callWith pos f first (backTo pos (starEach (e :: es) X.env)) (backToKw pos (keywordEach [] X.env))) := by rfl) :
    PE X (.Call (.Attribute o m apos) (e :: es) [] pos) (tMeth C m sp [] E ta t) := by
  obtain ⟨f, fd, ps, hc, hm, F, b⟩ := c.ex
  exact pe_meth (pl := pl) he hc hm F (hr.mono hk) b .nil (passes_call tk fun _ _ _ _ z => z) ha hst hpl ht
theorem pe_mx0 {pl : Sem Bool} (c : MetX X.prog X.w X.K X.mg X.base k C m sp) (hr : Room j X.A) (hk : k ≤ j) (tk : Takes X fun cls d _ H => E cls d H) (he : PE X o ta)
    (ht : eval (.Call (.Attribute o m apos) [] [] pos) X.env = (do
      let ov ← eval o X.env
      standAt apos.atName
      let (f, first) ← holding [ov] (getMethod ov m pl)
      callWith pos f first (backTo pos (starEach [] X.env)) (backToKw pos (keywordEach [] X.env))) := by rfl) :
    PE X (.Call (.Attribute o m apos) [] [] pos) (tMeth C m sp [] E ta tNil) := by
  obtain ⟨f, fd, ps, hc, hm, F, b⟩ := c.ex
  exact pe_meth0 (pl := pl) he hc hm F (hr.mono hk) b .nil (passes_call tk fun _ _ _ _ z => z) ht
/-- while self.place < len(self.text) and self.text[self.place] in set: self.place += 1 -/
def tTake (K : PySem.W.Frag) (te : TE) : TS := fun D σ H => ∃ (r dx : Addr) (l : List Nat) (p : Nat) (b : Bool) (set : List Nat), σ[0]? = some (some (.ref r)) ∧ (∀ H' Q, Q (.str (S set)) H' → te σ H' Q) ∧
  H r = some (rdO (cR K) dx l p b) ∧ p ≤ l.length ∧ l.length ≤ big ∧ D.nx σ (upd H r (rdO (cR K) dx l (p + ((l.drop p).takeWhile fun c => decide (c ∈ set)).length) b))
end
end Mw

set_option Elab.async false
set_option linter.all false
set_option maxRecDepth 100000
set_option maxHeartbeats 4000000
/-! MwRd1: the reader's small methods. -/
namespace Mw
open PySem PySem.Spec L2
open SX (S S_cat S_len S_inj)
theorem drop_cons {l : List Nat} {p c : Nat} {t : List Nat} (h : l.drop p = c :: t) : l[p]? = some c ∧ p < l.length ∧ l.drop (p + 1) = t := by
  have h1 : (l.drop p)[0]? = some c := by rw [h]; rfl
  rw [List.getElem?_drop, Nat.add_zero] at h1
  refine ⟨h1, (List.getElem?_eq_some_iff.mp h1).1, ?_⟩
  rw [← List.drop_drop, h]; rfl
theorem drop_some {l : List Nat} {p c : Nat} (h : l[p]? = some c) : l.drop p = c :: l.drop (p + 1) := by
  obtain ⟨h1, h2⟩ := List.getElem?_eq_some_iff.mp h
  rw [List.drop_eq_getElem_cons h1, h2]
theorem drop_nil {l : List Nat} {p : Nat} (h : l.drop p = []) : l.length ≤ p := List.drop_eq_nil_iff.mp h
theorem take_loop {K : PySem.W.Frag} {r dx : Addr} {l set : List Nat} {b : Bool} {D : Ends} {σ : L2.St} {c : TT} {tb : TS}
    (hc : ∀ p' H' Q, H' r = some (rdO (cR K) dx l p' b) → p' ≤ l.length → (p' = l.length → Q false H') → (∀ x, l[p']? = some x → Q (decide (x ∈ set)) H') → c σ H' Q)
    (hb : ∀ p' H' (D : Ends), H' r = some (rdO (cR K) dx l p' b) → D.nx σ (upd H' r (rdO (cR K) dx l (p' + 1) b)) → tb D σ H') :
    ∀ {H : Hp} {p : Nat}, H r = some (rdO (cR K) dx l p b) → p ≤ l.length → D.nx σ (upd H r (rdO (cR K) dx l (p + ((l.drop p).takeWhile fun c => decide (c ∈ set)).length) b)) → tWhile c tb D σ H := by
  intro H p hr hp hq
  refine ⟨fun m σ' H' => σ' = σ ∧ ∃ p', m = l.length - p' ∧ p' ≤ l.length ∧ H' = upd H r (rdO (cR K) dx l p' b) ∧ p + ((l.drop p).takeWhile fun c => decide (c ∈ set)).length = p' + ((l.drop p').takeWhile fun c => decide (c ∈ set)).length,
    ⟨_, rfl, p, rfl, hp, (upd_eta hr).symm, rfl⟩, ?_⟩
  rintro m σ' H' ⟨rfl, p', rfl, hp', rfl, e⟩
  refine hc p' _ _ upd_same hp' (fun z => ?_) (fun x hx => ?_)
  · rw [if_neg (by decide)]
    have e2 : l.drop p' = [] := List.drop_eq_nil_of_le (by omega)
    rw [e2] at e
    simp only [List.takeWhile_nil, List.length_nil, Nat.add_zero] at e
    rw [e] at hq; exact hq
  · have lt := (List.getElem?_eq_some_iff.mp hx).1
    rw [drop_some hx] at e
    by_cases z : x ∈ set
    · rw [decide_eq_true z, if_pos rfl]
      rw [List.takeWhile_cons, if_pos (decide_eq_true z), List.length_cons] at e
      refine ⟨fun σ'' H'' => σ'' = σ' ∧ H'' = upd H r (rdO (cR K) dx l (p' + 1) b), fun σ'' H'' q => ⟨l.length - (p' + 1), by omega, q.1, p' + 1, rfl, lt, q.2, by rw [e]; omega⟩, hb p' _ _ upd_same ⟨rfl, upd_upd⟩⟩
    · rw [decide_eq_false z, if_neg (by decide)]
      rw [List.takeWhile_cons, if_neg (by simp [z]), List.length_nil, Nat.add_zero] at e
      rw [e] at hq; exact hq
/-- self.place += 1 -/
theorem up1 {K : PySem.W.Frag} {mg : Str → Option Value} (T : Tx K mg) {r dx : Addr} {l : List Nat} {p : Nat} {b : Bool} {H : Hp} {D : Ends} {σ : L2.St} (hσ : σ[0]? = some (some (.ref r))) (hr : H r = some (rdO (cR K) dx l p b))
    (q : D.nx σ (upd H r (rdO (cR K) dx l (p + 1) b))) : sFldAug K (tVar 0) (tC (.int 1)) rAdd "place" D σ H :=
  ⟨_, hσ, r, _, _, _, _, rfl, hr, T.cls, T.no_place, rfl, _, _, rfl, rfl, _, _, hr, by show (3 : Nat) < 1000; decide, q⟩
section
variable {P : Program} {w : World} {K : PySem.W.Frag} {mg : Str → Option Value} {base : Heap}
theorem takeWhile_sp (l : List Nat) : (l.takeWhile fun c => decide (c ∈ [32, 10])) = l.takeWhile isSp := by
  refine congrArg (fun f => l.takeWhile f) (funext fun c => ?_)
  unfold isSp
  rw [Bool.eq_iff_iff]
  simp
theorem drop_takeWhile (f : Nat → Bool) : ∀ l : List Nat, l.drop (l.takeWhile f).length = l.dropWhile f
  | [] => rfl
  | x :: r => by
    by_cases h : f x = true
    · simp [List.takeWhile_cons, List.dropWhile_cons, h, drop_takeWhile f r]
    · simp [List.takeWhile_cons, List.dropWhile_cons, h]
theorem takeWhile_le (f : Nat → Bool) : ∀ l : List Nat, (l.takeWhile f).length ≤ l.length
  | [] => Nat.le_refl _
  | x :: r => by
    by_cases h : f x = true
    · simp [List.takeWhile_cons, h, takeWhile_le f r]
    · simp [List.takeWhile_cons, h]
theorem take_at {l : List Nat} {p : Nat} (hp : p ≤ l.length) (f : Nat → Bool) : p + ((l.drop p).takeWhile f).length ≤ l.length ∧ l.drop (p + ((l.drop p).takeWhile f).length) = (l.drop p).dropWhile f := by
  constructor
  · have := takeWhile_le f (l.drop p)
    rw [List.length_drop] at this; omega
  · rw [← List.drop_drop, drop_takeWhile]
def spSkip (K : PySem.W.Frag) : Sp := fun vs H Q _ => ∃ r dx l G p b, vs = [.ref r] ∧ At K r dx l G H p b ∧ ∀ H' p', Gw [r] G H G H' → At K r dx l G H' p' b → l.drop p' = skip (l.drop p) → Q .non H'
theorem ok_skip (T : Tx K mg) : C8.Met P w K mg base 1 (cR K) "skip" (spSkip K) [] := by
  refine met_of T.d_Reader_skip T.cls T.m_skip (fun _ _ _ _ _ _ us hl => match us, hl with | [_], _ => rfl) sc_Reader_skip (fun vs H Q E h => ?_) (fun cdv A outer s H vs Q E hr h => ?_)
  · obtain ⟨r, dx, l, G, p, b, rfl, _⟩ := h; rfl
  obtain ⟨r, dx, l, G, p, b, rfl, a, q⟩ := h
  refine ⟨_, (pss_one (ps_while PassesOwn.never (PW.pt (pw_and (pt_cmpR op_lt (pe_fld (pv 0) rfl) (pe_callB call_lenS (by rfl) T.f_len (by decide +kernel) (pa_cons (pe_fld (pv 0) rfl) pa_nil)) (nomark _)) (pw_and1 (pt_cmpR op_inS (pe_ix ix_S (pe_fld (pv 0) rfl) (pe_fld (pv 0) rfl) (fun _ _ => rfl)) (pe_gs T.s_SPACES) rfl))))
      (pss_one (ps_fldaug (pv 0) pe_int in_add)))), ?_⟩
  refine take_loop (set := [32, 10]) (K := K) (fun p' H' Q' h hp' q0 q1 => ?_) (fun p' H' D h q => up1 T rfl h q) a.hr a.hp ?_
  · refine ⟨_, rfl, r, _, _, _, _, rfl, h, T.cls, T.no_place, rfl, _, rfl, r, _, _, _, _, rfl, h, T.cls, T.no_text, rfl, ?_⟩
    refine ⟨_, rfl, a.big, _, _, rfl, rfl, _, rfl, iteD (fun hlt => ?_) (fun hlt => ?_)⟩
    · have hlt' : p' < l.length := by omega
      refine ⟨_, rfl, r, _, _, _, _, rfl, h, T.cls, T.no_text, rfl, _, rfl, r, _, _, _, _, rfl, h, T.cls, T.no_place, rfl, l, _, p', l[p'], rfl, rfl, rfl, a.big, List.getElem?_eq_getElem hlt', _, _, rfl, rfl, _, rfl, q1 _ (List.getElem?_eq_getElem hlt')⟩
    · exact q0 (by omega)
  · rw [takeWhile_sp]
    obtain ⟨hp', hd⟩ := take_at a.hp isSp
    obtain ⟨g, a'⟩ := a.put (b' := b) hp'
    exact q _ _ g a' hd
def spSign (K : PySem.W.Frag) : Sp := fun vs H Q E => ∃ r dx l G p b, vs = [.ref r] ∧ At K r dx l G H p b ∧ (∀ c t, l.drop p = c :: t → Q (.str (S [c])) H) ∧ (l.drop p = [] → Bad K r G H E)
theorem ok_sign (T : Tx K mg) (X : Ex P K mg) : MetX P w K mg base 1 (cR K) "sign" (spSign K) := by
  refine metX_of T.d_Reader_sign T.cls T.m_sign (fun _ _ _ _ _ _ us hl => match us, hl with | [_], _ => rfl) sc_Reader_sign (fun vs H Q E h => ?_) (fun cdv A outer s H vs Q E hr h => ?_)
  · obtain ⟨r, dx, l, G, p, b, rfl, _⟩ := h; rfl
  obtain ⟨r, dx, l, G, p, b, rfl, a, q0, q1⟩ := h
  have tk : Takes (cxOf (L2.CX P w) P w K mg base N_Reader_sign "Reader.sign" (defScope s_Reader_sign) (He.ma K (cR K) "sign") cdv A outer s H E) (fun cls d _ H => E cls d H) := takes_of rfl rfl rfl rfl
  refine ⟨_, (pss_cons (ps_if (pt_cmpR op_ge (pe_fld (pv 0) rfl) (pe_callB call_lenS (by rfl) T.f_len (by decide +kernel) (pa_cons (pe_fld (pv 0) rfl) pa_nil)) (nomark _))
      (pss_one (ps_raise rfl tk (pmk_end X rfl)))
      pss_nil)
    (pss_one (ps_ret (pe_ix ix_S (pe_fld (pv 0) rfl) (pe_fld (pv 0) rfl) (fun _ _ => rfl))))), ?_⟩
  refine ⟨_, rfl, r, _, _, _, _, rfl, a.hr, T.cls, T.no_place, rfl, _, rfl, r, _, _, _, _, rfl, a.hr, T.cls, T.no_text, rfl, _, rfl, a.big, _, _, rfl, rfl, _, rfl, iteD (fun hge => ?_) (fun hge => ?_)⟩
  · exact q1 (List.drop_eq_nil_of_le (by omega)) _ _ _ _ X.aE a.refl
  · have lt : p < l.length := by omega
    exact ⟨_, rfl, r, _, _, _, _, rfl, a.hr, T.cls, T.no_text, rfl, _, rfl, r, _, _, _, _, rfl, a.hr, T.cls, T.no_place, rfl, _, _, p, l[p], rfl, rfl, rfl, a.big, List.getElem?_eq_getElem lt, q0 _ _ (drop_some (List.getElem?_eq_getElem lt))⟩
def spExpect (K : PySem.W.Frag) : Sp := fun vs H Q E => ∃ r dx l G p b c, vs = [.ref r, .str (S [c])] ∧ At K r dx l G H p b ∧ (∀ t, pExpect c (l.drop p) = some t → ∀ H' p', Gw [r] G H G H' → At K r dx l G H' p' b → l.drop p' = t → Q .non H') ∧ (pExpect c (l.drop p) = none → Bad K r G H E)
theorem ok_expect (T : Tx K mg) (X : Ex P K mg) : MetX P w K mg base 2 (cR K) "expect" (spExpect K) := by
  refine metX_of T.d_Reader_expect T.cls T.m_expect (fun _ _ _ _ _ _ us hl => match us, hl with | [_, _], _ => rfl) sc_Reader_expect (fun vs H Q E h => ?_) (fun cdv A outer s H vs Q E hr h => ?_)
  · obtain ⟨r, dx, l, G, p, b, c, rfl, _⟩ := h; rfl
  obtain ⟨r, dx, l, G, p, b, c, rfl, a, q0, q1⟩ := h
  have tk : Takes (cxOf (L2.CX P w) P w K mg base N_Reader_expect "Reader.expect" (defScope s_Reader_expect) (He.ma K (cR K) "expect") cdv A outer s H E) (fun cls d _ H => E cls d H) := takes_of rfl rfl rfl rfl
  have c_skip : C8.Met P w K mg base 1 (cR K) "skip" (spSkip K) [] := ok_skip T
  have c_sign : MetX P w K mg base 1 (cR K) "sign" (spSign K) := ok_sign T X
  refine ⟨_, (pss_cons (ps_expr (C8.pe_mt0 c_skip hr (by omega) (pv 0)))
    (pss_cons (ps_if (pt_cmpR op_ne (pe_mx0 c_sign hr (by omega) tk (pv 0)) (pv 1) (nomark _))
      (pss_one (ps_raise rfl tk (pmk_tok X.tok hr (pa_cons (pe_fld (pv 0) rfl) pa_nil))))
      pss_nil)
    (pss_one (ps_fldaug (pv 0) pe_int in_add)))), ?_⟩
  refine ⟨_, rfl, r, _, _, rfl, a.hr, rfl, r, dx, l, G, p, b, rfl, a, fun H1 p1 g1 a1 e1 => ?_⟩
  refine ⟨_, rfl, r, _, _, rfl, a1.hr, rfl, r, dx, l, G, p1, b, rfl, a1, fun x t e2 => ?_, fun e2 => ?_⟩
  · obtain ⟨h1, h2, h3⟩ := drop_cons e2
    rw [e2] at e1
    refine ⟨_, rfl, rfl, _, rfl, iteSN (fun hne => ?_) (fun he => ?_)⟩
    · refine ⟨_, rfl, r, _, _, _, _, rfl, a1.hr, T.cls, T.no_place, rfl, p1, rfl, by have := a1.hp; have := a1.hl; omega, fun d hd => ?_⟩
      refine q1 ?_ _ _ G _ X.aT (g1.trans ?_)
      · unfold pExpect; rw [← e1]; exact if_neg (fun z => hne (by rw [z]))
      · exact Gw.allocM a1.sm hd
    · obtain rfl : x = c := List.cons.inj he |>.1
      obtain ⟨g, a'⟩ := a1.put (b' := b) h2
      refine up1 T rfl a1.hr (q0 t ?_ _ _ (g1.trans g) a' h3)
      unfold pExpect; rw [← e1]; exact if_pos rfl
  · rw [e2] at e1
    exact (q1 (by unfold pExpect; rw [← e1])).on g1
end
end Mw

set_option Elab.async false
set_option linter.all false
set_option maxRecDepth 100000
set_option maxHeartbeats 4000000
/-! MwRd2: run, word, natural, offset, key. -/
namespace Mw
open PySem PySem.Spec L2
open SX (S S_cat S_len S_inj)
theorem cut_drop {l : List Nat} {a b : Nat} : cutL l (some a) (some b) = (l.drop a).take (b - a) := rfl
theorem take_takeWhile (f : Nat → Bool) : ∀ l : List Nat, l.take (l.takeWhile f).length = l.takeWhile f
  | [] => rfl
  | x :: r => by
    by_cases h : f x = true
    · simp [List.takeWhile_cons, h, take_takeWhile f r]
    · simp [List.takeWhile_cons, h]
theorem cut_take {l : List Nat} {a : Nat} (f : Nat → Bool) : cutL l (some a) (some (a + ((l.drop a).takeWhile f).length)) = (l.drop a).takeWhile f := by
  rw [cut_drop, Nat.add_sub_cancel_left, take_takeWhile]
theorem takeWhile_let (l : List Nat) : (l.takeWhile fun c => decide (c ∈ [97, 98, 99, 100, 101, 102, 103, 104, 105, 106, 107, 108, 109, 110, 111, 112, 113, 114, 115, 116, 117, 118, 119, 120, 121, 122])) = l.takeWhile isLet := by
  refine congrArg (fun f => l.takeWhile f) (funext fun c => ?_)
  unfold isLet
  rw [Bool.eq_iff_iff]
  simp
  omega
theorem dropWhile_let (l : List Nat) : (l.dropWhile fun c => decide (c ∈ [97, 98, 99, 100, 101, 102, 103, 104, 105, 106, 107, 108, 109, 110, 111, 112, 113, 114, 115, 116, 117, 118, 119, 120, 121, 122])) = l.dropWhile isLet := by
  refine congrArg (fun f => l.dropWhile f) (funext fun c => ?_)
  unfold isLet
  rw [Bool.eq_iff_iff]
  simp
  omega
theorem takeWhile_dig (l : List Nat) : (l.takeWhile fun c => decide (c ∈ [48, 49, 50, 51, 52, 53, 54, 55, 56, 57])) = l.takeWhile isDig := by
  refine congrArg (fun f => l.takeWhile f) (funext fun c => ?_)
  unfold isDig
  rw [Bool.eq_iff_iff]
  simp
  omega
section
variable {P : Program} {w : World} {K : PySem.W.Frag} {mg : Str → Option Value} {base : Heap}
def spRun (K : PySem.W.Frag) : Sp := fun vs H Q _ => ∃ r dx l G p b set, vs = [.ref r, .str (S set)] ∧ At K r dx l G H p b ∧ ∀ v H' p' (p0 : Nat), Gw [r] G H G H' → At K r dx l G H' p' b → l.drop p' = (skip (l.drop p)).dropWhile (fun c => decide (c ∈ set)) → p0 ≤ 100000 →
  H' v = some (.tup [.str (S ((skip (l.drop p)).takeWhile fun c => decide (c ∈ set))), .int p0]) → Q (.ref v) H'
theorem ok_run (T : Tx K mg) : C8.Met P w K mg base 2 (cR K) "run" (spRun K) [] := by
  refine met_of T.d_Reader_run T.cls T.m_run (fun _ _ _ _ _ _ us hl => match us, hl with | [_, _], _ => rfl) sc_Reader_run (fun vs H Q E h => ?_) (fun cdv A outer s H vs Q E hr h => ?_)
  · obtain ⟨r, dx, l, G, p, b, set, rfl, _⟩ := h; rfl
  obtain ⟨r, dx, l, G, p, b, set, rfl, a, q⟩ := h
  have c_skip : C8.Met P w K mg base 1 (cR K) "skip" (spSkip K) [] := ok_skip T
  refine ⟨_, (pss_cons (ps_expr (C8.pe_mt0 c_skip hr (by omega) (pv 0)))
    (pss_cons (ps_set (i := 2) sc_Reader_run.nd rfl (Or.inl rfl) (pe_fld (pv 0) rfl))
    (pss_cons (ps_while PassesOwn.never (PW.pt (pw_and (pt_cmpR op_lt (pe_fld (pv 0) rfl) (pe_callB call_lenS (by rfl) T.f_len (by decide +kernel) (pa_cons (pe_fld (pv 0) rfl) pa_nil)) (nomark _)) (pw_and1 (pt_cmpR op_inS (pe_ix ix_S (pe_fld (pv 0) rfl) (pe_fld (pv 0) rfl) (fun _ _ => rfl)) (pv 1) rfl))))
      (pss_one (ps_fldaug (pv 0) pe_int in_add)))
    (pss_one (ps_ret (pe_tup (pa_cons (pe_slice sl_S (pe_fld (pv 0) rfl) (po_some (pv 2)) (po_some (pe_fld (pv 0) rfl))) (pa_cons (pv 2) pa_nil)))))))), ?_⟩
  refine ⟨_, rfl, r, _, _, rfl, a.hr, rfl, r, dx, l, G, p, b, rfl, a, fun H1 p1 g1 a1 e1 => ?_⟩
  refine ⟨_, rfl, r, _, _, _, _, rfl, a1.hr, T.cls, T.no_place, rfl, ?_⟩
  refine take_loop (set := set) (K := K) (fun p' H' Q' h hp' q0 q1 => ?_) (fun p' H' D h q => up1 T rfl h q) a1.hr a1.hp ?_
  · refine ⟨_, rfl, r, _, _, _, _, rfl, h, T.cls, T.no_place, rfl, _, rfl, r, _, _, _, _, rfl, h, T.cls, T.no_text, rfl, ?_⟩
    refine ⟨_, rfl, a.big, _, _, rfl, rfl, _, rfl, iteD (fun hlt => ?_) (fun hlt => ?_)⟩
    · have hlt' : p' < l.length := by omega
      refine ⟨_, rfl, r, _, _, _, _, rfl, h, T.cls, T.no_text, rfl, _, rfl, r, _, _, _, _, rfl, h, T.cls, T.no_place, rfl, l, _, p', l[p'], rfl, rfl, rfl, a.big, List.getElem?_eq_getElem hlt', _, rfl, _, _, rfl, rfl, _, rfl, q1 _ (List.getElem?_eq_getElem hlt')⟩
    · exact q0 (by omega)
  · obtain ⟨hp2, hd⟩ := take_at a1.hp (fun c => decide (c ∈ set))
    obtain ⟨g2, a2⟩ := a1.put (b' := b) hp2
    refine ⟨_, rfl, r, _, _, _, _, rfl, a2.hr, T.cls, T.no_text, rfl, _, rfl, _, rfl, _, rfl, r, _, _, _, _, rfl, a2.hr, T.cls, T.no_place, rfl, _, rfl, l, some _, some _, rfl, rfl, rfl, a.big, ?_⟩
    refine ⟨_, rfl, by show 2 ≤ sizeLine; rw [sizeLine_eq]; omega, fun v hv => ?_⟩
    have g3 : Gw [] G _ G _ := Gw.allocM (o := HO.tup [V.str (S (cutL l (some p1) (some (p1 + ((l.drop p1).takeWhile fun c => decide (c ∈ set)).length)))), V.int p1]) a2.sm hv
    refine q v _ _ p1 ((g1.trans g2).trans g3.nil) ⟨g3.gh, a.gr, g3.same _ _ a2.hr, a2.hp, a2.hl⟩ ?_ (Nat.le_trans a1.hp a1.hl) ?_
    · rw [hd, e1]
    · rw [upd_same, cut_take, e1]
def spWord (K : PySem.W.Frag) : Sp := fun vs H Q E => ∃ r dx l G p b, vs = [.ref r] ∧ At K r dx l G H p b ∧ (∀ x t, pWord (l.drop p) = some (x, t) → ∀ v H' p' (p0 : Nat), Gw [r] G H G H' → At K r dx l G H' p' b → l.drop p' = t → p0 ≤ 100000 →
  H' v = some (.tup [.str (S x), .int p0]) → Q (.ref v) H') ∧ (pWord (l.drop p) = none → Bad K r G H E)
theorem ok_word (T : Tx K mg) (X : Ex P K mg) : MetX P w K mg base 3 (cR K) "word" (spWord K) := by
  refine metX_of T.d_Reader_word T.cls T.m_word (fun _ _ _ _ _ _ us hl => match us, hl with | [_], _ => rfl) sc_Reader_word (fun vs H Q E h => ?_) (fun cdv A outer s H vs Q E hr h => ?_)
  · obtain ⟨r, dx, l, G, p, b, rfl, _⟩ := h; rfl
  obtain ⟨r, dx, l, G, p, b, rfl, a, q0, q1⟩ := h
  have tk : Takes (cxOf (L2.CX P w) P w K mg base N_Reader_word "Reader.word" (defScope s_Reader_word) (He.ma K (cR K) "word") cdv A outer s H E) (fun cls d _ H => E cls d H) := takes_of rfl rfl rfl rfl
  have hp : PassesOwn (model P w) (cxOf (L2.CX P w) P w K mg base N_Reader_word "Reader.word" (defScope s_Reader_word) (He.ma K (cR K) "word") cdv A outer s H E).A (cxOf (L2.CX P w) P w K mg base N_Reader_word "Reader.word" (defScope s_Reader_word) (He.ma K (cR K) "word") cdv A outer s H E).env (cxOf (L2.CX P w) P w K mg base N_Reader_word "Reader.word" (defScope s_Reader_word) (He.ma K (cR K) "word") cdv A outer s H E).xe := passes_of rfl
  have c_run : C8.Met P w K mg base 2 (cR K) "run" (spRun K) [] := ok_run T
  have c_sign : MetX P w K mg base 1 (cR K) "sign" (spSign K) := ok_sign T X
  refine ⟨_, (pss_cons (ps_asg (C8.pe_mt c_run hr (by omega) (pv 0) (pa_cons (pe_gs T.s_LETTERS_notation) pa_nil)) (pg_tup rfl (pgs_cons (pg_name (i := 1) sc_Reader_word.nd rfl (Or.inl rfl)) (pgs_cons (pg_name (i := 2) sc_Reader_word.nd rfl (Or.inl rfl)) pgs_nil))))
    (pss_cons (ps_if (pt_cmpR op_eq (pv 1) (pe_s []) (nomark _))
      (pss_one (ps_expr (pe_mx0 c_sign hr (by omega) tk (pv 0))))
      pss_nil)
    (pss_cons (ps_if (pt_not (pt_chain op_le op_le pe_int (pe_callB call_lenS (by rfl) T.f_len (by decide +kernel) (pa_cons (pv 1) pa_nil)) (pe_gi T.i_NAME_MOST)))
      (pss_one (ps_raise rfl tk (pmk_tok X.tok hr (pa_cons (pv 2) pa_nil))))
      pss_nil)
    (pss_one (ps_ret (pe_tup (pa_cons (pv 1) (pa_cons (pv 2) pa_nil)))))))), ?_⟩
  refine ⟨_, rfl, r, _, _, rfl, a.hr, rfl, r, dx, l, G, p, b, _, rfl, a, fun v H1 p1 p0 g1 a1 e1 hp0 hv => ?_⟩
  rw [dropWhile_let] at e1
  rw [takeWhile_let] at hv
  refine ⟨_, _, rfl, SqT.of hv, rfl, _, _, rfl, _, _, rfl, rfl, ?_⟩
  have hw : ((skip (l.drop p)).takeWhile isLet).length ≤ 100000 := by
    have h1 := takeWhile_le isLet (skip (l.drop p))
    have h2 : (skip (l.drop p)).length ≤ (l.drop p).length := (List.dropWhile_sublist _).length_le
    rw [List.length_drop] at h2
    have := a.hl
    omega
  generalize hW : (skip (l.drop p)).takeWhile isLet = W at hv hw ⊢
  have bad : ¬ (1 ≤ W.length ∧ W.length ≤ 8) → pWord (l.drop p) = none := fun z => by
    unfold pWord; rw [hW, if_neg z]
  refine ⟨_, rfl, rfl, _, rfl, iteS (fun e => ?_) (fun e => ?_)⟩
  · subst e
    refine ⟨_, rfl, r, _, _, rfl, a1.hr, rfl, r, dx, l, G, p1, b, rfl, a1, fun x t e2 => ?_, fun e2 => (q1 (bad (by simp))).on g1⟩
    refine ⟨_, rfl, [], rfl, by decide, _, _, rfl, rfl, _, rfl, iteD (fun z => absurd z (by decide)) (fun _ => ?_)⟩
    refine ⟨_, rfl, iteT ?_⟩
    exact ⟨_, rfl, p0, rfl, by omega, fun d hd => q1 (bad (by simp)) _ _ G _ X.aT (g1.trans (Gw.allocM a1.sm hd))⟩
  · have hb : W.length ≤ big := Nat.le_trans hw (by decide)
    refine ⟨_, rfl, W, rfl, hb, _, _, rfl, rfl, _, rfl, iteD (fun z => ?_) (fun z => ?_)⟩
    · refine ⟨_, _, rfl, rfl, _, rfl, iteDN (fun z2 => ?_) (fun z2 => ?_)⟩
      · exact ⟨_, rfl, p0, rfl, by omega, fun d hd => q1 (bad (by omega)) _ _ G _ X.aT (g1.trans (Gw.allocM a1.sm hd))⟩
      · refine ⟨_, rfl, _, rfl, by show 2 ≤ sizeLine; rw [sizeLine_eq]; omega, fun v2 hv2 => ?_⟩
        have g3 : Gw [] G H1 G _ := Gw.allocM (o := HO.tup [V.str (S W), V.int p0]) a1.sm hv2
        refine q0 W _ ?_ v2 _ p1 p0 (g1.trans g3.nil) ⟨g3.gh, a.gr, g3.same _ _ a1.hr, a1.hp, a1.hl⟩ e1 hp0 upd_same
        unfold pWord
        rw [hW, if_pos (by omega)]
    · exfalso
      have : W ≠ [] := e
      have h3 : 0 < W.length := List.length_pos_iff.mpr this
      omega
end
end Mw

set_option Elab.async false
set_option linter.all false
set_option maxRecDepth 100000
set_option maxHeartbeats 4000000
/-! MwRd3: natural, offset, key. -/
namespace Mw
open PySem PySem.Spec L2
open SX (S S_cat S_len S_inj)
theorem beqS {a b : List Nat} : (S a == S b) = decide (a = b) := by
  rw [Bool.eq_iff_iff, beq_iff_eq, decide_eq_true_eq]
  exact ⟨S_inj, fun h => by rw [h]⟩
def encV : Ky → V
  | .ix i => .int (i : Nat)
  | .wd w => .str (S w)
theorem flat_encV (k : Ky) : flatV (encV k) = true := by cases k <;> rfl
theorem eq_encV (k k' : Ky) : eqV (encV k) (encV k') = decide (k = k') := by
  cases k with
  | ix i => cases k' with
    | ix j =>
      show ((i : Int) == (j : Int)) = _
      rw [Bool.eq_iff_iff, beq_iff_eq, decide_eq_true_eq, Ky.ix.injEq]
      omega
    | wd w => rfl
  | wd w => cases k' with
    | ix j => rfl
    | wd v =>
      show (S w == S v) = _
      rw [beqS, Bool.eq_iff_iff, decide_eq_true_eq, decide_eq_true_eq, Ky.wd.injEq]
theorem in_encV (k : Ky) (ks : List Ky) : inV (encV k) (ks.map encV) = decide (k ∈ ks) := by
  unfold inV
  induction ks with
  | nil => simp
  | cons x r ih =>
    rw [List.map_cons, List.any_cons, ih, eq_encV, Bool.eq_iff_iff, Bool.or_eq_true, decide_eq_true_eq, decide_eq_true_eq, decide_eq_true_eq, List.mem_cons]
    constructor
    · rintro (h | h)
      · exact .inl h.symm
      · exact .inr h
    · rintro (h | h)
      · exact .inl h.symm
      · exact .inr h
theorem all_encV (ks : List Ky) : (ks.map encV).all flatV = true := by
  rw [List.all_eq_true]
  intro x hx
  obtain ⟨k, _, rfl⟩ := List.mem_map.mp hx
  exact flat_encV k
theorem in_strs (w : List Nat) (ls : List (List Nat)) : inV (.str (S w)) (ls.map fun c => .str (S c)) = decide (w ∈ ls) := by
  have h := in_encV (.wd w) (ls.map .wd)
  rw [List.map_map] at h
  refine Eq.trans h ?_
  rw [Bool.eq_iff_iff, decide_eq_true_eq, decide_eq_true_eq, List.mem_map]
  constructor
  · rintro ⟨a, h, e⟩; cases e; exact h
  · intro h; exact ⟨w, h, rfl⟩
theorem all_strs (ls : List (List Nat)) : (ls.map fun c => V.str (S c)).all flatV = true := by
  rw [List.all_eq_true]
  intro x hx
  obtain ⟨k, _, rfl⟩ := List.mem_map.mp hx
  rfl
theorem takeWhile_all (f : Nat → Bool) : ∀ l : List Nat, (l.takeWhile f).all f = true
  | [] => rfl
  | x :: r => by
    by_cases h : f x = true
    · simp [List.takeWhile_cons, h]
    · simp [List.takeWhile_cons, h]
section
variable {P : Program} {w : World} {K : PySem.W.Frag} {mg : Str → Option Value} {base : Heap}
def spNat (K : PySem.W.Frag) : Sp := fun vs H Q E => ∃ r dx l G p b, ∃ most : Nat, vs = [.ref r, .int most] ∧ At K r dx l G H p b ∧ (∀ n t, pNat most (l.drop p) = some (n, t) → ∀ H' p', Gw [r] G H G H' → At K r dx l G H' p' b → l.drop p' = t → Q (.int (n : Nat)) H') ∧
  (pNat most (l.drop p) = none → Bad K r G H E)
theorem ok_natural (T : Tx K mg) (X : Ex P K mg) : MetX P w K mg base 2 (cR K) "natural" (spNat K) := by
  refine metX_of T.d_Reader_natural T.cls T.m_natural (fun _ _ _ _ _ _ us hl => match us, hl with | [_, _], _ => rfl) sc_Reader_natural (fun vs H Q E h => ?_) (fun cdv A outer s H vs Q E hr h => ?_)
  · obtain ⟨r, dx, l, G, p, b, most, rfl, _⟩ := h; rfl
  obtain ⟨r, dx, l, G, p, b, most, rfl, a, q0, q1⟩ := h
  have tk : Takes (cxOf (L2.CX P w) P w K mg base N_Reader_natural "Reader.natural" (defScope s_Reader_natural) (He.ma K (cR K) "natural") cdv A outer s H E) (fun cls d _ H => E cls d H) := takes_of rfl rfl rfl rfl
  have hp : PassesOwn (model P w) (cxOf (L2.CX P w) P w K mg base N_Reader_natural "Reader.natural" (defScope s_Reader_natural) (He.ma K (cR K) "natural") cdv A outer s H E).A (cxOf (L2.CX P w) P w K mg base N_Reader_natural "Reader.natural" (defScope s_Reader_natural) (He.ma K (cR K) "natural") cdv A outer s H E).env (cxOf (L2.CX P w) P w K mg base N_Reader_natural "Reader.natural" (defScope s_Reader_natural) (He.ma K (cR K) "natural") cdv A outer s H E).xe := passes_of rfl
  have c_sign : MetX P w K mg base 1 (cR K) "sign" (spSign K) := ok_sign T X
  refine ⟨_, (pss_cons (ps_set (i := 2) sc_Reader_natural.nd rfl (Or.inl rfl) (pe_fld (pv 0) rfl))
    (pss_cons (ps_while hp (PW.pt (pw_and (pt_cmpR op_lt (pe_fld (pv 0) rfl) (pe_callB call_lenS (by rfl) T.f_len (by decide +kernel) (pa_cons (pe_fld (pv 0) rfl) pa_nil)) (nomark _)) (pw_and1 (pt_cmpR op_inS (pe_ix ix_S (pe_fld (pv 0) rfl) (pe_fld (pv 0) rfl) (fun _ _ => rfl)) (pe_gs T.s_FIGURES) rfl))))
      (pss_one (ps_fldaug (pv 0) pe_int in_add)))
    (pss_cons (ps_set (i := 3) sc_Reader_natural.nd rfl (Or.inl rfl) (pe_slice sl_S (pe_fld (pv 0) rfl) (po_some (pv 2)) (po_some (pe_fld (pv 0) rfl))))
    (pss_cons (ps_if (pt_cmpR op_eq (pv 3) (pe_s []) (nomark _))
      (pss_one (ps_expr (pe_mx0 c_sign hr (by omega) tk (pv 0))))
      pss_nil)
    (pss_cons (ps_if (PW.pt (pw_or (pt_cmpR op_eq (pv 3) (pe_s []) (nomark _)) (pw_or (pt_cmpR op_gt (pe_callB call_lenS (by rfl) T.f_len (by decide +kernel) (pa_cons (pv 3) pa_nil)) pe_int (nomark _)) (pw_or (PW.pt (pw_and (pt_cmpR op_eq (pe_ix ix_S (pv 3) pe_int (fun _ _ => rfl)) (pe_s [48]) (nomark _)) (pw_and1 (pt_cmpR op_ne (pv 3) (pe_s [48]) (nomark _))))) (pw_or1 (pt_cmpR op_gt (pe_callTy call_intS (by rfl) T.f_int (by decide +kernel) (pa_cons (pv 3) pa_nil)) (pv 1) (nomark _)))))))
      (pss_one (ps_raise rfl tk (pmk_tok X.tok hr (pa_cons (pv 2) pa_nil))))
      pss_nil)
    (pss_one (ps_ret (pe_callTy call_intS (by rfl) T.f_int (by decide +kernel) (pa_cons (pv 3) pa_nil))))))))), ?_⟩
  refine ⟨_, rfl, r, _, _, _, _, rfl, a.hr, T.cls, T.no_place, rfl, ?_⟩
  refine take_loop (set := [48, 49, 50, 51, 52, 53, 54, 55, 56, 57]) (K := K) (fun p' H' Q' h hp' q0 q1 => ?_) (fun p' H' D h q => up1 T rfl h q) a.hr a.hp ?_
  · refine ⟨_, rfl, r, _, _, _, _, rfl, h, T.cls, T.no_place, rfl, _, rfl, r, _, _, _, _, rfl, h, T.cls, T.no_text, rfl, ?_⟩
    refine ⟨_, rfl, a.big, _, _, rfl, rfl, _, rfl, iteD (fun hlt => ?_) (fun hlt => ?_)⟩
    · have hlt' : p' < l.length := by omega
      refine ⟨_, rfl, r, _, _, _, _, rfl, h, T.cls, T.no_text, rfl, _, rfl, r, _, _, _, _, rfl, h, T.cls, T.no_place, rfl, l, _, p', l[p'], rfl, rfl, rfl, a.big, List.getElem?_eq_getElem hlt', _, _, rfl, rfl, _, rfl, q1 _ (List.getElem?_eq_getElem hlt')⟩
    · exact q0 (by omega)
  rw [takeWhile_dig]
  obtain ⟨hp2, hd⟩ := take_at a.hp isDig
  obtain ⟨g2, a2⟩ := a.put (b' := b) hp2
  have hcut := cut_take (l := l) (a := p) isDig
  have hall := takeWhile_all isDig (l.drop p)
  have hlen : ((l.drop p).takeWhile isDig).length ≤ 100000 := by
    have := a.hl; omega
  have hpn : pNat most (l.drop p) = if badNat most ((l.drop p).takeWhile isDig) then none else some (NumText.digitsVal ((l.drop p).takeWhile isDig), (l.drop p).dropWhile isDig) := rfl
  generalize (l.drop p).takeWhile isDig = W at hp2 hd g2 a2 hcut hall hlen hpn ⊢
  refine ⟨_, rfl, r, _, _, _, _, rfl, a2.hr, T.cls, T.no_text, rfl, _, rfl, _, rfl, _, rfl, r, _, _, _, _, rfl, a2.hr, T.cls, T.no_place, rfl, _, rfl, l, some _, some _, rfl, rfl, rfl, a.big, ?_⟩
  rw [hcut]
  have bad : badNat most W → Bad K r G H E := fun z => q1 (by rw [hpn, if_pos z])
  have hb : W.length ≤ big := Nat.le_trans hlen (by decide)
  refine ⟨_, rfl, rfl, _, rfl, iteS (fun e => ?_) (fun e => ?_)⟩
  · subst e
    refine ⟨_, rfl, r, _, _, rfl, a2.hr, rfl, r, dx, l, G, _, b, rfl, a2, fun x t e2 => ?_, fun e2 => (bad (.inl rfl)).on g2⟩
    refine ⟨_, rfl, rfl, _, rfl, iteT (iteT ?_)⟩
    exact ⟨_, rfl, p, rfl, by have := a.hp; have := a.hl; omega, fun d hd => bad (.inl rfl) _ _ G _ X.aT (g2.trans (Gw.allocM a2.sm hd))⟩
  · have tok : badNat most W → ∀ Hx, Hx = upd H r (rdO (cR K) dx l (p + W.length) b) → tTok (cTok K) (tCons (tVar 2) tNil) [some (.ref r), some (.int most), some (.int p), some (.str (S W))] Hx (fun cls d H' => E cls d H') := fun z Hx eH => by
      subst eH
      exact ⟨_, rfl, p, rfl, by have := a.hp; have := a.hl; omega, fun d hd => bad z _ _ G _ X.aT (g2.trans (Gw.allocM a2.sm hd))⟩
    refine ⟨_, rfl, rfl, _, rfl, iteS (fun e' => absurd e' e) (fun _ => ?_)⟩
    refine ⟨_, rfl, W, rfl, hb, _, _, rfl, rfl, _, rfl, iteD (fun z => ?_) (fun z => ?_)⟩
    · exact iteT (tok (.inr (.inl (by omega))) _ rfl)
    · have hpos : 0 < W.length := List.length_pos_iff.mpr e
      have fin : ¬ (W.head? = some 48 ∧ W ≠ [48]) → tIfS (tTest (tOp (rI0 fun i j => V.bl (decide (j < i))) (tCB (fun xs H Q => ∃ l : List Nat, xs = [.str (S l)] ∧ l.all isDig = true ∧ l ≠ [] ∧ l.length ≤ 600 ∧ Q (.int (NumText.digitsVal l : Nat)) H) (tCons (tVar 3) tNil)) (tVar 1)))
          (fun _ σ H => tTok (cTok K) (tCons (tVar 2) tNil) σ H fun cls d H' => E cls d H') (fun D σ H => tRet (tCB (fun xs H Q => ∃ l : List Nat, xs = [.str (S l)] ∧ l.all isDig = true ∧ l ≠ [] ∧ l.length ≤ 600 ∧ Q (.int (NumText.digitsVal l : Nat)) H) (tCons (tVar 3) tNil)) D σ H) { nx := fun _ H' => Q .non H', rt := Q } [some (.ref r), some (.int most), some (.int p), some (.str (S W))] (upd H r (rdO (cR K) dx l (p + W.length) b)) := fun hz => by
        refine ⟨_, rfl, W, rfl, hall, e, by omega, _, rfl, _, _, rfl, rfl, _, rfl, iteD (fun z4 => tok (.inr (.inr (.inr (by omega)))) _ rfl) (fun z4 => ?_)⟩
        refine ⟨_, rfl, W, rfl, hall, e, by omega, q0 _ _ (by rw [hpn, if_neg]; rintro (h | h | h | h); exact e h; omega; exact hz h; omega) _ _ g2 a2 hd⟩
      refine ⟨_, rfl, W, _, 0, W[0], rfl, rfl, rfl, hb, List.getElem?_eq_getElem hpos, rfl, _, rfl, iteS (fun e3 => ?_) (fun e3 => ?_)⟩
      · refine ⟨_, rfl, rfl, _, rfl, iteSN (fun e4 => ?_) (fun e4 => ?_)⟩
        · refine iteT (tok (.inr (.inr (.inl ⟨?_, e4⟩))) _ rfl)
          rw [List.head?_eq_getElem?, List.getElem?_eq_getElem hpos]
          exact congrArg some (List.cons.inj e3).1
        · exact fin (fun z => z.2 e4)
      · refine iteF (fin (fun z => e3 ?_))
        have h1 := z.1
        rw [List.head?_eq_getElem?, List.getElem?_eq_getElem hpos] at h1
        rw [Option.some.inj h1]
def spOff (K : PySem.W.Frag) : Sp := fun vs H Q E => ∃ r dx l G p b, vs = [.ref r] ∧ At K r dx l G H p b ∧ (∀ n t, pOff (l.drop p) = some (n, t) → ∀ H' p', Gw [r] G H G H' → At K r dx l G H' p' b → l.drop p' = t → Q (.int (n : Nat)) H') ∧ (pOff (l.drop p) = none → Bad K r G H E)
theorem ok_offset (T : Tx K mg) (X : Ex P K mg) : MetX P w K mg base 3 (cR K) "offset" (spOff K) := by
  refine metX_of T.d_Reader_offset T.cls T.m_offset (fun _ _ _ _ _ _ us hl => match us, hl with | [_], _ => rfl) sc_Reader_offset (fun vs H Q E h => ?_) (fun cdv A outer s H vs Q E hr h => ?_)
  · obtain ⟨r, dx, l, G, p, b, rfl, _⟩ := h; rfl
  obtain ⟨r, dx, l, G, p, b, rfl, a, q0, q1⟩ := h
  have tk : Takes (cxOf (L2.CX P w) P w K mg base N_Reader_offset "Reader.offset" (defScope s_Reader_offset) (He.ma K (cR K) "offset") cdv A outer s H E) (fun cls d _ H => E cls d H) := takes_of rfl rfl rfl rfl
  have hp : PassesOwn (model P w) (cxOf (L2.CX P w) P w K mg base N_Reader_offset "Reader.offset" (defScope s_Reader_offset) (He.ma K (cR K) "offset") cdv A outer s H E).A (cxOf (L2.CX P w) P w K mg base N_Reader_offset "Reader.offset" (defScope s_Reader_offset) (He.ma K (cR K) "offset") cdv A outer s H E).env (cxOf (L2.CX P w) P w K mg base N_Reader_offset "Reader.offset" (defScope s_Reader_offset) (He.ma K (cR K) "offset") cdv A outer s H E).xe := passes_of rfl
  have c_skip : C8.Met P w K mg base 1 (cR K) "skip" (spSkip K) [] := ok_skip T
  have c_natural : MetX P w K mg base 2 (cR K) "natural" (spNat K) := ok_natural T X
  refine ⟨_, (pss_cons (ps_expr (C8.pe_mt0 c_skip hr (by omega) (pv 0)))
    (pss_cons (ps_if (pt_not (pt_val (pe_bm PySem.F.plainAttrs_str PySem.F.slot_str_startswith PySem.F.type_str_startswith mt_startsS (pe_fld (pv 0) rfl) (pa_cons (pe_gs T.s_OFFSET) (pa_cons (pe_fld (pv 0) rfl) pa_nil)))))
      (pss_one (ps_ret pe_int))
      pss_nil)
    (pss_cons (ps_fldaug (pv 0) (pe_callB call_lenS (by rfl) T.f_len (by decide +kernel) (pa_cons (pe_gs T.s_OFFSET) pa_nil)) in_add)
    (pss_one (ps_ret (pe_mx c_natural hr (by omega) tk (pv 0) (pa_cons (pe_gi T.i_OFFSET_MOST) pa_nil))))))), ?_⟩
  refine ⟨_, rfl, r, _, _, rfl, a.hr, rfl, r, dx, l, G, p, b, rfl, a, fun H1 p1 g1 a1 e1 => ?_⟩
  refine ⟨_, rfl, r, _, _, _, _, rfl, a1.hr, T.cls, T.no_text, rfl, rfl, _, rfl, r, _, _, _, _, rfl, a1.hr, T.cls, T.no_place, rfl, l, tOff, p1, rfl, rfl, ⟨_, rfl, iteDN (fun z => ?_) (fun z => ?_)⟩, by decide, a1.hp⟩
  · refine q0 0 _ ?_ _ _ g1 a1 e1
    unfold pOff
    rw [← e1, if_neg (fun y => z ⟨by decide, a1.hp, y⟩)]
  · have hz := z.2.2
    have hlen : p1 + 7 ≤ l.length := by
      have := hz.length_le
      rw [List.length_drop] at this
      have h7 : tOff.length = 7 := rfl
      omega
    obtain ⟨g2, a2⟩ := a1.put (b' := b) hlen
    have hpo : pOff (l.drop p) = pNat 9 (l.drop (p1 + 7)) := by
      unfold pOff
      rw [← e1, if_pos hz, List.drop_drop]
    refine ⟨_, rfl, r, _, _, _, _, rfl, a1.hr, T.cls, T.no_place, rfl, tOff, rfl, by decide, _, _, rfl, rfl, _, _, a1.hr, by show (3 : Nat) < 1000; decide, ?_⟩
    refine ⟨_, rfl, r, _, _, rfl, a2.hr, rfl, r, dx, l, G, _, b, 9, rfl, a2, fun n t e2 H3 p3 g3 a3 e3 => q0 n t (by rw [hpo, e2]) _ _ ((g1.trans g2).trans g3) a3 e3, fun e2 => (q1 (by rw [hpo, e2])).on (g1.trans g2)⟩
def spKey (K : PySem.W.Frag) : Sp := fun vs H Q E => ∃ r dx l G p b pl, vs = [.ref r, .str (S (tKind pl))] ∧ At K r dx l G H p b ∧ (∀ k t, pKey pl (l.drop p) = some (k, t) → ∀ v H' p' (p0 : Nat), Gw [r] G H G H' → At K r dx l G H' p' b → l.drop p' = t → p0 ≤ 100000 →
  H' v = some (.tup [encV k, .int p0]) → Q (.ref v) H') ∧ (pKey pl (l.drop p) = none → Bad K r G H E)
theorem skip_skip (l : List Nat) : skip (skip l) = skip l := by
  unfold skip
  induction l with
  | nil => rfl
  | cons x r ih =>
    by_cases h : isSp x = true
    · simp [List.dropWhile_cons, h, ih]
    · simp [List.dropWhile_cons, h]
theorem ok_key (T : Tx K mg) (X : Ex P K mg) : MetX P w K mg base 4 (cR K) "key" (spKey K) := by
  refine metX_of T.d_Reader_key T.cls T.m_key (fun _ _ _ _ _ _ us hl => match us, hl with | [_, _], _ => rfl) sc_Reader_key (fun vs H Q E h => ?_) (fun cdv A outer s H vs Q E hr h => ?_)
  · obtain ⟨r, dx, l, G, p, b, pl, rfl, _⟩ := h; rfl
  obtain ⟨r, dx, l, G, p, b, pl, rfl, a, q0, q1⟩ := h
  have tk : Takes (cxOf (L2.CX P w) P w K mg base N_Reader_key "Reader.key" (defScope s_Reader_key) (He.ma K (cR K) "key") cdv A outer s H E) (fun cls d _ H => E cls d H) := takes_of rfl rfl rfl rfl
  have hp : PassesOwn (model P w) (cxOf (L2.CX P w) P w K mg base N_Reader_key "Reader.key" (defScope s_Reader_key) (He.ma K (cR K) "key") cdv A outer s H E).A (cxOf (L2.CX P w) P w K mg base N_Reader_key "Reader.key" (defScope s_Reader_key) (He.ma K (cR K) "key") cdv A outer s H E).env (cxOf (L2.CX P w) P w K mg base N_Reader_key "Reader.key" (defScope s_Reader_key) (He.ma K (cR K) "key") cdv A outer s H E).xe := passes_of rfl
  have c_skip : C8.Met P w K mg base 1 (cR K) "skip" (spSkip K) [] := ok_skip T
  have c_sign : MetX P w K mg base 1 (cR K) "sign" (spSign K) := ok_sign T X
  have c_natural : MetX P w K mg base 2 (cR K) "natural" (spNat K) := ok_natural T X
  have c_word : MetX P w K mg base 3 (cR K) "word" (spWord K) := ok_word T X
  refine ⟨_, (pss_cons (ps_expr (C8.pe_mt0 c_skip hr (by omega) (pv 0)))
    (pss_cons (ps_set (i := 2) sc_Reader_key.nd rfl (Or.inl rfl) (pe_fld (pv 0) rfl))
    (pss_cons (ps_if (PW.pt (pw_and (pt_cmpR op_eq (pv 1) (pe_gs T.s_PLURAL) (nomark _)) (pw_and1 (pt_cmpR op_eq (pe_mx0 c_sign hr (by omega) tk (pv 0)) (pe_s [61]) (nomark _)))))
      (pss_cons (ps_fldaug (pv 0) pe_int in_add)
      (pss_one (ps_ret (pe_tup (pa_cons (pe_mx c_natural hr (by omega) tk (pv 0) (pa_cons (pe_gi T.i_EXACT_MOST) pa_nil)) (pa_cons (pv 2) pa_nil))))))
      pss_nil)
    (pss_cons (ps_asg (pe_mx0 c_word hr (by omega) tk (pv 0)) (pg_tup rfl (pgs_cons (pg_name (i := 3) sc_Reader_key.nd rfl (Or.inl rfl)) (pgs_cons (pg_name (i := 2) sc_Reader_key.nd rfl (Or.inl rfl)) pgs_nil))))
    (pss_cons (ps_if (PW.pt (pw_and (pt_cmpR op_eq (pv 1) (pe_gs T.s_PLURAL) (nomark _)) (pw_and (pt_cmpR op_notIn_seq (pv 3) (pe_gr T.g_CATEGORIES) rfl) (pw_and1 (pt_cmpR op_ne (pv 3) (pe_gs T.s_OTHER) (nomark _))))))
      (pss_one (ps_raise rfl tk (pmk_tok X.tok hr (pa_cons (pv 2) pa_nil))))
      pss_nil)
    (pss_one (ps_ret (pe_tup (pa_cons (pv 3) (pa_cons (pv 2) pa_nil)))))))))), ?_⟩
  refine ⟨_, rfl, r, _, _, rfl, a.hr, rfl, r, dx, l, G, p, b, rfl, a, fun H1 p1 g1 a1 e1 => ?_⟩
  refine ⟨_, rfl, r, _, _, _, _, rfl, a1.hr, T.cls, T.no_place, rfl, ?_⟩
  have hp1 : p1 ≤ 100000 := Nat.le_trans a1.hp a1.hl
  -- what follows where no = stands
  have word : ¬ (pl = true ∧ (skip (l.drop p)).head? = some 61) → tSeq (tAsg (tMeth (cR K) "word" (spWord K) [] E (tVar 0) tNil) (gTup K 2 (gCons (gName 3) (gCons (gName 2) gNil)))) (tSeq (tIfS (tAnd (tTest (tOp rEq (tVar 1) (tC (.str (S tPlu))))) (tAnd (tTest (tOp (rIn K true) (tVar 3) (tC (.ref (He.ga K "CATEGORIES"))))) (tTest (tOp rNe (tVar 3) (tC (.str (S tOth))))))) (fun _ σ H => tTok (cTok K) (tCons (tVar 2) tNil) σ H fun cls d H' => E cls d H') tNext) (tRet (tTup (tCons (tVar 3) (tCons (tVar 2) tNil))))) { nx := fun _ H' => Q .non H', rt := Q } [some (.ref r), some (.str (S (tKind pl))), some (.int p1), none] H1 := fun hno => by
    have hk : pKey pl (l.drop p) = match pWord (l.drop p1) with
        | none => none
        | some (x, t) => if pl = true ∧ x ∉ cats ∧ x ≠ tOth then none else some (.wd x, t) := by
      unfold pKey
      rw [if_neg hno, e1]
      all_goals rfl
    refine ⟨_, rfl, r, _, _, rfl, a1.hr, rfl, r, dx, l, G, p1, b, rfl, a1, fun x t e2 v H2 p2 p0 g2 a2 e3 hp0 hv => ?_, fun e2 => (q1 (by rw [hk, e2])).on g1⟩
    rw [e2] at hk
    refine ⟨_, _, rfl, SqT.of hv, rfl, _, _, rfl, _, _, rfl, rfl, ?_⟩
    have done : ¬ (pl = true ∧ x ∉ cats ∧ x ≠ tOth) → tRet (tTup (tCons (tVar 3) (tCons (tVar 2) tNil))) { nx := fun _ H' => Q .non H', rt := Q } [some (.ref r), some (.str (S (tKind pl))), some (.int p0), some (.str (S x))] H2 := fun z => by
      refine ⟨_, rfl, _, rfl, by show 2 ≤ sizeLine; rw [sizeLine_eq]; omega, fun v2 hv2 => ?_⟩
      have g3 : Gw [] G H2 G _ := Gw.allocM (o := HO.tup [V.str (S x), V.int p0]) a2.sm hv2
      exact q0 (.wd x) t (by rw [hk]; exact if_neg z) v2 _ p2 p0 ((g1.trans g2).trans g3.nil) ⟨g3.gh, a.gr, g3.same _ _ a2.hr, a2.hp, a2.hl⟩ e3 hp0 upd_same
    cases pl with
    | false => exact ⟨_, rfl, rfl, _, rfl, iteS (fun e => absurd e (by decide)) (fun _ => iteF (done (by simp)))⟩
    | true =>
      refine ⟨_, rfl, rfl, _, rfl, iteS (fun _ => ?_) (fun e => absurd rfl e)⟩
      refine ⟨_, rfl, _, _, rfl, .inr (T.t_CATEGORIES _), rfl, all_strs cats, _, rfl, ?_⟩
      rw [in_strs]
      refine iteDN (fun z => ?_) (fun z => iteF (done (fun y => y.2.1 z)))
      refine ⟨_, rfl, rfl, _, rfl, iteSN (fun z2 => ?_) (fun z2 => done (fun y => y.2.2 z2))⟩
      exact ⟨_, rfl, p0, rfl, by omega, fun d hd => q1 (by rw [hk]; exact if_pos ⟨rfl, z, z2⟩) _ _ G _ X.aT ((g1.trans g2).trans (Gw.allocM a2.sm hd))⟩
  cases pl with
  | false => exact ⟨_, rfl, rfl, _, rfl, iteS (fun e => absurd e (by decide)) (fun _ => iteF (word (by simp)))⟩
  | true =>
    refine ⟨_, rfl, rfl, _, rfl, iteS (fun _ => ?_) (fun e => absurd rfl e)⟩
    refine ⟨_, rfl, r, _, _, rfl, a1.hr, rfl, r, dx, l, G, p1, b, rfl, a1, fun x t e2 => ?_, fun e2 => ?_⟩
    · rw [e2] at e1
      refine ⟨rfl, _, rfl, iteS (fun e => ?_) (fun e => word ?_)⟩
      · obtain rfl : x = 61 := (List.cons.inj e).1
        obtain ⟨h1, h2, h3⟩ := drop_cons e2
        have hk : pKey true (l.drop p) = (pNat 999 (l.drop (p1 + 1))).map fun p => (.ix p.1, p.2) := by
          unfold pKey
          rw [if_pos ⟨rfl, by rw [← e1]; rfl⟩, ← e1, h3]; rfl
        obtain ⟨g2, a2⟩ := a1.put (b' := b) h2
        refine up1 T rfl a1.hr ?_
        refine ⟨_, rfl, r, _, _, rfl, a2.hr, rfl, r, dx, l, G, _, b, 999, rfl, a2, fun n t e2 H3 p3 g3 a3 e3 => ?_, fun e2 => (q1 (by rw [hk, e2]; rfl)).on (g1.trans g2)⟩
        refine ⟨_, rfl, by show 2 ≤ sizeLine; rw [sizeLine_eq]; omega, fun v2 hv2 => ?_⟩
        have g4 : Gw [] G H3 G _ := Gw.allocM (o := HO.tup [V.int n, V.int p1]) a3.sm hv2
        exact q0 (.ix n) t (by rw [hk, e2]; rfl) v2 _ p3 p1 (((g1.trans g2).trans g3).trans g4.nil) ⟨g4.gh, a.gr, g4.same _ _ a3.hr, a3.hp, a3.hl⟩ e3 hp1 upd_same
      · rw [← e1]
        intro z
        apply e
        have := z.2
        rw [List.head?_cons] at this
        rw [Option.some.inj this]
    · refine (q1 ?_).on g1
      rw [e2] at e1
      unfold pKey
      rw [if_neg (by rw [← e1]; simp), ← e1]
      rfl
end
end Mw

set_option Elab.async false
set_option linter.all false
set_option maxRecDepth 100000
set_option maxHeartbeats 4000000
/-! MwRd4: format_text, is_sign, escape. -/
namespace Mw
open PySem PySem.Spec L2
open SX (S S_cat S_len S_inj)
theorem fmtT_snoc (l : List Nat) (c : Nat) : fmtT (l ++ [c]) = fmtT l ++ fmtC c := by unfold fmtT; simp
theorem fmtT_append (l m : List Nat) : fmtT (l ++ m) = fmtT l ++ fmtT m := by unfold fmtT; simp
theorem take_snoc {α : Type} {l : List α} {i : Nat} {x : α} (h : l[i]? = some x) : l.take (i + 1) = l.take i ++ [x] := by
  rw [List.take_add_one, h]; rfl
theorem fmtT_take_le (l : List Nat) (i : Nat) : (fmtT (l.take i)).length ≤ (fmtT l).length := by
  have h : fmtT l = fmtT (l.take i) ++ fmtT (l.drop i) := by rw [← fmtT_append, List.take_append_drop]
  rw [h, List.length_append]; omega
/-- over a text, sign by sign -/
theorem for_text {l : List Nat} {g : TG} {tb : TS} {D : Ends} {σ : L2.St} {H : Hp} (Pv : Nat → L2.St → Hp → Prop) (h0 : Pv 0 σ H)
    (hs : ∀ i c σ H, l[i]? = some c → Pv i σ H → g (.str (S [c])) σ H fun σ2 H2 => tb { D with nx := Pv (i + 1), ct := Pv (i + 1), bk := D.nx } σ2 H2) (hd : ∀ σ H, Pv l.length σ H → D.nx σ H) :
    ∃ W : Nat → Nat → L2.St → Hp → Prop, (∃ m, W 0 m σ H) ∧ ∀ i m σ H, W i m σ H →
      ((Its (S l)).stop i H ∧ D.nx σ H) ∨ ((Its (S l)).go i H ∧ ∃ N : L2.St → Hp → Prop, (∀ σ' H', N σ' H' → ∃ m', m' < m ∧ W (i + 1) m' σ' H') ∧ ∀ x H', (Its (S l)).yld i H x H' → g x σ H' fun σ2 H2 => tb { D with nx := N, ct := N, bk := D.nx } σ2 H2) := by
  refine ⟨fun i m σ H => m = l.length - i ∧ i ≤ l.length ∧ Pv i σ H, ⟨l.length, by simp, Nat.zero_le _, h0⟩, ?_⟩
  rintro i m σ H ⟨rfl, hi, p⟩
  by_cases hlt : i < l.length
  · refine .inr ⟨by show i < (S l).cps.size; simpa using hlt, Pv (i + 1), fun σ' H' p' => ⟨l.length - (i + 1), by omega, rfl, hlt, p'⟩, fun x H' y => ?_⟩
    obtain ⟨rfl, c, hc, rfl⟩ := y
    exact hs i c σ _ (by simpa using hc) p
  · have e : i = l.length := by omega
    subst e
    exact .inl ⟨by show (S l).cps.size ≤ _; simp, hd σ H p⟩
theorem mem_esc (c : Nat) : c ∈ [123, 125, 35, 39] ↔ c = 123 ∨ c = 125 ∨ c = 35 ∨ c = 39 := by simp
theorem fmtC_pos (c : Nat) : fmtC c ≠ [] := by
  unfold fmtC; split
  · simp
  · split <;> simp
def spFmtT : Sp := fun vs H Q _ => ∃ l : List Nat, vs = [.str (S l)] ∧ (fmtT l).length ≤ 15000000 ∧ Q (.str (S (fmtT l))) H
section
variable {P : Program} {w : World} {K : PySem.W.Frag} {mg : Str → Option Value} {base : Heap}
theorem ok_format_text (T : Tx K mg) : C8.Cal P w K mg base 1 "format_text" spFmtT [] := by
  refine cal_of T.d_format_text T.g_format_text (fun _ _ _ _ _ _ us hl => match us, hl with | [_], _ => rfl) sc_format_text (fun vs H Q E h => ?_) (fun cdv A outer s H vs Q E hr h => ?_)
  · obtain ⟨l, rfl, _⟩ := h; rfl
  obtain ⟨l, rfl, hl, q⟩ := h
  refine ⟨_, (pss_cons (ps_set (i := 1) sc_format_text.nd rfl (Or.inl rfl) (pe_s []))
    (pss_cons (ps_for PassesOwn.never rfl (pi_str (pv 0)) (pg_name (i := 2) sc_format_text.nd rfl (Or.inl rfl))
      (pss_one (ps_if (pt_cmpR op_eq (pv 2) (pe_gs T.s_QUOTE) (nomark _))
        (pss_one (ps_aug (i := 1) sc_format_text.nd rfl (Or.inl rfl) (pe_op op_addS (pe_gs T.s_QUOTE) (pe_gs T.s_QUOTE)) ip_addL))
        (pss_one (ps_if (pt_cmpR op_inS (pv 2) (pe_gs T.s_ESCAPED) rfl)
          (pss_one (ps_aug (i := 1) sc_format_text.nd rfl (Or.inl rfl) (pe_op op_addS (pe_op op_addS (pe_gs T.s_QUOTE) (pv 2)) (pe_gs T.s_QUOTE)) ip_addL))
          (pss_one (ps_aug (i := 1) sc_format_text.nd rfl (Or.inl rfl) (pv 2) ip_addL)))))))
    (pss_one (ps_ret (pv 1))))), ?_⟩
  refine ⟨_, rfl, _, rfl, for_text (l := l) (fun i σ H' => ∃ v, σ = [some (V.str (S l)), some (V.str (S (fmtT (l.take i)))), v] ∧ H' = H) ⟨none, rfl, rfl⟩ ?_ ?_⟩
  · rintro i c σ H2 hc ⟨v, rfl, rfl⟩
    have z := fmtT_take_le l (i + 1)
    rw [take_snoc hc, fmtT_snoc, List.length_append] at z
    have z2 : (fmtT (l.take i)).length + (fmtC c).length ≤ big := Nat.le_trans (Nat.le_trans z hl) (by decide)
    have key : ∀ x : List Nat, x = fmtC c → ∃ v, [some (V.str (S l)), some (V.str (S (fmtT (l.take i) ++ x))), some (V.str (S [c]))] = [some (V.str (S l)), some (V.str (S (fmtT (l.take (i + 1))))), v] ∧ H2 = H2 := fun x e => ⟨some (V.str (S [c])), by rw [take_snoc hc, fmtT_snoc, e], rfl⟩
    refine ⟨_, rfl, rfl, _, rfl, iteS (fun e => ?_) (fun e => ?_)⟩
    · obtain rfl : c = 39 := (List.cons.inj e).1
      exact ⟨_, rfl, _, _, rfl, rfl, by decide, _, _, rfl, rfl, z2, key _ rfl⟩
    · have n39 : c ≠ 39 := fun z => e (by rw [z])
      refine ⟨_, rfl, _, _, rfl, rfl, _, rfl, iteD (fun e2 => ?_) (fun e2 => ?_)⟩
      · have e3 : c = 123 ∨ c = 125 ∨ c = 35 := by
          rcases (mem_esc c).mp e2 with h | h | h | h
          · exact .inl h
          · exact .inr (.inl h)
          · exact .inr (.inr h)
          · exact absurd h n39
        have ef : fmtC c = [39, c, 39] := by unfold fmtC; rw [if_neg n39, if_pos e3]
        rw [ef] at z2
        exact ⟨_, rfl, _, rfl, _, _, rfl, rfl, by show 2 ≤ big; decide, _, _, rfl, rfl, by show 3 ≤ big; decide, _, _, rfl, rfl, z2, key _ ef.symm⟩
      · have e3 : ¬ (c = 123 ∨ c = 125 ∨ c = 35) := fun z => e2 ((mem_esc c).mpr (by rcases z with h | h | h; exact .inl h; exact .inr (.inl h); exact .inr (.inr (.inl h))))
        have ef : fmtC c = [c] := by unfold fmtC; rw [if_neg n39, if_neg e3]
        rw [ef] at z2
        exact ⟨_, rfl, _, rfl, _, _, rfl, rfl, z2, key _ ef.symm⟩
  · rintro σ H2 ⟨v, rfl, rfl⟩
    rw [List.take_length]
    exact ⟨_, rfl, q⟩
def spIsS : Sp := fun vs H Q _ => ∃ c : Nat, vs = [.str (S [c])] ∧ Q (.bl (decide (okC c))) H
theorem ok_is_sign (T : Tx K mg) : C8.Cal P w K mg base 1 "is_sign" spIsS [] := by
  refine cal_of T.d_is_sign T.g_is_sign (fun _ _ _ _ _ _ us hl => match us, hl with | [_], _ => rfl) sc_is_sign (fun vs H Q E h => ?_) (fun cdv A outer s H vs Q E hr h => ?_)
  · obtain ⟨l, rfl, _⟩ := h; rfl
  obtain ⟨c, rfl, q⟩ := h
  refine ⟨_, (pss_one (ps_ret (pe_or (pe_cmpR op_eq (pv 0) (pe_s [10]) (nomark _)) (pe_one (pe_chain op_leS op_leS (pe_s [32]) (pv 0) (pe_s [126])))))), ?_⟩
  refine ⟨_, rfl, rfl, _, rfl, iteS (fun e => ?_) (fun e => ?_)⟩
  · obtain rfl : c = 10 := (List.cons.inj e).1
    exact q
  · have n10 : c ≠ 10 := fun z => e (by rw [z])
    refine ⟨_, rfl, _, _, rfl, rfl, _, rfl, iteD (fun h => ?_) (fun h => ?_)⟩
    · refine ⟨_, _, rfl, rfl, ?_⟩
      have e2 : decide (c ≤ 126) = decide (okC c) := by
        rw [decide_eq_decide]; unfold okC; omega
      rw [e2]; exact q
    · have e2 : false = decide (okC c) := by
        symm; rw [decide_eq_false_iff_not]; unfold okC; omega
      rw [e2]; exact q
def spEsc (K : PySem.W.Frag) : Sp := fun vs H Q E => ∃ r dx l G p b, vs = [.ref r] ∧ At K r dx l G H p b ∧ (∀ c t, pEsc escs (l.drop p) = some (c, t) → ∀ H' p', Gw [r] G H G H' → At K r dx l G H' p' b → l.drop p' = t → Q (.str (S [c])) H') ∧ (pEsc escs (l.drop p) = none → Bad K r G H E)
theorem ok_escape (T : Tx K mg) (X : Ex P K mg) : MetX P w K mg base 2 (cR K) "escape" (spEsc K) := by
  refine metX_of T.d_Reader_escape T.cls T.m_escape (fun _ _ _ _ _ _ us hl => match us, hl with | [_], _ => rfl) sc_Reader_escape (fun vs H Q E h => ?_) (fun cdv A outer s H vs Q E hr h => ?_)
  · obtain ⟨r, dx, l, G, p, b, rfl, _⟩ := h; rfl
  obtain ⟨r, dx, l, G, p, b, rfl, a, q0, q1⟩ := h
  have tk : Takes (cxOf (L2.CX P w) P w K mg base N_Reader_escape "Reader.escape" (defScope s_Reader_escape) (He.ma K (cR K) "escape") cdv A outer s H E) (fun cls d _ H => E cls d H) := takes_of rfl rfl rfl rfl
  have hp : PassesOwn (model P w) (cxOf (L2.CX P w) P w K mg base N_Reader_escape "Reader.escape" (defScope s_Reader_escape) (He.ma K (cR K) "escape") cdv A outer s H E).A (cxOf (L2.CX P w) P w K mg base N_Reader_escape "Reader.escape" (defScope s_Reader_escape) (He.ma K (cR K) "escape") cdv A outer s H E).env (cxOf (L2.CX P w) P w K mg base N_Reader_escape "Reader.escape" (defScope s_Reader_escape) (He.ma K (cR K) "escape") cdv A outer s H E).xe := passes_of rfl
  have c_format_text : C8.Cal P w K mg base 1 "format_text" spFmtT [] := ok_format_text T
  refine ⟨_, (pss_cons (ps_for hp rfl (pi_str (pe_gs T.s_ESCAPED)) (pg_name (i := 1) sc_Reader_escape.nd rfl (Or.inl rfl))
      (pss_cons (ps_set (i := 2) sc_Reader_escape.nd rfl (Or.inl rfl) (C8.pe_c c_format_text hr (by omega) rfl (pa_cons (pv 1) pa_nil)))
      (pss_one (ps_if (pt_val (pe_bm PySem.F.plainAttrs_str PySem.F.slot_str_startswith PySem.F.type_str_startswith mt_startsS (pe_fld (pv 0) rfl) (pa_cons (pv 2) (pa_cons (pe_fld (pv 0) rfl) pa_nil))))
        (pss_cons (ps_fldaug (pv 0) (pe_callB call_lenS (by rfl) T.f_len (by decide +kernel) (pa_cons (pv 2) pa_nil)) in_add)
        (pss_one (ps_ret (pv 1))))
        pss_nil))))
    (pss_one (ps_raise rfl tk (pmk_tok X.tok hr (pa_cons (pe_fld (pv 0) rfl) pa_nil))))), ?_⟩
  refine ⟨_, rfl, for_text (l := escs) (fun i σ H' => ∃ v1 v2, σ = [some (.ref r), v1, v2] ∧ H' = H ∧ pEsc escs (l.drop p) = pEsc (escs.drop i) (l.drop p)) ⟨none, none, rfl, rfl, rfl⟩ ?_ ?_⟩
  · rintro i c σ H2 hc ⟨v1, v2, rfl, rfl, e⟩
    have hdr := drop_some hc
    rw [hdr] at e
    have ef : fmtT [c] = fmtC c := by unfold fmtT; simp
    have hlen : (fmtC c).length ≤ 3 := by
      unfold fmtC; split
      · decide
      · split
        · simp
        · simp
    refine ⟨_, rfl, [c], rfl, by rw [ef]; omega, ?_⟩
    rw [ef]
    refine ⟨_, rfl, r, _, _, _, _, rfl, a.hr, T.cls, T.no_text, rfl, rfl, _, rfl, _, rfl, r, _, _, _, _, rfl, a.hr, T.cls, T.no_place, rfl, l, fmtC c, p, rfl, rfl, ⟨_, rfl, iteD (fun z => ?_) (fun z => ?_)⟩, fmtC_pos c, a.hp⟩
    · have hz := z.2.2
      have hle : p + (fmtC c).length ≤ l.length := by
        have := hz.length_le
        rw [List.length_drop] at this
        have := a.hp
        omega
      obtain ⟨g2, a2⟩ := a.put (b' := b) hle
      refine ⟨_, rfl, r, _, _, _, _, rfl, a.hr, T.cls, T.no_place, rfl, _, rfl, fmtC c, rfl, Nat.le_trans hlen (by decide), _, _, rfl, rfl, _, _, a.hr, by show (3 : Nat) < 1000; decide, ?_⟩
      refine ⟨_, rfl, q0 c ((l.drop p).drop (fmtC c).length) ?_ _ _ g2 a2 (by rw [List.drop_drop])⟩
      rw [e]; unfold pEsc; rw [if_pos hz]
    · refine ⟨_, _, rfl, rfl, ?_⟩
      rw [e]; conv => lhs; unfold pEsc
      rw [if_neg (fun y => z ⟨fmtC_pos c, a.hp, y⟩)]
  · rintro σ H2 ⟨v1, v2, rfl, rfl, e⟩
    refine ⟨_, rfl, r, _, _, _, _, rfl, a.hr, T.cls, T.no_place, rfl, p, rfl, by have := a.hp; have := a.hl; omega, fun d hd => q1 ?_ _ _ G _ X.aT (Gw.allocM a.sm hd)⟩
    rw [e]; rfl
end
end Mw

set_option Elab.async false
set_option linter.all false
set_option maxRecDepth 100000
set_option maxHeartbeats 4000000
/-! MwLp: loops and comprehensions over known rows of values. -/
namespace Mw
open PySem PySem.Spec L2
open SX (S S_cat S_len S_inj)
/-- the iterator J gives the values xs wherever B holds -/
structure Runs (J : It) (xs : List V) (B : Hp → Prop) : Prop where
  go : ∀ i H, B H → i < xs.length → J.go i H
  stop : ∀ i H, B H → xs.length ≤ i → J.stop i H
  yld : ∀ i H x H', B H → i < xs.length → J.yld i H x H' → H' = H ∧ xs[i]? = some x
theorem runs_l {K : PySem.W.Frag} {a : Addr} {xs : List V} : Runs (Itl K a) xs (fun H => SqL K H a xs) where
  go := fun i H b h => ⟨xs, xs[i], b, List.getElem?_eq_getElem h⟩
  stop := fun i H b h => ⟨xs, b, h⟩
  yld := fun i H x H' b hi y => ⟨y.1, y.2 xs b⟩
theorem runs_t {K : PySem.W.Frag} {a : Addr} {xs : List V} : Runs (Itt K a) xs (fun H => SqT K H a xs) where
  go := fun i H b h => ⟨xs, xs[i], b, List.getElem?_eq_getElem h⟩
  stop := fun i H b h => ⟨xs, b, h⟩
  yld := fun i H x H' b hi y => ⟨y.1, y.2 xs b⟩
theorem runs_s {l : List Nat} : Runs (Its (S l)) (l.map fun c => .str (S [c])) (fun _ => True) where
  go := fun i H b h => by
    show i < (S l).cps.size
    simpa using h
  stop := fun i H b h => by
    show (S l).cps.size ≤ i
    simpa using h
  yld := fun i H x H' b hi y => by
    obtain ⟨e, c, hc, rfl⟩ := y
    refine ⟨e, ?_⟩
    have hc' : l[i]? = some c := by simpa using hc
    rw [List.getElem?_map, hc']; rfl
theorem runs_r {lo : Int} {n : Nat} : Runs (Itr lo n) ((List.range n).map fun (i : Nat) => .int (lo + i)) (fun _ => True) where
  go := fun i H b h => by
    show i < n
    simpa using h
  stop := fun i H b h => by
    show n ≤ i
    simpa using h
  yld := fun i H x H' b hi y => by
    obtain ⟨e, rfl⟩ := y
    refine ⟨e, ?_⟩
    have hi' : i < n := by simpa using hi
    rw [List.getElem?_map, List.getElem?_range hi']; rfl
theorem for_over {J : It} {xs : List V} {B : Hp → Prop} (R : Runs J xs B) {g : TG} {tb : TS} {D : Ends} {σ : L2.St} {H : Hp} (Pv : Nat → L2.St → Hp → Prop) (hB : ∀ i σ H, Pv i σ H → B H) (h0 : Pv 0 σ H)
    (hs : ∀ i x σ H, xs[i]? = some x → Pv i σ H → g x σ H fun σ2 H2 => tb { D with nx := Pv (i + 1), ct := Pv (i + 1), bk := D.nx } σ2 H2) (hd : ∀ σ H, Pv xs.length σ H → D.nx σ H) :
    ∃ W : Nat → Nat → L2.St → Hp → Prop, (∃ m, W 0 m σ H) ∧ ∀ i m σ H, W i m σ H →
      (J.stop i H ∧ D.nx σ H) ∨ (J.go i H ∧ ∃ N : L2.St → Hp → Prop, (∀ σ' H', N σ' H' → ∃ m', m' < m ∧ W (i + 1) m' σ' H') ∧ ∀ x H', J.yld i H x H' → g x σ H' fun σ2 H2 => tb { D with nx := N, ct := N, bk := D.nx } σ2 H2) := by
  refine ⟨fun i m σ H => m = xs.length - i ∧ i ≤ xs.length ∧ Pv i σ H, ⟨xs.length, by simp, Nat.zero_le _, h0⟩, ?_⟩
  rintro i m σ H ⟨rfl, hi, p⟩
  have hb := hB i σ H p
  by_cases hlt : i < xs.length
  · refine .inr ⟨R.go i H hb hlt, Pv (i + 1), fun σ' H' p' => ⟨xs.length - (i + 1), by omega, rfl, hlt, p'⟩, fun x H' y => ?_⟩
    obtain ⟨rfl, hx⟩ := R.yld i H x H' hb hlt y
    exact hs i x σ _ hx p
  · have e : i = xs.length := by omega
    subst e
    exact .inl ⟨R.stop _ H hb (Nat.le_refl _), hd σ H p⟩
theorem lc_over {J : It} {xs : List V} {B : Hp → Prop} (R : Runs J xs B) {g : TG} {tt : TT} {te : TE} {vs : List Nat} {σ : L2.St} {H1 : Hp} {Q : VK} (Pv : Addr → Nat → Hp → Prop) (hB : ∀ D i H, Pv D i H → B H)
    (h0 : ∀ D, H1 D = none → Pv D 0 (upd H1 D (.lst [])))
    (hs : ∀ D i x H, H1 D = none → xs[i]? = some x → Pv D i H → g x (wipe σ vs) H fun σ2 H2 => wipe σ2 vs = wipe σ vs ∧ tt σ2 H2 fun b H3 =>
      if b = true then te σ2 H3 fun y H4 => ∃ acc, H4 D = some (.lst acc) ∧ acc.length < sizeLine ∧ Pv D (i + 1) (upd H4 D (.lst (acc ++ [y]))) else Pv D (i + 1) H3)
    (hd : ∀ D H, H1 D = none → Pv D xs.length H → Q (.ref D) H) :
    ∀ D, H1 D = none → ∃ W : Nat → Nat → Hp → Prop, (∃ m, W 0 m (upd H1 D (.lst []))) ∧ ∀ i m H, W i m H →
      (J.stop i H ∧ Q (.ref D) H) ∨ (J.go i H ∧ ∃ Nx : Hp → Prop, (∀ H', Nx H' → ∃ m', m' < m ∧ W (i + 1) m' H') ∧ ∀ x H', J.yld i H x H' → g x (wipe σ vs) H' fun σ2 H2 => wipe σ2 vs = wipe σ vs ∧ tt σ2 H2 fun b H3 =>
        if b = true then te σ2 H3 fun y H4 => ∃ acc, H4 D = some (.lst acc) ∧ acc.length < sizeLine ∧ Nx (upd H4 D (.lst (acc ++ [y]))) else Nx H3) := by
  intro D hD
  refine ⟨fun i m H => m = xs.length - i ∧ i ≤ xs.length ∧ Pv D i H, ⟨xs.length, by simp, Nat.zero_le _, h0 D hD⟩, ?_⟩
  rintro i m H ⟨rfl, hi, p⟩
  have hb := hB D i H p
  by_cases hlt : i < xs.length
  · refine .inr ⟨R.go i H hb hlt, fun H' => Pv D (i + 1) H', fun H' p' => ⟨xs.length - (i + 1), by omega, rfl, hlt, p'⟩, fun x H' y => ?_⟩
    obtain ⟨rfl, hx⟩ := R.yld i H x H' hb hlt y
    exact hs D i x _ hD hx p
  · have e : i = xs.length := by omega
    subst e
    exact .inl ⟨R.stop _ H hb (Nat.le_refl _), hd D H hD p⟩
theorem un_next {D : Ends} {σ : L2.St} {H : Hp} (h : D.nx σ H) : tNext D σ H := h
theorem un_seq {a b : TS} {D : Ends} {σ : L2.St} {H : Hp} (h : a { D with nx := b D } σ H) : tSeq a b D σ H := h
theorem tLc_gen {wi : TI} {g : TG} {tt : TT} {te : TE} {vs : List Nat} {σ : L2.St} {H : Hp} {Q : VK} (Post : Addr → Hp → Prop) (h1 : ∀ Q : VK, (∀ D H', Post D H' → Q (.ref D) H') → tLc wi g tt te vs σ H Q) (h2 : ∀ D H', Post D H' → Q (.ref D) H') : tLc wi g tt te vs σ H Q := h1 Q h2
theorem asg_lc {wi : TI} {g : TG} {tt : TT} {te : TE} {vs : List Nat} {σ : L2.St} {H : Hp} {D : Ends} {i : Nat} (Post : Addr → Hp → Prop) (h1 : ∀ Q : VK, (∀ D H', Post D H' → Q (.ref D) H') → tLc wi g tt te vs σ H Q) (h2 : ∀ d H', Post d H' → D.nx (σ.set i (some (.ref d))) H') : tAsg (tLc wi g tt te vs) (gName i) D σ H := h1 _ h2
end Mw

set_option Elab.async false
set_option linter.all false
set_option maxRecDepth 100000
set_option maxHeartbeats 4000000
/-! MwM2: what the program's reader has eaten, and what it has made. -/
namespace Mw
open PySem PySem.Spec L2
open SX (S S_cat S_len S_inj)
def wt (c : Nat) : Int := if c = 123 then 2 else if c = 125 then -2 else if c = 39 then 1 else if c = 170 then -26 else 0
def wS : List Nat → Int
  | [] => 0
  | c :: r => wt c + wS r
theorem wS_append : ∀ u t : List Nat, wS (u ++ t) = wS u + wS t
  | [], t => by simp [wS]
  | c :: u, t => by simp [wS, wS_append u t]; omega
/-- no beginning of r weighs more than n -/
def Dep (r : List Nat) (n : Int) : Prop := ∀ u t, r = u ++ t → wS u ≤ n
/-- t is what is left of r; what was eaten weighs k at the least -/
def Eats (k : Int) (r t : List Nat) : Prop := ∃ u, r = u ++ t ∧ k ≤ wS u
theorem Eats.refl (r : List Nat) : Eats 0 r r := ⟨[], rfl, by simp [wS]⟩
theorem Eats.trans {a b : Int} {r s t : List Nat} (h : Eats a r s) (g : Eats b s t) : Eats (a + b) r t := by
  obtain ⟨u, rfl, hu⟩ := h
  obtain ⟨v, rfl, hv⟩ := g
  exact ⟨u ++ v, by rw [List.append_assoc], by rw [wS_append]; omega⟩
theorem Eats.mono {a b : Int} {r t : List Nat} (h : Eats a r t) (hb : b ≤ a) : Eats b r t := let ⟨u, e, k⟩ := h; ⟨u, e, by omega⟩
theorem Eats.cons (c : Nat) (t : List Nat) : Eats (wt c) (c :: t) t := ⟨[c], rfl, by simp [wS]⟩
theorem Eats.le {a : Int} {r t : List Nat} (h : Eats a r t) : t.length ≤ r.length := by
  obtain ⟨u, rfl, _⟩ := h
  simp
theorem Dep.eat {n k : Int} {r t : List Nat} (d : Dep r n) (h : Eats k r t) : Dep t (n - k) := by
  obtain ⟨u, rfl, hu⟩ := h
  rintro v s rfl
  have := d (u ++ v) s (by rw [List.append_assoc])
  rw [wS_append] at this
  omega
theorem Dep.nonneg {n : Int} {r : List Nat} (d : Dep r n) : 0 ≤ n := d [] r rfl
theorem Dep.mono {n m : Int} {r : List Nat} (d : Dep r n) (h : n ≤ m) : Dep r m := fun u t e => Int.le_trans (d u t e) h
theorem wS_zero {u : List Nat} (h : ∀ c ∈ u, wt c = 0) : wS u = 0 := by
  induction u with
  | nil => rfl
  | cons c r ih =>
    rw [wS, h c (List.mem_cons_self ..), ih fun x hx => h x (List.mem_cons_of_mem _ hx)]; rfl
theorem mem_takeWhile {f : Nat → Bool} {c : Nat} : ∀ {l : List Nat}, c ∈ l.takeWhile f → f c = true
  | [], h => by cases h
  | x :: r, h => by
    by_cases z : f x = true
    · rw [List.takeWhile_cons, if_pos z] at h
      rcases List.mem_cons.mp h with rfl | h
      · exact z
      · exact mem_takeWhile h
    · rw [List.takeWhile_cons, if_neg z] at h; cases h
theorem Eats.while {f : Nat → Bool} (h : ∀ c, f c = true → wt c = 0) (r : List Nat) : Eats 0 r (r.dropWhile f) := by
  refine ⟨r.takeWhile f, List.takeWhile_append_dropWhile.symm, ?_⟩
  rw [wS_zero fun c hc => h c (mem_takeWhile hc)]
  exact Int.le_refl _
theorem wt_let {c : Nat} (h : isLet c = true) : wt c = 0 := by
  unfold isLet at h
  simp only [Bool.and_eq_true, decide_eq_true_eq] at h
  unfold wt
  rw [if_neg (by omega), if_neg (by omega), if_neg (by omega), if_neg (by omega)]
theorem wt_dig {c : Nat} (h : isDig c = true) : wt c = 0 := by
  unfold isDig at h
  simp only [Bool.and_eq_true, decide_eq_true_eq] at h
  unfold wt
  rw [if_neg (by omega), if_neg (by omega), if_neg (by omega), if_neg (by omega)]
theorem wt_sp {c : Nat} (h : isSp c = true) : wt c = 0 := by
  unfold isSp at h
  simp only [Bool.or_eq_true, decide_eq_true_eq] at h
  unfold wt
  rw [if_neg (by omega), if_neg (by omega), if_neg (by omega), if_neg (by omega)]
theorem eats_skip (r : List Nat) : Eats 0 r (skip r) := Eats.while (fun _ h => wt_sp h) r
theorem eats_expect {c : Nat} {r t : List Nat} (h : pExpect c r = some t) : Eats (wt c) r t ∧ t.length < r.length := by
  unfold pExpect at h
  split at h
  · cases h
  · next x s e =>
    split at h
    · next e2 =>
      cases h; subst e2
      have := eats_skip r
      rw [e] at this
      have z := this.le
      simp only [List.length_cons] at z
      refine ⟨?_, by omega⟩
      have := this.trans (Eats.cons x t)
      rwa [Int.zero_add] at this
    · cases h
theorem eats_word {r x t : List Nat} (h : pWord r = some (x, t)) : Eats 0 r t ∧ okName x ∧ t.length < r.length := by
  unfold pWord at h
  split at h
  · next e =>
    cases h
    have e1 := eats_skip r
    have e2 := Eats.while (fun _ h => wt_let h) (skip r)
    refine ⟨e1.trans e2, ⟨e.1, e.2, ?_⟩, ?_⟩
    · rw [List.all_eq_true]; exact fun c hc => mem_takeWhile hc
    · have h1 := e1.le
      have h2 : ((skip r).takeWhile isLet).length + ((skip r).dropWhile isLet).length = (skip r).length := by
        rw [← List.length_append, List.takeWhile_append_dropWhile]
      omega
  · cases h
theorem eats_nat {most n : Nat} {r t : List Nat} (h : pNat most r = some (n, t)) : Eats 0 r t ∧ n ≤ most := by
  unfold pNat at h
  split at h
  · cases h
  · next e =>
    cases h
    refine ⟨Eats.while (fun _ h => wt_dig h) r, ?_⟩
    unfold badNat at e
    simp only [not_or] at e
    omega
theorem eats_prefix {p r : List Nat} (h : p <+: r) : Eats (wS p) r (r.drop p.length) := by
  obtain ⟨t, rfl⟩ := h
  exact ⟨p, by simp, Int.le_refl _⟩
theorem eats_off {n : Nat} {r t : List Nat} (h : pOff r = some (n, t)) : Eats 0 r t ∧ n ≤ 9 := by
  unfold pOff at h
  split at h
  · next e =>
    obtain ⟨h1, h2⟩ := eats_nat h
    have h3 := (eats_skip r).trans (eats_prefix e)
    exact ⟨h3.trans h1, h2⟩
  · cases h
    exact ⟨eats_skip r, by omega⟩
theorem eats_key {pl : Bool} {k : Ky} {r t : List Nat} (h : pKey pl r = some (k, t)) : Eats 0 r t ∧ (k ≠ .wd tOth → okK pl k) := by
  unfold pKey at h
  split at h
  · next e =>
    cases hn : pNat 999 (skip r).tail with
    | none => rw [hn] at h; cases h
    | some q =>
      obtain ⟨n, s⟩ := q
      rw [hn] at h
      cases h
      obtain ⟨h1, h2⟩ := eats_nat hn
      refine ⟨?_, fun _ => ⟨e.1, h2⟩⟩
      have h3 := eats_skip r
      cases hs : skip r with
      | nil => rw [hs] at e; simp at e
      | cons c s2 =>
        rw [hs] at h1 h3 e
        have e2 : c = 61 := by simpa using e.2
        subst e2
        exact (h3.trans (Eats.cons 61 s2)).trans h1
  · split at h
    · cases h
    · next x s e =>
      split at h
      · cases h
      · next e2 =>
        cases h
        obtain ⟨h1, h2, _⟩ := eats_word e
        refine ⟨(eats_skip r).trans h1, fun hk => ⟨h2, fun z => hk (by rw [z]), fun z => ?_⟩⟩
        apply Classical.byContradiction
        intro hc
        exact e2 ⟨z, hc, fun w => hk (by rw [w])⟩
theorem eats_esc {c : Nat} {cs r t : List Nat} (h : pEsc cs r = some (c, t)) (hc : ∀ x ∈ cs, x ∈ escs) : Eats 0 r t ∧ c ∈ escs ∧ t.length < r.length := by
  induction cs with
  | nil => cases h
  | cons x cs ih =>
    unfold pEsc at h
    split at h
    · next e =>
      cases h
      have hx := hc c (List.mem_cons_self ..)
      have h0 : 0 ≤ wS (fmtC c) ∧ 0 < (fmtC c).length := by
        have : c = 123 ∨ c = 125 ∨ c = 35 ∨ c = 39 := by simpa [escs] using hx
        rcases this with rfl | rfl | rfl | rfl <;> decide
      refine ⟨(eats_prefix e).mono h0.1, hx, ?_⟩
      have := e.length_le
      rw [List.length_drop]; omega
    · exact ih h fun y hy => hc y (List.mem_cons_of_mem _ hy)
theorem wfC_append (i pl : Bool) : ∀ a b : List (Ky × List Nd), wfC i pl a → wfC i pl b → wfC i pl (a ++ b)
  | [], b, _, h => h
  | (k, m) :: r, b, h, h' => by
    unfold wfC at h
    show wfC i pl ((k, m) :: (r ++ b))
    unfold wfC
    exact ⟨h.1, h.2.1, wfC_append i pl r b h.2.2 h'⟩
def PM (i : Bool) (r : List Nat) (m : List Nd) (t : List Nat) : Prop := Eats 0 r t ∧ wfM i m ∧ (t = [] ∨ ∃ s, t = 125 :: s)
def PN (i : Bool) (r : List Nat) (x : Nd) (t : List Nat) : Prop := Eats 0 r t ∧ wfN i x ∧ t.length < r.length
def PC (i : Bool) (r : List Nat) (x : Nd) (t : List Nat) : Prop := Eats (-2) r t ∧ wfN i x ∧ t.length < r.length
theorem parsed (n : Nat) : (∀ i r m t, r.length ≤ n → pMsg i r = some (m, t) → PM i r m t) ∧ (∀ i r x t, r.length ≤ n → pNode i r = some (x, t) → PN i r x t) ∧
    (∀ i pl nm off acc r x t, r.length ≤ n → okName nm → off ≤ 9 → (pl = false → off = 0) → wfC (pl || i) pl acc → (acc.map (·.1)).Nodup → pCho i pl nm off acc r = some (x, t) → PC i r x t) := by
  induction n using Nat.strongRecOn with
  | _ n ih =>
  have cho : ∀ i pl nm off acc r x t, r.length ≤ n → okName nm → off ≤ 9 → (pl = false → off = 0) → wfC (pl || i) pl acc → (acc.map (·.1)).Nodup → pCho i pl nm off acc r = some (x, t) → PC i r x t := by
    intro i pl nm off acc r x t hr hnm ho ho2 hacc hnd h
    unfold pCho at h
    split at h
    · cases h
    · next k r1 e1 =>
      obtain ⟨k1, k2⟩ := eats_key e1
      split at h
      · cases h
      · next hk =>
        split at h
        · cases h
        · next r2 e2 =>
          obtain ⟨x1, x2⟩ := eats_expect e2
          split at h
          · next hlt =>
            split at h
            · cases h
            · next m r3 e3 =>
              obtain ⟨m1, m2, _⟩ := (ih r2.length (by omega)).1 _ _ _ _ (Nat.le_refl _) e3
              split at h
              · cases h
              · next r4 e4 =>
                obtain ⟨y1, y2⟩ := eats_expect e4
                have E : Eats 0 r r4 := (((k1.trans x1).trans m1).trans y1).mono (by decide)
                split at h
                · next hoth =>
                  split at h
                  · cases h
                  · next r5 e5 =>
                    cases h
                    obtain ⟨z1, z2⟩ := eats_expect e5
                    refine ⟨(E.trans z1).mono (by decide), ?_, ?_⟩
                    · unfold wfN; exact ⟨hnm, ho, ho2, hacc, hnd, m2⟩
                    · have := E.le; omega
                · next hoth =>
                  split at h
                  · next hlt2 =>
                    have hc : wfC (pl || i) pl (acc ++ [(k, m)]) := wfC_append _ _ _ _ hacc (by unfold wfC; exact ⟨k2 hoth, m2, by unfold wfC; trivial⟩)
                    have hn2 : ((acc ++ [(k, m)]).map (·.1)).Nodup := by
                      rw [List.map_append, List.nodup_append]
                      refine ⟨hnd, by simp, ?_⟩
                      intro a ha b hb
                      simp at hb
                      subst hb
                      exact fun z => hk (z ▸ ha)
                    obtain ⟨w1, w2, w3⟩ := (ih r4.length (by omega)).2.2 _ _ _ _ _ _ _ _ (Nat.le_refl _) hnm ho ho2 hc hn2 h
                    exact ⟨(E.trans w1).mono (by decide), w2, by omega⟩
                  · cases h
          · cases h
  have node : ∀ i r x t, r.length ≤ n → pNode i r = some (x, t) → PN i r x t := by
    intro i r x t hr h
    unfold pNode at h
    split at h
    · cases h
    · next c s =>
      have hlen : (c :: s).length = s.length + 1 := rfl
      split at h
      · next hc =>
        subst hc
        split at h
        · cases h
        · next nm r2 e1 =>
          obtain ⟨a1, a2, a3⟩ := eats_word e1
          split at h
          · cases h
          · next d r3 e2 =>
            have b1 := eats_skip r2
            rw [e2] at b1
            have b2 := b1.le
            simp only [List.length_cons] at b2
            split at h
            · next hd =>
              cases h
              subst hd
              refine ⟨((((Eats.cons 123 s).trans a1).trans b1).trans (Eats.cons 125 t)).mono (by decide), ?_, ?_⟩
              · unfold wfN; exact a2
              · rw [hlen]; omega
            · split at h
              · next hd =>
                subst hd
                split at h
                · cases h
                · next k r4 e3 =>
                  obtain ⟨c1, c2, c3⟩ := eats_word e3
                  split at h
                  · next hk =>
                    split at h
                    · cases h
                    · next r5 e4 =>
                      obtain ⟨d1, d2⟩ := eats_expect e4
                      have E : Eats 2 (123 :: s) r5 := (((((Eats.cons 123 s).trans a1).trans b1).trans (Eats.cons 44 r3)).trans c1 |>.trans d1).mono (by decide)
                      split at h
                      · split at h
                        · cases h
                        · next o r6 e5 =>
                          obtain ⟨f1, f2⟩ := eats_off e5
                          split at h
                          · next hlt =>
                            obtain ⟨w1, w2, w3⟩ := (ih r6.length (by omega)).2.2 _ _ _ _ _ _ _ _ (Nat.le_refl _) a2 f2 (fun z => by cases z) (by unfold wfC; trivial) (by simp) h
                            exact ⟨((E.trans f1).trans w1).mono (by decide), w2, by omega⟩
                          · cases h
                      · split at h
                        · next hlt =>
                          obtain ⟨w1, w2, w3⟩ := (ih r5.length (by omega)).2.2 _ _ _ _ _ _ _ _ (Nat.le_refl _) a2 (by omega) (fun _ => rfl) (by unfold wfC; trivial) (by simp) h
                          exact ⟨(E.trans w1).mono (by decide), w2, by omega⟩
                        · cases h
                  · cases h
              · cases h
      · next hc1 =>
        split at h
        · next hc =>
          cases he : pEsc escs (c :: s) with
          | none => rw [he] at h; cases h
          | some q =>
            obtain ⟨d, u⟩ := q
            rw [he] at h
            cases h
            obtain ⟨h1, h2, h3⟩ := eats_esc he (fun _ z => z)
            refine ⟨h1, ?_, h3⟩
            unfold wfN
            refine ⟨by simp, fun y hy => ?_⟩
            have : y = d := by simpa using hy
            subst this
            have : y = 123 ∨ y = 125 ∨ y = 35 ∨ y = 39 := by simpa [escs] using h2
            unfold okC
            omega
        · next hc2 =>
          split at h
          · next hc =>
            cases h
            refine ⟨(Eats.cons c t).mono ?_, ?_, by simp⟩
            · rw [hc.1]; decide
            · unfold wfN; exact hc.2
          · split at h
            · cases h
            · next hc =>
              cases h
              simp only [not_or, Decidable.not_not] at hc
              refine ⟨(Eats.cons c t).mono ?_, ?_, by simp⟩
              · unfold wt
                have := hc.2.2
                unfold okC at this
                rw [if_neg hc1, if_neg hc.1, if_neg hc2, if_neg (by omega)]
                exact Int.le_refl _
              · unfold wfN
                refine ⟨by simp, fun y hy => ?_⟩
                have : y = c := by simpa using hy
                subst this
                exact hc.2.2
  refine ⟨?_, node, cho⟩
  intro i r m t hr h
  unfold pMsg at h
  split at h
  · cases h
    exact ⟨Eats.refl _, by unfold wfM; trivial, .inl rfl⟩
  · next c s =>
    split at h
    · next hc =>
      cases h
      exact ⟨Eats.refl _, by unfold wfM; trivial, .inr ⟨s, by rw [hc]⟩⟩
    · split at h
      · cases h
      · next x u e =>
        obtain ⟨n1, n2, n3⟩ := node _ _ _ _ hr e
        split at h
        · next hlt =>
          split at h
          · cases h
          · next m' v e2 =>
            cases h
            obtain ⟨m1, m2, m3⟩ := (ih u.length (by omega)).1 _ _ _ _ (Nat.le_refl _) e2
            exact ⟨n1.trans m1, by unfold wfM; exact ⟨n2, m2⟩, m3⟩
        · next hz => exact absurd n3 hz
theorem parsed_msg {i : Bool} {r : List Nat} {m : List Nd} {t : List Nat} (h : pMsg i r = some (m, t)) : PM i r m t := (parsed r.length).1 _ _ _ _ (Nat.le_refl _) h
theorem parsed_node {i : Bool} {r : List Nat} {x : Nd} {t : List Nat} (h : pNode i r = some (x, t)) : PN i r x t := (parsed r.length).2.1 _ _ _ _ (Nat.le_refl _) h
end Mw

set_option Elab.async false
set_option linter.all false
set_option maxRecDepth 100000
set_option maxHeartbeats 4000000
/-! MwRd5: choice. -/
namespace Mw
open PySem PySem.Spec L2
open SX (S S_cat S_len S_inj)
theorem pCho_eq (i pl : Bool) (n : List Nat) (off : Nat) (acc : List (Ky × List Nd)) (r : List Nat) : pCho i pl n off acc r = match pKey pl r with
  | none => none
  | some (k, r1) => if k ∈ acc.map (·.1) then none else
    match pExpect 123 r1 with
    | none => none
    | some r2 => match pMsg (pl || i) r2 with
      | none => none
      | some (m, r3) => match pExpect 125 r3 with
        | none => none
        | some r4 => if k = .wd tOth then (match pExpect 125 r4 with
            | none => none
            | some r5 => some (.cho pl n off acc m, r5))
          else pCho i pl n off (acc ++ [(k, m)]) r4 := by
  conv => lhs; unfold pCho
  cases h1 : pKey pl r with
  | none => rfl
  | some q =>
    obtain ⟨k, r1⟩ := q
    have k1 := (eats_key h1).1.le
    dsimp only
    by_cases hk : k ∈ acc.map (·.1)
    · rw [if_pos hk, if_pos hk]
    · rw [if_neg hk, if_neg hk]
      cases h2 : pExpect 123 r1 with
      | none => rfl
      | some r2 =>
        have k2 := (eats_expect h2).2
        dsimp only
        rw [dif_pos (by omega)]
        cases h3 : pMsg (pl || i) r2 with
        | none => rfl
        | some q =>
          obtain ⟨m, r3⟩ := q
          have k3 := (parsed_msg h3).1.le
          dsimp only
          cases h4 : pExpect 125 r3 with
          | none => rfl
          | some r4 =>
            have k4 := (eats_expect h4).2
            dsimp only
            by_cases hw : k = .wd tOth
            · rw [if_pos hw, if_pos hw]; all_goals rfl
            · rw [if_neg hw, if_neg hw, dif_pos (by omega)]
def pChoice (i pl : Bool) (n r : List Nat) : Option (Nd × List Nat) :=
  match pExpect 44 r with
  | none => none
  | some r5 => match (if pl = true then pOff r5 else some (0, r5)) with
    | none => none
    | some (o, r6) => pCho i pl n o [] r6
theorem encC_get : ∀ (acc : List (Ky × List Nd)) (i : Nat), (encC acc)[i]? = (acc[i]?).map fun q => PyData.tuple [encK q.1, .list (encM q.2)]
  | [], i => by simp [encC]
  | (k, m) :: r, 0 => by simp [encC]
  | (k, m) :: r, i + 1 => by simp [encC, encC_get r i]
theorem encC_len : ∀ acc : List (Ky × List Nd), (encC acc).length = acc.length
  | [] => rfl
  | (k, m) :: r => by simp [encC, encC_len r]
theorem encC_append : ∀ a b : List (Ky × List Nd), encC (a ++ b) = encC a ++ encC b
  | [], b => rfl
  | (k, m) :: r, b => by simp [encC, encC_append r b]
theorem Rp.key_inv {G : Hp} {v : V} {k : Ky} (h : Rp G v (encK k)) : v = encV k := by
  cases k with
  | ix i => exact h.int_inv
  | wd w => exact h.str_inv
theorem Rp.key {G : Hp} (k : Ky) : Rp G (encV k) (encK k) := by
  cases k with
  | ix i => exact .int _
  | wd w => exact .str _
theorem encV_other (k : Ky) : (encV k = .str (S tOth)) ↔ k = .wd tOth := by
  cases k with
  | ix i => exact ⟨fun h => (by cases h), fun h => (by cases h)⟩
  | wd w => exact ⟨fun h => (by rw [vs_eq.mp h]), fun h => (by cases h; rfl)⟩
theorem scal_key (k : Ky) (s : Str) : scal (encV k) (.str s) = true := by cases k <;> rfl
def headV (pl : Bool) (n : List Nat) (o : Nat) : List V := if pl = true then [.str (S tPlu), .str (S n), .int o] else [.str (S tSel), .str (S n)]
theorem szOf {n : Nat} (h : n ≤ 1000) : n ≤ sizeLine := by rw [sizeLine_eq]; omega
section
variable {P : Program} {w : World} {K : PySem.W.Frag} {mg : Str → Option Value} {base : Heap}
def spMsg (K : PySem.W.Frag) (N : Int) : Sp := fun vs H Q E => ∃ r dx l G p b i, vs = [.ref r, .bl i] ∧ At K r dx l G H p b ∧ Dep (l.drop p) N ∧
  (∀ m t, pMsg i (l.drop p) = some (m, t) → ∀ G' H' p' v, Gw [r] G H G' H' → At K r dx l G' H' p' b → l.drop p' = t → Rp G' v (.list (encM m)) → Q v H') ∧ (pMsg i (l.drop p) = none → Bad K r G H E)
def spChoice (K : PySem.W.Frag) (N : Int) : Sp := fun vs H Q E => ∃ r dx l G p b pl n, vs = [.ref r, .str (S n), .str (S (tKind pl))] ∧ At K r dx l G H p b ∧ Dep (l.drop p) N ∧
  (∀ x t, pChoice b pl n (l.drop p) = some (x, t) → ∀ G' H' p' v, Gw [r] G H G' H' → At K r dx l G' H' p' b → l.drop p' = t → Rp G' v (encN x) → Q v H') ∧ (pChoice b pl n (l.drop p) = none → Bad K r G H E)
/-- the keys of the cases so far -/
theorem keys_of {c : Addr} {vs : List V} {acc : List (Ky × List Nd)} {G H : Hp} {σ : L2.St} {Q : VK} (s : Same G H) (hc : H c = some (.lst vs)) (rp : RpL G vs (encC acc)) (hl : acc.length ≤ 100000)
    (hσ : ∃ a0 a1 a2 a3 a5 a6 a7 a8, σ = [a0, a1, a2, a3, some (.ref c), a5, a6, a7, a8])
    (q : ∀ D, H D = none → Q (.ref D) (upd H D (.lst ((acc.map (·.1)).map encV)))) :
    tLc (iList K (tVar 4)) (gTup K 2 (gCons (gName 8) (gCons (gName 7) gNil))) tYes (tVar 8) [8, 7] σ H Q := by
  obtain ⟨a0, a1, a2, a3, a5, a6, a7, a8, rfl⟩ := hσ
  refine ⟨_, rfl, c, rfl, ⟨vs, SqL.of hc⟩, lc_over (runs_l (xs := vs)) (fun D i H' => H D = none ∧ H' = upd H D (.lst (((acc.map (·.1)).take i).map encV))) (fun D i H' h => ?_) (fun D hD => ⟨hD, rfl⟩) (fun D i x H' hD hx h => ?_) (fun D H' hD h => ?_)⟩
  · obtain ⟨hD, rfl⟩ := h
    exact SqL.of (by rw [upd_ne (ne_of_none hc hD)]; exact hc)
  · obtain ⟨_, rfl⟩ := h
    obtain ⟨d, hd, rx⟩ := rp.get hx
    rw [encC_get] at hd
    cases hq : acc[i]? with
    | none => rw [hq] at hd; cases hd
    | some km =>
      rw [hq] at hd
      cases hd
      obtain ⟨a, ys, rfl, ha, ry⟩ := rx.tup_inv
      obtain ⟨y1, ys1, rfl, r1, ry1⟩ := ry.cons_inv
      obtain ⟨y2, ys2, rfl, r2, ry2⟩ := ry1.cons_inv
      obtain rfl := ry2.nil_inv
      obtain rfl := r1.key_inv
      have hil : i < acc.length := (List.getElem?_eq_some_iff.mp hq).1
      have ek : (acc.map (·.1))[i]? = some km.1 := by rw [List.getElem?_map, hq]; rfl
      refine ⟨a, _, rfl, SqT.of (by rw [upd_ne (ne_of_none (s _ _ ha) hD)]; exact s _ _ ha), rfl, _, _, rfl, _, _, rfl, rfl, rfl, _, rfl, _, upd_same, ?_, hD, ?_⟩
      · rw [List.length_map, List.length_take, List.length_map, sizeLine_eq]; omega
      · rw [upd_upd, take_snoc ek, List.map_append]; rfl
  · obtain ⟨_, rfl⟩ := h
    have e : vs.length = (acc.map (·.1)).length := by rw [rp.length, encC_len, List.length_map]
    rw [e, List.take_length]
    exact q D hD
end
end Mw

set_option Elab.async false
set_option linter.all false
set_option maxRecDepth 100000
set_option maxHeartbeats 4000000
/-! MwRd6: choice, walked. -/
namespace Mw
open PySem PySem.Spec L2
open SX (S S_cat S_len S_inj)
section
variable {P : Program} {w : World} {K : PySem.W.Frag} {mg : Str → Option Value} {base : Heap}
theorem enc_cho {G : Hp} {c pr : Addr} {pl : Bool} {n : List Nat} {o : Nat} {acc : List (Ky × List Nd)} {ot : List Nd} {mv : V} {vs : List V} (hc : G c = some (.lst vs)) (rv : RpL G vs (encC acc)) (rm : Rp G mv (.list (encM ot)))
    (hp : G pr = some (.tup (headV pl n o ++ [.ref c, mv]))) : Rp G (.ref pr) (encN (.cho pl n o acc ot)) := by
  have rc : Rp G (.ref c) (.list (encC acc)) := .lst hc rv
  cases pl with
  | true => exact .tup hp (.cons (.str _) (.cons (.str _) (.cons (.int _) (.cons rc (.cons rm .nil)))))
  | false => exact .tup hp (.cons (.str _) (.cons (.str _) (.cons rc (.cons rm .nil))))
theorem inside_arg (T : Tx K mg) {r dx : Addr} {l : List Nat} {G H : Hp} {p : Nat} {b pl : Bool} {σ : L2.St} {Q : List V → Hp → Prop} (h0 : σ[0]? = some (some (.ref r))) (h2 : σ[2]? = some (some (.str (S (tKind pl))))) (a : At K r dx l G H p b) (q : Q [.bl (pl || b)] H) :
    tCons (tOrV (tOp rEq (tVar 2) (tC (.str (S tPlu)))) (tFld K (tVar 0) "inside")) tNil σ H Q := by
  refine ⟨_, h2, rfl, _, rfl, ?_⟩
  cases pl with
  | true => exact iteS (fun _ => q) (fun e => absurd rfl e)
  | false => exact iteS (fun e => absurd e (by decide)) (fun _ => ⟨_, h0, r, _, _, _, _, rfl, a.hr, T.cls, T.no_inside, rfl, q⟩)
theorem same_upd {G : Hp} {c : Addr} {o : HO} (h : G c = none) : Same G (upd G c o) := fun x u hx => by rw [upd_ne (ne_of_none hx h)]; exact hx
theorem ok_choice (T : Tx K mg) (X : Ex P K mg) {km : Nat} {N : Int} (hkm : 4 ≤ km) (c_message : MetX P w K mg base km (cR K) "message" (spMsg K (N - 2))) : MetX P w K mg base (km + 1) (cR K) "choice" (spChoice K N) := by
  refine metX_of T.d_Reader_choice T.cls T.m_choice (fun _ _ _ _ _ _ us hl => match us, hl with | [_, _, _], _ => rfl) sc_Reader_choice (fun vs H Q E h => ?_) (fun cdv A outer s H vs Q E hr h => ?_)
  · obtain ⟨r, dx, l, G, p, b, pl, n, rfl, _⟩ := h; rfl
  obtain ⟨r, dx, l, G, p, b, pl, n, rfl, a, dep, q0, q1⟩ := h
  have tk : Takes (cxOf (L2.CX P w) P w K mg base N_Reader_choice "Reader.choice" (defScope s_Reader_choice) (He.ma K (cR K) "choice") cdv A outer s H E) (fun cls d _ H => E cls d H) := takes_of rfl rfl rfl rfl
  have hp : PassesOwn (model P w) (cxOf (L2.CX P w) P w K mg base N_Reader_choice "Reader.choice" (defScope s_Reader_choice) (He.ma K (cR K) "choice") cdv A outer s H E).A (cxOf (L2.CX P w) P w K mg base N_Reader_choice "Reader.choice" (defScope s_Reader_choice) (He.ma K (cR K) "choice") cdv A outer s H E).env (cxOf (L2.CX P w) P w K mg base N_Reader_choice "Reader.choice" (defScope s_Reader_choice) (He.ma K (cR K) "choice") cdv A outer s H E).xe := passes_of rfl
  have c_expect : MetX P w K mg base 2 (cR K) "expect" (spExpect K) := ok_expect T X
  have c_offset : MetX P w K mg base 3 (cR K) "offset" (spOff K) := ok_offset T X
  have c_key : MetX P w K mg base 4 (cR K) "key" (spKey K) := ok_key T X
  refine ⟨_, (pss_cons (ps_expr (pe_mx c_expect hr (by omega) tk (pv 0) (pa_cons (pe_s [44]) pa_nil)))
    (pss_cons (ps_set (i := 3) sc_Reader_choice.nd rfl (Or.inl rfl) (pe_tup (pa_cons (pv 2) (pa_cons (pv 1) pa_nil))))
    (pss_cons (ps_if (pt_cmpR op_eq (pv 2) (pe_gs T.s_PLURAL) (nomark _))
      (pss_one (ps_set (i := 3) sc_Reader_choice.nd rfl (Or.inl rfl) (pe_tup (pa_cons (pv 2) (pa_cons (pv 1) (pa_cons (pe_mx0 c_offset hr (by omega) tk (pv 0)) pa_nil))))))
      pss_nil)
    (pss_cons (ps_set (i := 4) sc_Reader_choice.nd rfl (Or.inl rfl) (pe_lst pa_nil))
    (pss_one (ps_while hp (pt_val pe_bl)
      (pss_cons (ps_asg (pe_mx c_key hr (by omega) tk (pv 0) (pa_cons (pv 2) pa_nil)) (pg_tup rfl (pgs_cons (pg_name (i := 5) sc_Reader_choice.nd rfl (Or.inl rfl)) (pgs_cons (pg_name (i := 6) sc_Reader_choice.nd rfl (Or.inl rfl)) pgs_nil))))
      (pss_cons (ps_if (pt_cmpR op_in_seq (pv 5) (pe_lc (own := [("other", 8), ("message", 7)]) (g := gTup K 2 (gCons (gName 8) (gCons (gName 7) gNil))) (tt := tYes) rfl sc_Reader_choice.nd (pi_list (pv 4)) (blkOk_by (own := [("other", 8), ("message", 7)]) (N := N_Reader_choice) (sc := defScope s_Reader_choice) (by decide +kernel)) (fun _ _ _ _ _ => (pg_tup rfl (pgs_cons (pg_name (i := 8) sc_Reader_choice.nd rfl (Or.inl rfl)) (pgs_cons (pg_name (i := 7) sc_Reader_choice.nd rfl (Or.inl rfl)) pgs_nil)))) (fun _ _ _ _ _ => pts_nil) (fun _ _ _ _ _ => (pv 8))) rfl)
        (pss_one (ps_raise rfl tk (pmk_tok X.tok hr (pa_cons (pv 6) pa_nil))))
        pss_nil)
      (pss_cons (ps_expr (pe_mx c_expect hr (by omega) tk (pv 0) (pa_cons (pe_s [123]) pa_nil)))
      (pss_cons (ps_set (i := 7) sc_Reader_choice.nd rfl (Or.inl rfl) (pe_mx c_message hr (by omega) tk (pv 0) (pa_cons (pe_or (pe_cmpR op_eq (pv 2) (pe_gs T.s_PLURAL) (nomark _)) (pe_one (pe_fld (pv 0) rfl))) pa_nil)))
      (pss_cons (ps_expr (pe_mx c_expect hr (by omega) tk (pv 0) (pa_cons (pe_s [125]) pa_nil)))
      (pss_cons (ps_if (pt_cmpR op_eq (pv 5) (pe_gs T.s_OTHER) (nomark _))
        (pss_cons (ps_expr (pe_mx c_expect hr (by omega) tk (pv 0) (pa_cons (pe_s [125]) pa_nil)))
        (pss_one (ps_ret (pe_op op_catT (pv 3) (pe_tup (pa_cons (pv 4) (pa_cons (pv 7) pa_nil)))))))
        pss_nil)
      (pss_one (ps_expr (pe_bm PySem.F.plainAttrs_list PySem.F.slot_list_append PySem.F.type_list_append mt_append (pv 4) (pa_cons (pe_tup (pa_cons (pv 5) (pa_cons (pv 7) pa_nil))) pa_nil)))))))))))))))), ?_⟩
  refine ⟨_, rfl, r, _, _, rfl, a.hr, rfl, r, dx, l, G, p, b, 44, rfl, a, fun r5 e5 H1 p1 g1 a1 e1 => ?_, fun e5 => q1 (by unfold pChoice; rw [e5])⟩
  have dep1 : Dep (l.drop p1) N := by
    rw [e1]; exact (dep.eat (eats_expect e5).1).mono (by show N - 0 ≤ N; omega)
  refine ⟨_, rfl, _, rfl, by show 2 ≤ sizeLine; exact szOf (by decide), fun h1 hh1 => ?_⟩
  have ga : Gw [] G H1 G _ := Gw.allocM (o := HO.tup [V.str (S (tKind pl)), V.str (S n)]) a1.sm hh1
  have loop : ∀ (hd : Addr) (G3 H3 : Hp) (p3 o : Nat), Gw [r] G H G3 H3 → At K r dx l G3 H3 p3 b → G3 hd = some (.tup (headV pl n o)) → (pl = false → o = 0) → Dep (l.drop p3) N → pChoice b pl n (l.drop p) = pCho b pl n o [] (l.drop p3) →
      tSeq (tAsg (tLst tNil) (gName 4)) (tWhile (tB (tC (.bl true))) (tSeq (tAsg (tMeth (cR K) "key" (spKey K) [] E (tVar 0) (tCons (tVar 2) tNil)) (gTup K 2 (gCons (gName 5) (gCons (gName 6) gNil))))
        (tSeq (tIfS (tTest (tOp (rIn K false) (tVar 5) (tLc (iList K (tVar 4)) (gTup K 2 (gCons (gName 8) (gCons (gName 7) gNil))) tYes (tVar 8) [8, 7]))) (fun _ σ H => tTok (cTok K) (tCons (tVar 6) tNil) σ H fun cls d H' => E cls d H') tNext)
        (tSeq (tDrop (tMeth (cR K) "expect" (spExpect K) [] E (tVar 0) (tCons (tC (.str (S [123]))) tNil)))
        (tSeq (tAsg (tMeth (cR K) "message" (spMsg K (N - 2)) [] E (tVar 0) (tCons (tOrV (tOp rEq (tVar 2) (tC (.str (S tPlu)))) (tFld K (tVar 0) "inside")) tNil)) (gName 7))
        (tSeq (tDrop (tMeth (cR K) "expect" (spExpect K) [] E (tVar 0) (tCons (tC (.str (S [125]))) tNil)))
        (tSeq (tIfS (tTest (tOp rEq (tVar 5) (tC (.str (S tOth))))) (tSeq (tDrop (tMeth (cR K) "expect" (spExpect K) [] E (tVar 0) (tCons (tC (.str (S [125]))) tNil))) (tRet (tOp (rCatT K) (tVar 3) (tTup (tCons (tVar 4) (tCons (tVar 7) tNil)))))) tNext)
        (tDrop (tBM K "list" rAppend (tVar 4) (tCons (tTup (tCons (tVar 5) (tCons (tVar 7) tNil))) tNil))))))))))
        { nx := fun _ H' => Q .non H', rt := Q } [some (.ref r), some (.str (S n)), some (.str (S (tKind pl))), some (.ref hd), none, none, none, none, none] H3 := by
    intro hd G3 H3 p3 o g3 a3 hhd ho dep3 hpc
    refine ⟨by show 0 ≤ sizeLine; exact Nat.zero_le _, fun c hc => ?_⟩
    have hcr : c ≠ r := fun z => a3.there (z ▸ hc)
    have gc0 : Gw [] G3 H3 G3 _ := Gw.allocM (o := HO.lst []) a3.sm hc
    have ns : c ∉ [r] := by simp [hcr]
    have sub : ∀ x ∈ [r], x ∈ [c, r] := fun x hx => List.mem_cons_of_mem _ hx
    let Wl : Nat → L2.St → Hp → Prop := fun m σ H' => ∃ G' p' acc vs v5 v6 v7 v8, σ = [some (.ref r), some (.str (S n)), some (.str (S (tKind pl))), some (.ref hd), some (.ref c), v5, v6, v7, v8] ∧ Gw [c, r] G3 (upd H3 c (.lst [])) G' H' ∧ At K r dx l G' H' p' b ∧
      H' c = some (.lst vs) ∧ RpL G' vs (encC acc) ∧ pChoice b pl n (l.drop p) = pCho b pl n o acc (l.drop p') ∧ Dep (l.drop p') N ∧ acc.length ≤ p' ∧ m = l.length - p'
    refine ⟨Wl, ⟨l.length - p3, G3, p3, [], [], none, none, none, none, rfl, Gw.refl gc0.gh, ⟨gc0.gh, a3.gr, gc0.same _ _ a3.hr, a3.hp, a3.hl⟩, upd_same, .nil, hpc, dep3, Nat.zero_le _, rfl⟩, ?_⟩
    rintro m σ H4 ⟨G4, p4, acc, vs, v5, v6, v7, v8, rfl, g4, a4, hc4, rv, hpc4, dep4, hlen, rfl⟩
    refine ⟨true, rfl, iteT ⟨fun σ' H' => ∃ m', m' < l.length - p4 ∧ Wl m' σ' H', fun _ _ z => z, ?_⟩⟩
    have bad4 : ∀ {G' H'}, Gw [c, r] G3 (upd H3 c (.lst [])) G' H' → pChoice b pl n (l.drop p) = none → Bad K r G' H' E := fun g z => (q1 z).on (g3.trans (Gw.drop a3.sm hc g))
    have hacc : acc.length ≤ 100000 := Nat.le_trans hlen (Nat.le_trans a4.hp a4.hl)
    refine ⟨_, rfl, r, _, _, rfl, a4.hr, rfl, _, rfl, r, dx, l, G4, p4, b, pl, rfl, a4, fun k t e5 kt H5 p5 p0 g5 a5 e5' hp0 hkt => ?_, fun e5 => bad4 g4 (by rw [hpc4, pCho_eq, e5])⟩
    subst e5'
    have E5 := (eats_key e5).1
    have w5 := g4.trans (g5.mono sub)
    refine ⟨_, _, rfl, SqT.of hkt, rfl, _, _, rfl, _, _, rfl, rfl, ?_⟩
    have hc5 : H5 c = some (.lst vs) := g5.keep c _ ns hc4
    refine ⟨_, rfl, keys_of a5.sm hc5 rv hacc ⟨_, _, _, _, _, _, _, _, rfl⟩ (fun D hD => ?_)⟩
    refine ⟨D, _, rfl, .inl (SqL.of upd_same), flat_encV k, all_encV _, _, rfl, ?_⟩
    rw [in_encV]
    have g6 : Gw [] G4 H5 G4 _ := Gw.allocM (o := HO.lst ((acc.map (·.1)).map encV)) a5.sm hD
    have w6 := w5.trans g6.nil
    refine iteD (fun hk => ?_) (fun hk => ?_)
    · exact ⟨_, rfl, p0, rfl, by omega, fun d hd => bad4 w6 (by rw [hpc4, pCho_eq, e5]; dsimp only; rw [if_pos hk]) _ _ G4 _ X.aT (Gw.allocM g6.gh hd)⟩
    have a6 : At K r dx l G4 (upd H5 D (.lst ((acc.map (·.1)).map encV))) p5 b := ⟨g6.gh, a4.gr, g6.same _ _ a5.hr, a5.hp, a5.hl⟩
    have hc6 := g6.same _ _ hc5
    refine ⟨_, rfl, r, _, _, rfl, a6.hr, rfl, r, dx, l, G4, p5, b, 123, rfl, a6, fun r2 e6 H7 p7 g7 a7 e7 => ?_, fun e6 => bad4 w6 (by rw [hpc4, pCho_eq, e5]; dsimp only; rw [if_neg hk, e6])⟩
    subst e7
    have E7 := E5.trans (eats_expect e6).1
    have w7 := w6.trans (g7.mono sub)
    have hc7 := g7.keep c _ ns hc6
    have dep7 : Dep (l.drop p7) (N - 2) := (dep4.eat E7).mono (by show N - (0 + 2) ≤ N - 2; omega)
    refine ⟨_, rfl, r, _, _, rfl, a7.hr, rfl, inside_arg T rfl rfl a7 ⟨r, dx, l, G4, p7, b, _, rfl, a7, dep7, fun m t3 e8 G8 H8 p8 mv g8 a8 e8' rm => ?_, fun e8 => bad4 w7 (by rw [hpc4, pCho_eq, e5]; dsimp only; rw [if_neg hk, e6]; dsimp only; rw [e8])⟩⟩
    subst e8'
    have E8 := E7.trans (parsed_msg e8).1
    have w8 := w7.trans (g8.mono sub)
    have hc8 := g8.keep c _ ns hc7
    refine ⟨_, rfl, r, _, _, rfl, a8.hr, rfl, r, dx, l, G8, p8, b, 125, rfl, a8, fun r4 e9 H9 p9 g9 a9 e9' => ?_, fun e9 => bad4 w8 (by rw [hpc4, pCho_eq, e5]; dsimp only; rw [if_neg hk, e6]; dsimp only; rw [e8]; dsimp only; rw [e9])⟩
    subst e9'
    have E9 : Eats 0 (l.drop p4) (l.drop p9) := (E8.trans (eats_expect e9).1).mono (by decide)
    have w9 := w8.trans (g9.mono sub)
    have hc9 := g9.keep c _ ns hc8
    have hpc9 : pChoice b pl n (l.drop p) = if k = .wd tOth then (match pExpect 125 (l.drop p9) with
        | none => none
        | some r5 => some (.cho pl n o acc m, r5)) else pCho b pl n o (acc ++ [(k, m)]) (l.drop p9) := by
      rw [hpc4, pCho_eq, e5]; dsimp only; rw [if_neg hk, e6]; dsimp only; rw [e8]; dsimp only; rw [e9]; all_goals rfl
    refine ⟨_, rfl, scal_key k _, _, rfl, iteD (fun hk2 => ?_) (fun hk2 => ?_)⟩
    · rw [if_pos ((encV_other k).mp hk2)] at hpc9
      refine ⟨_, rfl, r, _, _, rfl, a9.hr, rfl, r, dx, l, G8, p9, b, 125, rfl, a9, fun r5 e10 H10 p10 g10 a10 e10' => ?_, fun e10 => bad4 w9 (by rw [hpc9, e10])⟩
      have w10 := w9.trans (g10.mono sub)
      have hc10 := g10.keep c _ ns hc9
      have g8c : G8 c = none := w9.none upd_ne_none (by
        cases z : G3 c with
        | none => rfl
        | some u => rw [a3.sm _ _ z] at hc; cases hc)
      have wc : Gw [r] G3 H3 (upd G8 c (.lst vs)) H10 := Gw.close a3.sm hc w10 hc10
      refine ⟨_, rfl, _, rfl, _, rfl, by show 2 ≤ sizeLine; exact szOf (by decide), fun t2 ht2 => ?_⟩
      have gt2 : Gw [] _ H10 _ _ := Gw.allocM (o := HO.tup [V.ref c, mv]) wc.gh ht2
      refine ⟨hd, t2, headV pl n o, _, rfl, rfl, SqT.of (gt2.gh _ _ (wc.gg _ _ hhd)), SqT.of upd_same, ?_, ?_, fun z => (by cases z), fun _ pr hpr => ?_⟩
      · unfold headV; split <;> simp
      · refine szOf ?_
        unfold headV; split
        · show 5 ≤ 1000; decide
        · show 4 ≤ 1000; decide
      · have gp : Gw [] _ _ _ _ := Gw.alloc (o := HO.tup (headV pl n o ++ [V.ref c, mv])) gt2.gh hpr
        have wt := ((g3.trans wc).trans gt2.nil).trans gp.nil
        have s8 : Same G8 (upd G8 c (.lst vs)) := same_upd g8c
        refine q0 (.cho pl n o acc m) r5 (by rw [hpc9, e10]) _ _ p10 (.ref pr) wt ⟨gp.gh, wt.none a.there a.gr, gp.same _ _ (gt2.same _ _ a10.hr), a10.hp, a10.hl⟩ e10' ?_
        exact enc_cho (gp.gg _ _ (by rw [upd_same])) ((rv.same (g8.gg.trans s8)).same gp.gg) ((rm.same s8).same gp.gg) upd_same
    · rw [if_neg (fun z => hk2 ((encV_other k).mpr z))] at hpc9
      refine ⟨_, rfl, .inl ⟨rfl, vs, SqL.of hc9⟩, _, rfl, _, rfl, by show 2 ≤ sizeLine; exact szOf (by decide), fun t ht => ?_⟩
      have gt : Gw [] G8 H9 _ _ := Gw.alloc (o := HO.tup [encV k, mv]) a9.sm ht
      have w10 := w9.trans gt.nil
      have hc10 := gt.same _ _ hc9
      have gc : (upd G8 t (.tup [encV k, mv])) c = none := w10.none upd_ne_none (by
        cases z : G3 c with
        | none => rfl
        | some u => rw [a3.sm _ _ z] at hc; cases hc)
      have gw : Gw [c, r] _ _ _ _ := Gw.write (M := [c, r]) (o := HO.lst (vs ++ [V.ref t])) gt.gh gc (List.mem_cons_self ..)
      have hvl : vs.length = acc.length := by rw [rv.length, encC_len]
      refine ⟨c, vs, _, rfl, rfl, hc10, by rw [hvl, sizeLine_eq]; omega, ?_⟩
      have hlt : (l.drop p9).length < (l.drop p4).length := by
        have h1 := (eats_expect e9).2
        have h2 := E8.le
        omega
      rw [List.length_drop, List.length_drop] at hlt
      refine ⟨l.length - p9, hlt, _, p9, acc ++ [(k, m)], vs ++ [V.ref t], _, _, _, _, rfl, w10.trans gw, ⟨gw.gh, (w10.trans gw).none (some_ne (gc0.same _ _ a3.hr)) a3.gr, (by rw [upd_ne (Ne.symm hcr)]; exact gt.same _ _ a9.hr), a9.hp, a9.hl⟩, upd_same, ?_, hpc9, (dep4.eat E9).mono (by omega), ?_, rfl⟩
      · rw [encC_append]
        exact ((rv.same (g8.gg.trans gt.gg))).snoc (.tup upd_same (.cons (Rp.key k) (.cons (rm.same gt.gg) .nil)))
      · rw [List.length_append]; show acc.length + 1 ≤ p9; omega
  cases pl with
  | true =>
    refine ⟨_, rfl, rfl, _, rfl, iteS (fun _ => ?_) (fun e => absurd rfl e)⟩
    have a2 : At K r dx l G (upd H1 h1 (.tup [V.str (S (tKind true)), V.str (S n)])) p1 b := ⟨ga.gh, a.gr, ga.same _ _ a1.hr, a1.hp, a1.hl⟩
    refine ⟨_, rfl, _, rfl, _, rfl, r, _, _, rfl, a2.hr, rfl, r, dx, l, G, p1, b, rfl, a2, fun o r6 e6 H3 p3 g3 a3 e3 => ?_, fun e6 => ?_⟩
    · refine ⟨by show 3 ≤ sizeLine; exact szOf (by decide), fun h2 hh2 => ?_⟩
      have gb : Gw [] G H3 _ _ := Gw.alloc (o := HO.tup [V.str (S (tKind true)), V.str (S n), V.int o]) a3.sm hh2
      rw [e1] at e6
      refine loop h2 _ _ p3 o (((g1.trans ga.nil).trans g3).trans gb.nil) ⟨gb.gh, (gb.none a3.there a.gr), gb.same _ _ a3.hr, a3.hp, a3.hl⟩ upd_same (fun z => by cases z) ?_ ?_
      · rw [e3]; rw [e1] at dep1; exact (dep1.eat (eats_off e6).1).mono (by omega)
      · unfold pChoice
        rw [e5]; dsimp only; rw [if_pos rfl, e6, e3]
    · refine (q1 ?_).on (g1.trans ga.nil)
      unfold pChoice
      rw [e1] at e6
      rw [e5]; dsimp only; rw [if_pos rfl, e6]
  | false =>
    refine ⟨_, rfl, rfl, _, rfl, iteS (fun e => absurd e (by decide)) (fun _ => ?_)⟩
    have gb : Gw [] G H1 _ _ := Gw.alloc (o := HO.tup [V.str (S (tKind false)), V.str (S n)]) a1.sm hh1
    refine loop h1 _ _ p1 0 (g1.trans gb.nil) ⟨gb.gh, (gb.none a1.there a.gr), gb.same _ _ a1.hr, a1.hp, a1.hl⟩ upd_same (fun _ => rfl) dep1 ?_
    unfold pChoice
    rw [e5]; dsimp only; rw [if_neg (by decide), e1]
end
end Mw

set_option Elab.async false
set_option linter.all false
set_option maxRecDepth 100000
set_option maxHeartbeats 4000000
/-! MwRd7: braces, node. -/
namespace Mw
open PySem PySem.Spec L2
open SX (S S_cat S_len S_inj)
theorem pNode_brace (i : Bool) (s : List Nat) : pNode i (123 :: s) = match pWord s with
  | none => none
  | some (n, r2) => match skip r2 with
    | [] => none
    | d :: r3 => if d = 125 then some (.shw n, r3) else if d = 44 then
        (match pWord r3 with
        | none => none
        | some (k, r4) => if k = tSel ∨ k = tPlu then pChoice i (decide (k = tPlu)) n r4 else none)
      else none := by
  conv => lhs; unfold pNode
  rw [if_pos rfl]
  cases h1 : pWord s with
  | none => rfl
  | some q =>
    obtain ⟨n, r2⟩ := q
    have k1 := (eats_word h1).2.2
    dsimp only
    cases h2 : skip r2 with
    | nil => rfl
    | cons d r3 =>
      have k2 := (eats_skip r2).le
      rw [h2] at k2
      simp only [List.length_cons] at k2
      dsimp only
      by_cases hd : d = 125
      · rw [if_pos hd, if_pos hd]
      · rw [if_neg hd, if_neg hd]
        by_cases hd2 : d = 44
        · rw [if_pos hd2, if_pos hd2]
          cases h3 : pWord r3 with
          | none => rfl
          | some q =>
            obtain ⟨k, r4⟩ := q
            have k3 := (eats_word h3).2.2
            dsimp only
            by_cases hk : k = tSel ∨ k = tPlu
            · rw [if_pos hk, if_pos hk]
              unfold pChoice
              cases h4 : pExpect 44 r4 with
              | none => rfl
              | some r5 =>
                have k4 := (eats_expect h4).2
                dsimp only
                by_cases hp : k = tPlu
                · rw [if_pos hp, if_pos (decide_eq_true hp)]
                  cases h5 : pOff r5 with
                  | none => rfl
                  | some q =>
                    obtain ⟨o, r6⟩ := q
                    have k5 := (eats_off h5).1.le
                    dsimp only
                    rw [dif_pos (by simp only [List.length_cons]; omega), decide_eq_true hp]
                · rw [if_neg hp, if_neg (by simp [hp])]
                  dsimp only
                  rw [dif_pos (by simp only [List.length_cons]; omega), decide_eq_false hp]
            · rw [if_neg hk, if_neg hk]
        · rw [if_neg hd2, if_neg hd2]
theorem pMsg_cons (i : Bool) (c : Nat) (t : List Nat) (h : c ≠ 125) : pMsg i (c :: t) = match pNode i (c :: t) with
    | none => none
    | some (x, u) => match pMsg i u with
      | none => none
      | some (m, v) => some (x :: m, v) := by
  conv => lhs; unfold pMsg
  rw [if_neg h]
  cases h1 : pNode i (c :: t) with
  | none => rfl
  | some q =>
    obtain ⟨x, u⟩ := q
    have := (parsed_node h1).2.2
    dsimp only
    rw [dif_pos this]
    all_goals rfl
section
variable {P : Program} {w : World} {K : PySem.W.Frag} {mg : Str → Option Value} {base : Heap}
def spNode (K : PySem.W.Frag) (br : Bool) (N : Int) : Sp := fun vs H Q E => ∃ r dx l G p b, vs = [.ref r] ∧ At K r dx l G H p b ∧ Dep (l.drop p) N ∧ (br = true → ∃ s, l.drop p = 123 :: s) ∧
  (∀ x t, pNode b (l.drop p) = some (x, t) → ∀ G' H' p' v, Gw [r] G H G' H' → At K r dx l G' H' p' b → l.drop p' = t → Rp G' v (encN x) → Q v H') ∧ (pNode b (l.drop p) = none → Bad K r G H E)
theorem ok_braces (T : Tx K mg) (X : Ex P K mg) {km : Nat} {N : Int} (hkm : 4 ≤ km) (c_choice : MetX P w K mg base km (cR K) "choice" (spChoice K (N - 2))) : MetX P w K mg base (km + 1) (cR K) "braces" (spNode K true N) := by
  refine metX_of T.d_Reader_braces T.cls T.m_braces (fun _ _ _ _ _ _ us hl => match us, hl with | [_], _ => rfl) sc_Reader_braces (fun vs H Q E h => ?_) (fun cdv A outer s H vs Q E hr h => ?_)
  · obtain ⟨r, dx, l, G, p, b, rfl, _⟩ := h; rfl
  obtain ⟨r, dx, l, G, p, b, rfl, a, dep, hbr, q0, q1⟩ := h
  obtain ⟨s0, hs0⟩ := hbr rfl
  rw [hs0] at dep q0 q1
  rw [pNode_brace] at q0 q1
  have tk : Takes (cxOf (L2.CX P w) P w K mg base N_Reader_braces "Reader.braces" (defScope s_Reader_braces) (He.ma K (cR K) "braces") cdv A outer s H E) (fun cls d _ H => E cls d H) := takes_of rfl rfl rfl rfl
  have hp : PassesOwn (model P w) (cxOf (L2.CX P w) P w K mg base N_Reader_braces "Reader.braces" (defScope s_Reader_braces) (He.ma K (cR K) "braces") cdv A outer s H E).A (cxOf (L2.CX P w) P w K mg base N_Reader_braces "Reader.braces" (defScope s_Reader_braces) (He.ma K (cR K) "braces") cdv A outer s H E).env (cxOf (L2.CX P w) P w K mg base N_Reader_braces "Reader.braces" (defScope s_Reader_braces) (He.ma K (cR K) "braces") cdv A outer s H E).xe := passes_of rfl
  have c_expect : MetX P w K mg base 2 (cR K) "expect" (spExpect K) := ok_expect T X
  have c_skip : C8.Met P w K mg base 1 (cR K) "skip" (spSkip K) [] := ok_skip T
  have c_sign : MetX P w K mg base 1 (cR K) "sign" (spSign K) := ok_sign T X
  have c_word : MetX P w K mg base 3 (cR K) "word" (spWord K) := ok_word T X
  refine ⟨_, (pss_cons (ps_expr (pe_mx c_expect hr (by omega) tk (pv 0) (pa_cons (pe_s [123]) pa_nil)))
    (pss_cons (ps_asg (pe_mx0 c_word hr (by omega) tk (pv 0)) (pg_tup rfl (pgs_cons (pg_name (i := 1) sc_Reader_braces.nd rfl (Or.inl rfl)) (pgs_cons (pg_name (i := 2) sc_Reader_braces.nd rfl (Or.inl rfl)) pgs_nil))))
    (pss_cons (ps_expr (C8.pe_mt0 c_skip hr (by omega) (pv 0)))
    (pss_cons (ps_if (pt_cmpR op_eq (pe_mx0 c_sign hr (by omega) tk (pv 0)) (pe_s [125]) (nomark _))
      (pss_cons (ps_fldaug (pv 0) pe_int in_add)
      (pss_one (ps_ret (pe_tup (pa_cons (pe_gs T.s_SHOW) (pa_cons (pv 1) pa_nil))))))
      pss_nil)
    (pss_cons (ps_expr (pe_mx c_expect hr (by omega) tk (pv 0) (pa_cons (pe_s [44]) pa_nil)))
    (pss_cons (ps_asg (pe_mx0 c_word hr (by omega) tk (pv 0)) (pg_tup rfl (pgs_cons (pg_name (i := 3) sc_Reader_braces.nd rfl (Or.inl rfl)) (pgs_cons (pg_name (i := 2) sc_Reader_braces.nd rfl (Or.inl rfl)) pgs_nil))))
    (pss_cons (ps_if (pt_cmpR op_notIn_seq (pv 3) (pe_tup (pa_cons (pe_gs T.s_SELECT) (pa_cons (pe_gs T.s_PLURAL) pa_nil))) rfl)
      (pss_one (ps_raise rfl tk (pmk_tok X.tok hr (pa_cons (pv 2) pa_nil))))
      pss_nil)
    (pss_one (ps_ret (pe_mx c_choice hr (by omega) tk (pv 0) (pa_cons (pv 1) (pa_cons (pv 3) pa_nil)))))))))))), ?_⟩
  have hx0 : pExpect 123 (l.drop p) = some s0 := by rw [hs0]; rfl
  refine ⟨_, rfl, r, _, _, rfl, a.hr, rfl, r, dx, l, G, p, b, 123, rfl, a, fun r1 e1 H1 p1 g1 a1 e1' => ?_, fun e1 => by rw [hx0] at e1; cases e1⟩
  rw [hx0] at e1
  obtain rfl : s0 = r1 := Option.some.inj e1
  refine ⟨_, rfl, r, _, _, rfl, a1.hr, rfl, r, dx, l, G, p1, b, rfl, a1, fun n r2 e2 nt H2 p2 p0 g2 a2 e2' hp0 hnt => ?_, fun e2 => (q1 (by rw [e1'] at e2; rw [e2])).on g1⟩
  rw [e1'] at e2
  have W2 := eats_word e2
  have w2 := g1.trans g2
  rw [e2] at q0 q1
  dsimp only at q0 q1
  refine ⟨_, _, rfl, SqT.of hnt, rfl, _, _, rfl, _, _, rfl, rfl, ?_⟩
  refine ⟨_, rfl, r, _, _, rfl, a2.hr, rfl, r, dx, l, G, p2, b, rfl, a2, fun H3 p3 g3 a3 e3 => ?_⟩
  rw [e2'] at e3
  have w3 := w2.trans g3
  refine ⟨_, rfl, r, _, _, rfl, a3.hr, rfl, r, dx, l, G, p3, b, rfl, a3, fun d r3 e4 => ?_, fun e4 => (q1 (by rw [← e3, e4])).on w3⟩
  rw [← e3, e4] at q0 q1
  dsimp only at q0 q1
  obtain ⟨h1, h2, h3⟩ := drop_cons e4
  refine ⟨rfl, _, rfl, iteS (fun e => ?_) (fun e => ?_)⟩
  · obtain rfl : d = 125 := (List.cons.inj e).1
    rw [if_pos rfl] at q0
    obtain ⟨g4, a4⟩ := a3.put (b' := b) h2
    refine up1 T rfl a3.hr ?_
    refine ⟨_, rfl, by show 2 ≤ sizeLine; exact szOf (by decide), fun v hv => ?_⟩
    have g5 : Gw [] _ _ _ _ := Gw.alloc (o := HO.tup [V.str (S tShow), V.str (S n)]) a4.sm hv
    have wt := (w3.trans g4).trans g5.nil
    exact q0 _ _ rfl _ _ (p3 + 1) _ wt ⟨g5.gh, wt.none a.there a.gr, g5.same _ _ a4.hr, a4.hp, a4.hl⟩ h3 (.tup upd_same (.cons (.str _) (.cons (.str _) .nil)))
  · have nd : d ≠ 125 := fun z => e (by rw [z])
    rw [if_neg nd] at q0 q1
    have hsk : skip (l.drop p3) = d :: r3 := by
      rw [e3, skip_skip, ← e3, e4]
    refine ⟨_, rfl, r, _, _, rfl, a3.hr, rfl, r, dx, l, G, p3, b, 44, rfl, a3, fun r5 e5 H5 p5 g5 a5 e5' => ?_, fun e5 => (q1 ?_).on w3⟩
    · have hd : d = 44 ∧ r5 = r3 := by
        unfold pExpect at e5
        rw [hsk] at e5
        dsimp only at e5
        by_cases z : d = 44
        · rw [if_pos z] at e5; exact ⟨z, (Option.some.inj e5).symm⟩
        · rw [if_neg z] at e5; cases e5
      obtain ⟨rfl, rfl⟩ := hd
      rw [if_pos rfl] at q0 q1
      have w5 := w3.trans g5
      refine ⟨_, rfl, r, _, _, rfl, a5.hr, rfl, r, dx, l, G, p5, b, rfl, a5, fun k r6 e6 kt H6 p6 p0' g6 a6 e6' hp0' hkt => ?_, fun e6 => (q1 (by rw [e5'] at e6; rw [e6])).on w5⟩
      rw [e5'] at e6
      rw [e6] at q0 q1
      dsimp only at q0 q1
      have w6 := w5.trans g6
      refine ⟨_, _, rfl, SqT.of hkt, rfl, _, _, rfl, _, _, rfl, rfl, ?_⟩
      refine ⟨_, rfl, by show 2 ≤ sizeLine; exact szOf (by decide), fun tt htt => ?_⟩
      have g7 : Gw [] _ _ _ _ := Gw.allocM (o := HO.tup [V.str (S tSel), V.str (S tPlu)]) a6.sm htt
      have w7 := w6.trans g7.nil
      have a7 : At K r dx l G _ p6 b := ⟨g7.gh, a.gr, g7.same _ _ a6.hr, a6.hp, a6.hl⟩
      refine ⟨tt, [tSel, tPlu].map fun c => V.str (S c), rfl, .inr (SqT.of upd_same), rfl, all_strs _, _, rfl, ?_⟩
      rw [in_strs]
      refine iteDN (fun hk => ?_) (fun hk => ?_)
      · refine ⟨_, rfl, p0', rfl, by omega, fun d hd => q1 ?_ _ _ G _ X.aT (w7.trans (Gw.allocM g7.gh hd))⟩
        rw [if_neg]
        intro z; apply hk
        rcases z with z | z <;> simp [z]
      · have hk' : k = tSel ∨ k = tPlu := by simpa using hk
        rw [if_pos hk'] at q0 q1
        have dep7 : Dep (l.drop p6) (N - 2) := by
          rw [e6']
          have E1 : Eats (2 + 0 + 0 + 0 + 0) (123 :: s0) r6 := by
            have z1 := (Eats.cons 123 s0).trans W2.1
            have z2 := z1.trans (eats_skip r2)
            rw [← e3, e4] at z2
            have z3 := z2.trans (Eats.cons 44 r5)
            exact z3.trans (eats_word e6).1
          exact (dep.eat E1).mono (by omega)
        have hkk : k = tKind (decide (k = tPlu)) := by
          rcases hk' with rfl | rfl
          · rfl
          · rfl
        refine ⟨_, rfl, r, _, _, rfl, a7.hr, rfl, _, rfl, _, rfl, r, dx, l, G, p6, b, decide (k = tPlu), n, ?_, a7, dep7, fun x t e8 G8 H8 p8 v g8 a8 e8' rv => ?_, fun e8 => (q1 (by rw [e6'] at e8; exact e8)).on w7⟩
        · exact congrArg (fun z => [V.ref r, V.str (S n), V.str (S z)]) hkk
        · exact q0 x t (by rw [e6'] at e8; exact e8) _ _ p8 v (w7.trans g8) a8 e8' rv
    · unfold pExpect at e5
      rw [hsk] at e5
      dsimp only at e5
      by_cases z : d = 44
      · rw [if_pos z] at e5; cases e5
      · rw [if_neg z]
theorem ok_node (T : Tx K mg) (X : Ex P K mg) {km : Nat} {N : Int} (hkm : 4 ≤ km) (c_braces : MetX P w K mg base km (cR K) "braces" (spNode K true N)) : MetX P w K mg base (km + 1) (cR K) "node" (spNode K false N) := by
  refine metX_of T.d_Reader_node T.cls T.m_node (fun _ _ _ _ _ _ us hl => match us, hl with | [_], _ => rfl) sc_Reader_node (fun vs H Q E h => ?_) (fun cdv A outer s H vs Q E hr h => ?_)
  · obtain ⟨r, dx, l, G, p, b, rfl, _⟩ := h; rfl
  obtain ⟨r, dx, l, G, p, b, rfl, a, dep, _, q0, q1⟩ := h
  have tk : Takes (cxOf (L2.CX P w) P w K mg base N_Reader_node "Reader.node" (defScope s_Reader_node) (He.ma K (cR K) "node") cdv A outer s H E) (fun cls d _ H => E cls d H) := takes_of rfl rfl rfl rfl
  have hp : PassesOwn (model P w) (cxOf (L2.CX P w) P w K mg base N_Reader_node "Reader.node" (defScope s_Reader_node) (He.ma K (cR K) "node") cdv A outer s H E).A (cxOf (L2.CX P w) P w K mg base N_Reader_node "Reader.node" (defScope s_Reader_node) (He.ma K (cR K) "node") cdv A outer s H E).env (cxOf (L2.CX P w) P w K mg base N_Reader_node "Reader.node" (defScope s_Reader_node) (He.ma K (cR K) "node") cdv A outer s H E).xe := passes_of rfl
  have c_sign : MetX P w K mg base 1 (cR K) "sign" (spSign K) := ok_sign T X
  have c_escape : MetX P w K mg base 2 (cR K) "escape" (spEsc K) := ok_escape T X
  have c_is_sign : C8.Cal P w K mg base 1 "is_sign" spIsS [] := ok_is_sign T
  refine ⟨_, (pss_cons (ps_set (i := 1) sc_Reader_node.nd rfl (Or.inl rfl) (pe_mx0 c_sign hr (by omega) tk (pv 0)))
    (pss_cons (ps_if (pt_cmpR op_eq (pv 1) (pe_s [123]) (nomark _))
      (pss_one (ps_ret (pe_mx0 c_braces hr (by omega) tk (pv 0))))
      pss_nil)
    (pss_cons (ps_if (pt_cmpR op_eq (pv 1) (pe_gs T.s_QUOTE) (nomark _))
      (pss_one (ps_ret (pe_tup (pa_cons (pe_gs T.s_TEXT) (pa_cons (pe_mx0 c_escape hr (by omega) tk (pv 0)) pa_nil)))))
      pss_nil)
    (pss_cons (ps_if (PW.pt (pw_and (pt_cmpR op_eq (pv 1) (pe_s [35]) (nomark _)) (pw_and1 (pt_val (pe_fld (pv 0) rfl)))))
      (pss_cons (ps_fldaug (pv 0) pe_int in_add)
      (pss_one (ps_ret (pe_tup (pa_cons (pe_gs T.s_NUMBER) pa_nil)))))
      pss_nil)
    (pss_cons (ps_if (PW.pt (pw_or (pt_cmpR op_inS (pv 1) (pe_gs T.s_ESCAPED) rfl) (pw_or1 (pt_not (pt_val (C8.pe_c c_is_sign hr (by omega) rfl (pa_cons (pv 1) pa_nil)))))))
      (pss_one (ps_raise rfl tk (pmk_tok X.tok hr (pa_cons (pe_fld (pv 0) rfl) pa_nil))))
      pss_nil)
    (pss_cons (ps_fldaug (pv 0) pe_int in_add)
    (pss_one (ps_ret (pe_tup (pa_cons (pe_gs T.s_TEXT) (pa_cons (pv 1) pa_nil))))))))))), ?_⟩
  refine ⟨_, rfl, r, _, _, rfl, a.hr, rfl, r, dx, l, G, p, b, rfl, a, fun c t e1 => ?_, fun e1 => q1 (by rw [e1]; unfold pNode; rfl)⟩
  obtain ⟨h1, h2, h3⟩ := drop_cons e1
  refine ⟨_, rfl, rfl, _, rfl, iteS (fun e => ?_) (fun e => ?_)⟩
  · obtain rfl : c = 123 := (List.cons.inj e).1
    exact ⟨_, rfl, r, _, _, rfl, a.hr, rfl, r, dx, l, G, p, b, rfl, a, dep, fun _ => ⟨t, e1⟩, q0, q1⟩
  have n123 : c ≠ 123 := fun z => e (by rw [z])
  rw [e1] at q0 q1
  refine ⟨_, rfl, rfl, _, rfl, iteS (fun e2 => ?_) (fun e2 => ?_)⟩
  · obtain rfl : c = 39 := (List.cons.inj e2).1
    have hn : pNode b (39 :: t) = (pEsc escs (39 :: t)).map fun p => (.txt [p.1], p.2) := by unfold pNode; rfl
    rw [hn] at q0 q1
    refine ⟨_, rfl, r, _, _, rfl, a.hr, rfl, r, dx, l, G, p, b, rfl, a, fun d u e4 H4 p4 g4 a4 e4' => ?_, fun e4 => q1 (by rw [e1] at e4; rw [e4]; rfl)⟩
    rw [e1] at e4
    refine ⟨by show 2 ≤ sizeLine; exact szOf (by decide), fun v hv => ?_⟩
    have g5 : Gw [] _ _ _ _ := Gw.alloc (o := HO.tup [V.str (S tText), V.str (S [d])]) a4.sm hv
    have wt := g4.trans g5.nil
    exact q0 (.txt [d]) u (by rw [e4]; rfl) _ _ p4 _ wt ⟨g5.gh, wt.none a.there a.gr, g5.same _ _ a4.hr, a4.hp, a4.hl⟩ e4' (.tup upd_same (.cons (.str _) (.cons (.str _) .nil)))
  have n39 : c ≠ 39 := fun z => e2 (by rw [z])
  have hn : pNode b (c :: t) = if c = 35 ∧ b = true then some (.num, t) else if c = 125 ∨ c = 35 ∨ ¬ okC c then none else some (.txt [c], t) := by
    conv => lhs; unfold pNode
    rw [if_neg n123, if_neg n39]
  rw [hn] at q0 q1
  obtain ⟨g4, a4⟩ := a.put (b' := b) h2
  have tok : (c = 125 ∨ c = 35 ∨ ¬ okC c) → ¬ (c = 35 ∧ b = true) → tTok (cTok K) (tCons (tFld K (tVar 0) "place") tNil) [some (.ref r), some (.str (S [c]))] H (fun cls d H' => E cls d H') := fun z z2 =>
    ⟨_, rfl, r, _, _, _, _, rfl, a.hr, T.cls, T.no_place, rfl, p, rfl, by have := a.hp; have := a.hl; omega, fun d hd => q1 (by rw [if_neg z2, if_pos z]) _ _ G _ X.aT (Gw.allocM a.sm hd)⟩
  refine ⟨_, rfl, rfl, _, rfl, iteS (fun e3 => ?_) (fun e3 => ?_)⟩
  · obtain rfl : c = 35 := (List.cons.inj e3).1
    refine ⟨_, rfl, r, _, _, _, _, rfl, a.hr, T.cls, T.no_inside, rfl, _, rfl, iteB (fun hb => ?_) (fun hb => ?_)⟩
    · rw [if_pos ⟨rfl, hb⟩] at q0
      refine up1 T rfl a.hr ?_
      refine ⟨by show 1 ≤ sizeLine; exact szOf (by decide), fun v hv => ?_⟩
      have g5 : Gw [] _ _ _ _ := Gw.alloc (o := HO.tup [V.str (S tNum)]) a4.sm hv
      have wt := g4.trans g5.nil
      exact q0 .num t rfl _ _ (p + 1) _ wt ⟨g5.gh, wt.none a.there a.gr, g5.same _ _ a4.hr, a4.hp, a4.hl⟩ h3 (.tup upd_same (.cons (.str _) .nil))
    · refine ⟨_, rfl, _, _, rfl, rfl, _, rfl, iteD (fun _ => ?_) (fun z => absurd (by decide) z)⟩
      exact iteT (tok (.inr (.inl rfl)) (fun z => by rw [hb] at z; exact absurd z.2 (by decide)))
  · have n35 : c ≠ 35 := fun z => e3 (by rw [z])
    have nn : ¬ (c = 35 ∧ b = true) := fun z => n35 z.1
    refine iteF ⟨_, rfl, _, _, rfl, rfl, _, rfl, iteD (fun hz => ?_) (fun hz => ?_)⟩
    · have : c = 123 ∨ c = 125 ∨ c = 35 ∨ c = 39 := (mem_esc c).mp hz
      exact iteT (tok (by rcases this with h | h | h | h; exact absurd h n123; exact .inl h; exact absurd h n35; exact absurd h n39) nn)
    · have n125 : c ≠ 125 := fun z => hz ((mem_esc c).mpr (.inr (.inl z)))
      refine ⟨_, rfl, c, rfl, _, rfl, iteDN (fun ho => tok (.inr (.inr ho)) nn) (fun ho => ?_)⟩
      rw [if_neg nn, if_neg (by intro z; rcases z with z | z | z; exact n125 z; exact n35 z; exact z ho)] at q0
      refine up1 T rfl a.hr ?_
      refine ⟨_, rfl, by show 2 ≤ sizeLine; exact szOf (by decide), fun v hv => ?_⟩
      have g5 : Gw [] _ _ _ _ := Gw.alloc (o := HO.tup [V.str (S tText), V.str (S [c])]) a4.sm hv
      have wt := g4.trans g5.nil
      exact q0 (.txt [c]) t rfl _ _ (p + 1) _ wt ⟨g5.gh, wt.none a.there a.gr, g5.same _ _ a4.hr, a4.hp, a4.hl⟩ h3 (.tup upd_same (.cons (.str _) (.cons (.str _) .nil)))
end
end Mw

set_option Elab.async false
set_option linter.all false
set_option maxRecDepth 100000
set_option maxHeartbeats 4000000
/-! MwRd8: message, the reader whole. -/
namespace Mw
open PySem PySem.Spec L2
open SX (S S_cat S_len S_inj)
theorem encM_len : ∀ m : List Nd, (encM m).length = m.length
  | [] => by simp [encM]
  | x :: r => by simp [encM, encM_len r]
theorem encM_append : ∀ a b : List Nd, encM (a ++ b) = encM a ++ encM b
  | [], b => by simp [encM]
  | x :: r, b => by simp [encM, encM_append r b]
theorem pMsg_end (i : Bool) (r : List Nat) (h : ∀ c t, r = c :: t → c = 125) : pMsg i r = some ([], r) := by
  unfold pMsg
  cases r with
  | nil => rfl
  | cons c t => dsimp only; rw [if_pos (h c t rfl)]
section
variable {P : Program} {w : World} {K : PySem.W.Frag} {mg : Str → Option Value} {base : Heap}
theorem ok_message (T : Tx K mg) (X : Ex P K mg) {km : Nat} {N : Int} (hkm : 4 ≤ km) (c_node : MetX P w K mg base km (cR K) "node" (spNode K false N)) : MetX P w K mg base (km + 1) (cR K) "message" (spMsg K N) := by
  refine metX_of T.d_Reader_message T.cls T.m_message (fun _ _ _ _ _ _ us hl => match us, hl with | [_, _], _ => rfl) sc_Reader_message (fun vs H Q E h => ?_) (fun cdv A outer s H vs Q E hr h => ?_)
  · obtain ⟨r, dx, l, G, p, b, i, rfl, _⟩ := h; rfl
  obtain ⟨r, dx, l, G, p, b, i, rfl, a, dep, q0, q1⟩ := h
  have tk : Takes (cxOf (L2.CX P w) P w K mg base N_Reader_message "Reader.message" (defScope s_Reader_message) (He.ma K (cR K) "message") cdv A outer s H E) (fun cls d _ H => E cls d H) := takes_of rfl rfl rfl rfl
  have hp : PassesOwn (model P w) (cxOf (L2.CX P w) P w K mg base N_Reader_message "Reader.message" (defScope s_Reader_message) (He.ma K (cR K) "message") cdv A outer s H E).A (cxOf (L2.CX P w) P w K mg base N_Reader_message "Reader.message" (defScope s_Reader_message) (He.ma K (cR K) "message") cdv A outer s H E).env (cxOf (L2.CX P w) P w K mg base N_Reader_message "Reader.message" (defScope s_Reader_message) (He.ma K (cR K) "message") cdv A outer s H E).xe := passes_of rfl
  refine ⟨_, (pss_cons (ps_set (i := 2) sc_Reader_message.nd rfl (Or.inl rfl) (pe_fld (pv 0) rfl))
    (pss_cons (ps_fld (pv 0) (pv 1) rfl)
    (pss_cons (ps_set (i := 3) sc_Reader_message.nd rfl (Or.inl rfl) (pe_lst pa_nil))
    (pss_cons (ps_while hp (PW.pt (pw_and (pt_cmpR op_lt (pe_fld (pv 0) rfl) (pe_callB call_lenS (by rfl) T.f_len (by decide +kernel) (pa_cons (pe_fld (pv 0) rfl) pa_nil)) (nomark _)) (pw_and1 (pt_cmpR op_ne (pe_ix ix_S (pe_fld (pv 0) rfl) (pe_fld (pv 0) rfl) (fun _ _ => rfl)) (pe_s [125]) (nomark _)))))
      (pss_one (ps_expr (pe_bm PySem.F.plainAttrs_list PySem.F.slot_list_append PySem.F.type_list_append mt_append (pv 3) (pa_cons (pe_mx0 c_node hr (by omega) tk (pv 0)) pa_nil)))))
    (pss_cons (ps_fld (pv 0) (pv 2) rfl)
    (pss_one (ps_ret (pv 3)))))))), ?_⟩
  obtain ⟨g1, a1⟩ := a.put (b' := i) a.hp
  refine ⟨_, rfl, r, _, _, _, _, rfl, a.hr, T.cls, T.no_inside, rfl, _, rfl, _, rfl, r, _, _, _, rfl, a.hr, T.cls, T.no_inside, by show (3 : Nat) < 1000; decide, ?_⟩
  refine ⟨by show 0 ≤ sizeLine; exact Nat.zero_le _, fun c hc => ?_⟩
  have hc' : upd H r (rdO (cR K) dx l p i) c = none := hc
  have hcr : c ≠ r := fun z => a1.there (z ▸ hc')
  have gc0 : Gw [] G _ G _ := Gw.allocM (o := HO.lst []) a1.sm hc'
  have ns : c ∉ [r] := by simp [hcr]
  have sub : ∀ x ∈ [r], x ∈ [c, r] := fun x hx => List.mem_cons_of_mem _ hx
  let Wl : Nat → L2.St → Hp → Prop := fun m σ H' => ∃ G' p' acc vs, σ = [some (.ref r), some (.bl i), some (.bl b), some (.ref c)] ∧ Gw [c, r] G (upd (upd H r (rdO (cR K) dx l p i)) c (.lst [])) G' H' ∧ At K r dx l G' H' p' i ∧
      H' c = some (.lst vs) ∧ RpL G' vs (encM acc) ∧ pMsg i (l.drop p) = (pMsg i (l.drop p')).map (fun q => (acc ++ q.1, q.2)) ∧ Dep (l.drop p') N ∧ acc.length ≤ p' ∧ m = l.length - p'
  refine ⟨Wl, ⟨l.length - p, G, p, [], [], rfl, Gw.refl gc0.gh, ⟨gc0.gh, a.gr, gc0.same _ _ a1.hr, a.hp, a.hl⟩, upd_same, by rw [encM]; exact .nil, ?_, dep, Nat.zero_le _, rfl⟩, ?_⟩
  · cases pMsg i (l.drop p) with
    | none => rfl
    | some q => rfl
  rintro m σ H4 ⟨G4, p4, acc, vs, rfl, g4, a4, hc4, rv, hm4, dep4, hlen, rfl⟩
  have bad4 : ∀ {G' H'}, Gw [c, r] G (upd (upd H r (rdO (cR K) dx l p i)) c (.lst [])) G' H' → pMsg i (l.drop p) = none → Bad K r G' H' E := fun g z => (q1 z).on (g1.trans (Gw.drop a1.sm hc' g))
  have hvl : vs.length = acc.length := by rw [rv.length, encM_len]
  -- the end
  have fin : (∀ c t, l.drop p4 = c :: t → c = 125) → tSeq (sFld K (tVar 0) (tVar 2) "inside") (tRet (tVar 3)) { nx := fun _ H' => Q .non H', rt := Q } [some (.ref r), some (.bl i), some (.bl b), some (.ref c)] H4 := fun hend => by
    refine ⟨_, rfl, _, rfl, r, _, _, _, rfl, a4.hr, T.cls, T.no_inside, by show (3 : Nat) < 1000; decide, ?_⟩
    refine ⟨_, rfl, ?_⟩
    obtain ⟨g5, a5⟩ := a4.put (b' := b) a4.hp
    have w5 := g4.trans (g5.mono sub)
    have hc5 := g5.keep c _ ns hc4
    have g4c : G4 c = none := w5.none upd_ne_none (by
        cases z : G c with
        | none => rfl
        | some u => rw [a1.sm _ _ z] at hc'; cases hc')
    have wc : Gw [r] G _ (upd G4 c (.lst vs)) _ := Gw.close a1.sm hc' w5 hc5
    have wt := g1.trans wc
    rw [pMsg_end i _ hend] at hm4
    refine q0 acc (l.drop p4) (by rw [hm4]; simp) _ _ p4 _ wt ⟨wc.gh, wt.none a.there a.gr, a5.hr, a4.hp, a4.hl⟩ rfl ?_
    exact .lst upd_same (rv.same (same_upd g4c))
  refine ⟨_, rfl, r, _, _, _, _, rfl, a4.hr, T.cls, T.no_place, rfl, _, rfl, r, _, _, _, _, rfl, a4.hr, T.cls, T.no_text, rfl, _, rfl, a4.big, _, _, rfl, rfl, _, rfl, iteD (fun hlt => ?_) (fun hge => ?_)⟩
  · have lt : p4 < l.length := by omega
    refine ⟨_, rfl, r, _, _, _, _, rfl, a4.hr, T.cls, T.no_text, rfl, _, rfl, r, _, _, _, _, rfl, a4.hr, T.cls, T.no_place, rfl, _, _, p4, l[p4], rfl, rfl, rfl, a4.big, List.getElem?_eq_getElem lt, rfl, _, rfl, iteSN (fun hne => ?_) (fun he => ?_)⟩
    · refine ⟨fun σ' H' => ∃ m', m' < l.length - p4 ∧ Wl m' σ' H', fun _ _ z => z, ?_⟩
      have n125 : l[p4] ≠ 125 := fun z => hne (by rw [z])
      have hdr := drop_some (List.getElem?_eq_getElem lt)
      refine ⟨_, rfl, .inl ⟨rfl, vs, SqL.of hc4⟩, _, rfl, r, _, _, rfl, a4.hr, rfl, r, dx, l, G4, p4, i, rfl, a4, dep4, fun z => (by cases z), fun x t e5 G5 H5 p5 xv g5 a5 e5' rx => ?_, fun e5 => bad4 g4 ?_⟩
      · have hc5 := g5.keep c _ ns hc4
        have w5 := g4.trans (g5.mono sub)
        refine ⟨c, vs, _, rfl, rfl, hc5, by rw [hvl, sizeLine_eq]; have := a4.hp; have := a4.hl; omega, ?_⟩
        have g5c : G5 c = none := w5.none upd_ne_none (by
          cases z : G c with
          | none => rfl
          | some u => rw [a1.sm _ _ z] at hc'; cases hc')
        have gw : Gw [c, r] G5 H5 G5 _ := Gw.write (M := [c, r]) (o := HO.lst (vs ++ [xv])) a5.sm g5c (List.mem_cons_self ..)
        have pn := parsed_node e5
        have hlt5 := pn.2.2
        rw [← e5', List.length_drop, List.length_drop] at hlt5
        refine ⟨l.length - p5, hlt5, G5, p5, acc ++ [x], vs ++ [xv], rfl, w5.trans gw, ⟨gw.gh, a5.gr, by rw [upd_ne (Ne.symm hcr)]; exact a5.hr, a5.hp, a5.hl⟩, upd_same, ?_, ?_, ?_, ?_, rfl⟩
        · rw [encM_append]
          exact (rv.same g5.gg).snoc rx
        · rw [hm4, hdr, pMsg_cons i _ _ n125, ← hdr, e5]
          dsimp only
          rw [e5']
          cases pMsg i t with
          | none => rfl
          | some q => simp
        · rw [e5']; exact (dep4.eat pn.1).mono (by omega)
        · rw [List.length_append]; show acc.length + 1 ≤ p5; omega
      · rw [hm4, hdr, pMsg_cons i _ _ n125, ← hdr, e5]; rfl
    · refine fin fun c t e => ?_
      have z := (drop_cons e).1
      rw [List.getElem?_eq_getElem lt] at z
      rw [← Option.some.inj z]
      exact (List.cons.inj he).1
  · refine iteF (fin fun c t e => ?_)
    exact absurd (drop_cons e).2.1 (by omega)
/-- the reader to nests that weigh no more than 4 * d - 1 -/
theorem reader (T : Tx K mg) (X : Ex P K mg) : ∀ d : Nat, MetX P w K mg base (4 * d + 4) (cR K) "message" (spMsg K (4 * d - 1))
  | 0 => by
    refine metX_of (k := 3) T.d_Reader_message T.cls T.m_message (fun _ _ _ _ _ _ us hl => match us, hl with | [_, _], _ => rfl) sc_Reader_message (fun vs H Q E h => ?_) (fun cdv A outer s H vs Q E hr h => ?_)
    · obtain ⟨r, dx, l, G, p, b, i, rfl, _⟩ := h; rfl
    · obtain ⟨r, dx, l, G, p, b, i, rfl, a, dep, _⟩ := h
      exact absurd dep.nonneg (by omega)
  | d + 1 => by
    have h0 := reader T X d
    have e : ((4 * (d + 1 : Nat) : Int) - 1) - 4 = 4 * d - 1 := by push_cast; omega
    have h1 : MetX P w K mg base (4 * d + 5) (cR K) "choice" (spChoice K (((4 * (d + 1 : Nat) : Int) - 1) - 2)) := ok_choice T X (by omega) (by
      have e2 : ((4 * (d + 1 : Nat) : Int) - 1) - 2 - 2 = 4 * d - 1 := by push_cast; omega
      rw [e2]; exact h0)
    have h2 := ok_braces T X (by omega) h1
    have h3 := ok_node T X (by omega) h2
    have h4 := ok_message T X (by omega) h3
    exact h4
end
end Mw

set_option Elab.async false
set_option linter.all false
set_option maxRecDepth 100000
set_option maxHeartbeats 4000000
/-! MwPl: plain, plain_node, walked. -/
namespace Mw
open PySem PySem.Spec L2
open SX (S S_cat S_len S_inj)
mutual
def szN : Nd → Nat
  | .txt s => 1 + 3 * s.length
  | .shw n => n.length + 3
  | .num => 2
  | .cho _ n _ cs ot => 40 + n.length + szC cs + szM ot
def szM : List Nd → Nat
  | [] => 0
  | x :: r => szN x + szM r
def szC : List (Ky × List Nd) → Nat
  | [] => 0
  | (k, m) :: r => (fmtK k).length + 6 + szM m + szC r
end
theorem szM_append : ∀ a b : List Nd, szM (a ++ b) = szM a + szM b
  | [], b => by simp [szM]
  | x :: r, b => by simp [szM, szM_append r b]; omega
theorem szN_pos : ∀ x : Nd, 1 ≤ szN x
  | .txt s => by unfold szN; omega
  | .shw n => by unfold szN; omega
  | .num => by unfold szN; omega
  | .cho _ n _ cs ot => by unfold szN; omega
theorem len_szM : ∀ m : List Nd, m.length ≤ szM m
  | [] => by simp [szM]
  | x :: r => by
    have := len_szM r
    have := szN_pos x
    simp [szM]; omega
theorem len_szC : ∀ m : List (Ky × List Nd), m.length ≤ szC m
  | [] => by simp [szC]
  | (k, x) :: r => by
    have := len_szC r
    simp [szC]; omega
theorem last_snoc {α : Type} (l : List α) (h : l ≠ []) : ∃ k x, l = k ++ [x] := ⟨l.dropLast, l.getLast h, (List.dropLast_concat_getLast h).symm⟩
theorem pushN_merge (acc : List Nd) (t s : List Nat) : pushN (acc ++ [.txt t]) (.txt s) = acc ++ [.txt (t ++ s)] := by
  unfold pushN; simp
theorem pushN_other (acc : List Nd) (x : Nd) (h : isTxt x = false) : pushN acc x = acc ++ [x] := by
  cases x with
  | txt s => cases h
  | shw n => rfl
  | num => rfl
  | cho pl n off cs ot => rfl
theorem pushN_new (acc : List Nd) (s : List Nat) (h : ∀ b t, acc ≠ b ++ [.txt t]) : pushN acc (.txt s) = if s = [] then acc else acc ++ [.txt s] := by
  unfold pushN
  dsimp only
  cases e : acc.getLast? with
  | none => rfl
  | some y =>
    cases y with
    | txt t =>
      obtain ⟨b, e2⟩ := List.getLast?_eq_some_iff.mp e
      exact absurd e2 (h b t)
    | shw n => rfl
    | num => rfl
    | cho pl n off cs ot => rfl
theorem szM_push (acc : List Nd) (x : Nd) : szM (pushN acc x) ≤ szM acc + szN x := by
  cases x with
  | txt s =>
    by_cases h : ∃ b t, acc = b ++ [.txt t]
    · obtain ⟨b, t, rfl⟩ := h
      rw [pushN_merge, szM_append, szM_append]
      simp [szM, szN]; omega
    · rw [pushN_new acc s (fun b t z => h ⟨b, t, z⟩)]
      split
      · omega
      · rw [szM_append]; simp [szM]
  | shw n => rw [pushN_other _ _ rfl, szM_append]; simp [szM]
  | num => rw [pushN_other _ _ rfl, szM_append]; simp [szM]
  | cho pl n off cs ot => rw [pushN_other _ _ rfl, szM_append]; simp [szM]
mutual
theorem szN_plain : ∀ x : Nd, szN (plainN x) ≤ szN x
  | .txt s => by simp [plainN]
  | .shw n => by simp [plainN]
  | .num => by simp [plainN]
  | .cho pl n off cs ot => by
    have h1 := szC_plain cs
    have h2 := szA_plain ot []
    simp [plainN, szN, szM] at h2 ⊢; omega
theorem szA_plain : ∀ (m acc : List Nd), szM (plainA acc m) ≤ szM acc + szM m
  | [], acc => by simp [plainA, szM]
  | x :: r, acc => by
    have h1 := szN_plain x
    have h2 := szM_push acc (plainN x)
    have h3 := szA_plain r (pushN acc (plainN x))
    simp [plainA, szM]; omega
theorem szC_plain : ∀ cs : List (Ky × List Nd), szC (plainC cs) ≤ szC cs
  | [] => by simp [plainC]
  | (k, m) :: r => by
    have h1 := szA_plain m []
    have h2 := szC_plain r
    simp [plainC, szC, szM] at h1 ⊢; omega
end
theorem szM_plain (m : List Nd) : szM (plainM m) ≤ szM m := by
  have := szA_plain m []
  simp [szM] at this
  exact this
theorem plainA_append : ∀ (a acc b : List Nd), plainA acc (a ++ b) = plainA (plainA acc a) b
  | [], acc, b => by simp [plainA]
  | x :: r, acc, b => by simp [plainA, plainA_append r]
theorem plainA_snoc {m : List Nd} {i : Nat} {x : Nd} (h : m[i]? = some x) : plainA [] (m.take (i + 1)) = pushN (plainA [] (m.take i)) (plainN x) := by
  rw [take_snoc h, plainA_append]
  simp [plainA]
theorem plainC_eq : ∀ cs : List (Ky × List Nd), plainC cs = cs.map fun q => (q.1, plainM q.2)
  | [] => rfl
  | (k, m) :: r => by simp [plainC, plainC_eq r, plainM]
theorem encM_get : ∀ (m : List Nd) (i : Nat), (encM m)[i]? = (m[i]?).map encN
  | [], i => by simp [encM]
  | x :: r, 0 => by simp [encM]
  | x :: r, i + 1 => by simp [encM, encM_get r i]
theorem mem_dp : ∀ {m : List Nd} {x : Nd}, x ∈ m → dpN x ≤ dpM m
  | _ :: _, _, h => by
    rcases List.mem_cons.mp h with rfl | h
    · unfold dpM; omega
    · have := mem_dp h
      unfold dpM; omega
theorem mem_dpC : ∀ {cs : List (Ky × List Nd)} {k : Ky} {m : List Nd}, (k, m) ∈ cs → dpM m ≤ dpC cs
  | _ :: _, _, _, h => by
    rcases List.mem_cons.mp h with rfl | h
    · unfold dpC; omega
    · have := mem_dpC h
      unfold dpC; omega
theorem mem_sz : ∀ {m : List Nd} {x : Nd}, x ∈ m → szN x ≤ szM m
  | _ :: _, _, h => by
    rcases List.mem_cons.mp h with rfl | h
    · unfold szM; omega
    · have := mem_sz h
      unfold szM; omega
theorem mem_szC : ∀ {cs : List (Ky × List Nd)} {k : Ky} {m : List Nd}, (k, m) ∈ cs → szM m ≤ szC cs
  | _ :: _, _, _, h => by
    rcases List.mem_cons.mp h with rfl | h
    · unfold szC; omega
    · have := mem_szC h
      unfold szC; omega
def tagN : Nd → List Nat
  | .txt _ => tText
  | .shw _ => tShow
  | .num => tNum
  | .cho pl _ _ _ _ => tKind pl
def restOk (G : Hp) : Nd → List V → Prop
  | .txt s, rest => rest = [.str (S s)]
  | .shw n, rest => rest = [.str (S n)]
  | .num, rest => rest = []
  | .cho pl n off cs ot, rest => ∃ cv ov, (if pl = true then rest = [.str (S n), .int off, cv, ov] else rest = [.str (S n), cv, ov]) ∧ Rp G cv (.list (encC cs)) ∧ Rp G ov (.list (encM ot))
/-- the values of a node's tuple -/
theorem node_inv {G : Hp} {v : V} {x : Nd} (h : Rp G v (encN x)) : ∃ a rest, v = .ref a ∧ G a = some (.tup (.str (S (tagN x)) :: rest)) ∧ restOk G x rest := by
  cases x with
  | txt s =>
    obtain ⟨a, xs, rfl, ha, r⟩ := h.tup_inv
    obtain ⟨v1, w1, rfl, r1, r⟩ := r.cons_inv
    obtain ⟨v2, w2, rfl, r2, r⟩ := r.cons_inv
    obtain rfl := r.nil_inv
    obtain rfl := r1.str_inv
    obtain rfl := r2.str_inv
    exact ⟨a, _, rfl, ha, rfl⟩
  | shw s =>
    obtain ⟨a, xs, rfl, ha, r⟩ := h.tup_inv
    obtain ⟨v1, w1, rfl, r1, r⟩ := r.cons_inv
    obtain ⟨v2, w2, rfl, r2, r⟩ := r.cons_inv
    obtain rfl := r.nil_inv
    obtain rfl := r1.str_inv
    obtain rfl := r2.str_inv
    exact ⟨a, _, rfl, ha, rfl⟩
  | num =>
    obtain ⟨a, xs, rfl, ha, r⟩ := h.tup_inv
    obtain ⟨v1, w1, rfl, r1, r⟩ := r.cons_inv
    obtain rfl := r.nil_inv
    obtain rfl := r1.str_inv
    exact ⟨a, _, rfl, ha, rfl⟩
  | cho pl n off cs ot =>
    cases pl with
    | false =>
      obtain ⟨a, xs, rfl, ha, r⟩ := h.tup_inv
      obtain ⟨v1, w1, rfl, r1, r⟩ := r.cons_inv
      obtain ⟨v2, w2, rfl, r2, r⟩ := r.cons_inv
      obtain ⟨v3, w3, rfl, r3, r⟩ := r.cons_inv
      obtain ⟨v4, w4, rfl, r4, r⟩ := r.cons_inv
      obtain rfl := r.nil_inv
      obtain rfl := r1.str_inv
      obtain rfl := r2.str_inv
      exact ⟨a, _, rfl, ha, v3, v4, rfl, r3, r4⟩
    | true =>
      obtain ⟨a, xs, rfl, ha, r⟩ := h.tup_inv
      obtain ⟨v1, w1, rfl, r1, r⟩ := r.cons_inv
      obtain ⟨v2, w2, rfl, r2, r⟩ := r.cons_inv
      obtain ⟨v3, w3, rfl, r3, r⟩ := r.cons_inv
      obtain ⟨v4, w4, rfl, r4, r⟩ := r.cons_inv
      obtain ⟨v5, w5, rfl, r5, r⟩ := r.cons_inv
      obtain rfl := r.nil_inv
      obtain rfl := r1.str_inv
      obtain rfl := r2.str_inv
      obtain rfl := r3.int_inv
      exact ⟨a, _, rfl, ha, v4, v5, rfl, r4, r5⟩
theorem ixN_last (n : Nat) : ixN (n + 1) (-1) = some n := by
  unfold ixN
  rw [if_neg (by omega), if_pos (by omega)]
  congr 1
  omega
theorem atI_zero {α : Type} (x : α) (r : List α) : atI (x :: r) 0 = some x := by
  unfold atI ixN
  rw [if_pos (by omega), if_pos (by simp only [List.length_cons]; omega)]; rfl
theorem atI_last {α : Type} (xs : List α) (x : α) : atI (xs ++ [x]) (-1) = some x := by
  unfold atI
  rw [List.length_append]
  show (ixN (xs.length + 1) (-1)).bind _ = _
  rw [ixN_last]
  simp
theorem RpL.snoc_inv {G : Hp} {vs : List V} {m : List Nd} {y : Nd} (h : RpL G vs (encM (m ++ [y]))) : ∃ ws v, vs = ws ++ [v] ∧ RpL G ws (encM m) ∧ Rp G v (encN y) := by
  induction m generalizing vs with
  | nil =>
    rw [List.nil_append] at h
    obtain ⟨v, ws, rfl, h1, h2⟩ := (show RpL G vs (encN y :: encM []) by rw [encM] at h; exact h).cons_inv
    obtain rfl := (show RpL G ws [] by rw [encM] at h2; exact h2).nil_inv
    exact ⟨[], v, rfl, by rw [encM]; exact .nil, h1⟩
  | cons x m ih =>
    obtain ⟨v, ws, rfl, h1, h2⟩ := (show RpL G vs (encN x :: encM (m ++ [y])) by rw [List.cons_append, encM] at h; exact h).cons_inv
    obtain ⟨us, w, rfl, h3, h4⟩ := ih h2
    exact ⟨v :: us, w, rfl, by rw [encM]; exact .cons h1 h3, h4⟩
section
variable {P : Program} {w : World} {K : PySem.W.Frag} {mg : Str → Option Value} {base : Heap}
def spAt (K : PySem.W.Frag) (i : Int) : Sp := fun vs H Q _ => ∃ a xs v, vs = [.ref a] ∧ SqT K H a xs ∧ atI xs i = some v ∧ Q v H
theorem ok_cases_of (T : Tx K mg) : C8.Cal P w K mg base 1 "cases_of" (spAt K (-2)) [] := by
  refine cal_of T.d_cases_of T.g_cases_of (fun _ _ _ _ _ _ us hl => match us, hl with | [_], _ => rfl) sc_cases_of (fun vs H Q E h => ?_) (fun cdv A outer s H vs Q E hr h => ?_)
  · obtain ⟨a, xs, v, rfl, _⟩ := h; rfl
  obtain ⟨a, xs, v, rfl, h1, h2, q⟩ := h
  refine ⟨_, (pss_one (ps_ret (pe_ix ix_tup (pv 0) (pe_un un_neg pe_int) (fun _ _ => rfl)))), ?_⟩
  exact ⟨_, rfl, _, rfl, a, xs, _, v, rfl, rfl, h1, h2, q⟩
theorem ok_other_of (T : Tx K mg) : C8.Cal P w K mg base 1 "other_of" (spAt K (-1)) [] := by
  refine cal_of T.d_other_of T.g_other_of (fun _ _ _ _ _ _ us hl => match us, hl with | [_], _ => rfl) sc_other_of (fun vs H Q E h => ?_) (fun cdv A outer s H vs Q E hr h => ?_)
  · obtain ⟨a, xs, v, rfl, _⟩ := h; rfl
  obtain ⟨a, xs, v, rfl, h1, h2, q⟩ := h
  refine ⟨_, (pss_one (ps_ret (pe_ix ix_tup (pv 0) (pe_un un_neg pe_int) (fun _ _ => rfl)))), ?_⟩
  exact ⟨_, rfl, _, rfl, a, xs, _, v, rfl, rfl, h1, h2, q⟩
def spPlain (K : PySem.W.Frag) (d : Nat) : Sp := fun vs H Q _ => ∃ G v m, vs = [v] ∧ Same G H ∧ Rp G v (.list (encM m)) ∧ dpM m < d ∧ szM m ≤ 15000000 ∧ ∀ G' H' v', Gw [] G H G' H' → Rp G' v' (.list (encM (plainM m))) → Q v' H'
def spPlainN (K : PySem.W.Frag) (d : Nat) : Sp := fun vs H Q _ => ∃ G v x, vs = [v] ∧ Same G H ∧ Rp G v (encN x) ∧ dpN x ≤ d ∧ szN x ≤ 15000000 ∧ ∀ G' H' v', Gw [] G H G' H' → Rp G' v' (encN (plainN x)) → Q v' H'
theorem ok_plain_node (T : Tx K mg) {km d : Nat} (hkm : 1 ≤ km) (c_plain : C8.Cal P w K mg base km "plain" (spPlain K d) []) : C8.Cal P w K mg base (km + 1) "plain_node" (spPlainN K d) [] := by
  refine cal_of T.d_plain_node T.g_plain_node (fun _ _ _ _ _ _ us hl => match us, hl with | [_], _ => rfl) sc_plain_node (fun vs H Q E h => ?_) (fun cdv A outer s H vs Q E hr h => ?_)
  · obtain ⟨G, v, x, rfl, _⟩ := h; rfl
  obtain ⟨G, v, x, rfl, s0, rv, hd, hz, q⟩ := h
  have c_cases_of : C8.Cal P w K mg base 1 "cases_of" (spAt K (-2)) [] := ok_cases_of T
  have c_other_of : C8.Cal P w K mg base 1 "other_of" (spAt K (-1)) [] := ok_other_of T
  refine ⟨_, (pss_cons (ps_if (pt_cmpR op_notIn_seq (pe_ix ix_tup (pv 0) pe_int (fun _ _ => rfl)) (pe_gr T.g_CHOICES) rfl)
      (pss_one (ps_ret (pv 0)))
      pss_nil)
    (pss_cons (ps_setLc (i := 1) (own := [("key", 2), ("message", 3)]) (g := gTup K 2 (gCons (gName 2) (gCons (gName 3) (gNil)))) (tt := tYes) rfl sc_plain_node.nd rfl rfl (sw_true rfl rfl rfl (by decide +kernel)) (pi_list (C8.pe_c c_cases_of hr (by omega) rfl (pa_cons (pv 0) pa_nil))) (blkOk_by (own := [("key", 2), ("message", 3)]) (N := N_plain_node) (sc := defScope s_plain_node) (by decide +kernel)) (fun _ _ _ _ _ => (pg_tup rfl (pgs_cons (pg_name (i := 2) sc_plain_node.nd rfl (Or.inl rfl)) (pgs_cons (pg_name (i := 3) sc_plain_node.nd rfl (Or.inl rfl)) pgs_nil)))) (fun _ _ _ _ _ => pts_nil) (fun _ _ _ _ _ => (pe_tup (pa_cons (pv 2) (pa_cons (C8.pe_c c_plain hr (by omega) rfl (pa_cons (pv 3) pa_nil)) pa_nil)))))
    (pss_one (ps_ret (pe_op op_catT (pe_slice sl_tup (pv 0) po_none (po_some (pe_un un_neg pe_int))) (pe_tup (pa_cons (pv 1) (pa_cons (C8.pe_c c_plain hr (by omega) rfl (pa_cons (C8.pe_c c_other_of hr (by omega) rfl (pa_cons (pv 0) pa_nil)) pa_nil)) pa_nil)))))))), ?_⟩
  obtain ⟨a, rest, rfl, ha, hx⟩ := node_inv rv
  have haH := s0 _ _ ha
  refine ⟨_, rfl, a, _, _, _, rfl, rfl, SqT.of haH, atI_zero _ _, _, _, rfl, .inr (T.t_CHOICES _), rfl, rfl, _, rfl, ?_⟩
  have e2 : inV (.str (S (tagN x))) [.str (S tSel), .str (S tPlu)] = decide (tagN x ∈ [tSel, tPlu]) := in_strs _ [tSel, tPlu]
  rw [e2]
  refine iteDN (fun hn => ?_) (fun hy => ?_)
  · have e : plainN x = x := by
      cases x with
      | txt s => rfl
      | shw n => rfl
      | num => rfl
      | cho pl n off cs ot => exact absurd (by cases pl <;> simp [tagN, tKind]) hn
    exact ⟨_, rfl, q G H _ (Gw.refl s0) (by rw [e]; exact rv)⟩
  cases x with
  | txt s => exact absurd hy (by show tText ∉ [tSel, tPlu]; decide)
  | shw n => exact absurd hy (by show tShow ∉ [tSel, tPlu]; decide)
  | num => exact absurd hy (by show tNum ∉ [tSel, tPlu]; decide)
  | cho pl n off cs ot =>
    obtain ⟨cv, ov, hrest, rc, ro⟩ := hx
    obtain ⟨ca, cvs, rfl, hca, rcv⟩ := rc.lst_inv
    have hcaH := s0 _ _ hca
    have hlen2 : atI (V.str (S (tagN (.cho pl n off cs ot))) :: rest) (-2) = some (V.ref ca) := by
      cases pl with
      | true => rw [show rest = _ from hrest]; rfl
      | false => rw [show rest = _ from hrest]; rfl
    have hlen1 : atI (V.str (S (tagN (.cho pl n off cs ot))) :: rest) (-1) = some ov := by
      cases pl with
      | true => rw [show rest = _ from hrest]; rfl
      | false => rw [show rest = _ from hrest]; rfl
    have hdp : dpC cs < d ∧ dpM ot < d := by
      simp only [dpN] at hd; omega
    have hszs : szC cs ≤ 15000000 ∧ szM ot ≤ 15000000 := by
      simp only [szN] at hz; omega
    -- the cases, made plain
    dsimp only [tNext, tSeq]
    refine asg_lc (fun D H' => H D = none ∧ ∃ G' ws, Gw [D] G (upd H D (.lst [])) G' H' ∧ H' D = some (.lst ws) ∧ RpL G' ws (encC (plainC cs))) (fun Q hQ => ?_) (fun D H' h => ?_)
    refine ⟨_, rfl, a, _, _, rfl, SqT.of haH, hlen2, ca, rfl, ⟨cvs, SqL.of hcaH⟩, lc_over (runs_l (xs := cvs))
      (fun D i H' => H D = none ∧ ∃ G' ws, Gw [D] G (upd H D (.lst [])) G' H' ∧ H' D = some (.lst ws) ∧ ws.length = i ∧ RpL G' ws (encC (plainC (cs.take i)))) (fun D i H' h => ?_) (fun D hD => ?_) (fun D i x H' hD hx h => ?_) (fun D H' hD h => ?_)⟩
    · obtain ⟨hD, G', ws, g, _⟩ := h
      exact SqL.of (g.sh _ _ hca)
    · have g0 : Gw [] G H G _ := Gw.allocM (o := HO.lst []) s0 hD
      exact ⟨hD, G, [], Gw.refl g0.gh, upd_same, rfl, by rw [List.take_zero]; exact .nil⟩
    · obtain ⟨_, G', ws, g, hDl, hwl, rws⟩ := h
      obtain ⟨dd, hdd, rx⟩ := rcv.get hx
      rw [encC_get] at hdd
      cases hq : cs[i]? with
      | none => rw [hq] at hdd; cases hdd
      | some km =>
        obtain ⟨k, m⟩ := km
        rw [hq] at hdd
        cases hdd
        obtain ⟨xa, ys, rfl, hxa, ry⟩ := rx.tup_inv
        obtain ⟨y1, ys1, rfl, r1, ry1⟩ := ry.cons_inv
        obtain ⟨y2, ys2, rfl, r2, ry2⟩ := ry1.cons_inv
        obtain rfl := ry2.nil_inv
        obtain rfl := r1.key_inv
        have hmem : (k, m) ∈ cs := List.mem_of_getElem? hq
        have hm1 := mem_dpC hmem
        have hm2 := mem_szC hmem
        refine ⟨xa, _, rfl, SqT.of (g.sh _ _ hxa), rfl, _, _, rfl, _, _, rfl, rfl, rfl, _, rfl, _, rfl, G', y2, m, rfl, g.gh, r2.same g.gg, by omega, by omega, fun G2 H2 v2 g2 rv2 => ?_⟩
        refine ⟨by show 2 ≤ sizeLine; exact szOf (by decide), fun t ht => ?_⟩
        have gt : Gw [] G2 H2 _ _ := Gw.alloc (o := HO.tup [encV k, v2]) g2.gh ht
        have w2 := (g.trans g2.nil).trans gt.nil
        have hDl2 : _ = some (HO.lst ws) := gt.same _ _ (g2.same _ _ hDl)
        have gD : (upd G2 t (.tup [encV k, v2])) D = none := w2.none upd_ne_none (by
          cases z : G D with
          | none => rfl
          | some u => rw [s0 _ _ z] at hD; cases hD)
        have gw : Gw [D] _ _ _ _ := Gw.write (M := [D]) (o := HO.lst (ws ++ [V.ref t])) gt.gh gD (List.mem_singleton.mpr rfl)
        have hil : i < cs.length := (List.getElem?_eq_some_iff.mp hq).1
        have hcl := len_szC cs
        refine ⟨ws, hDl2, by rw [hwl, sizeLine_eq]; omega, hD, _, ws ++ [V.ref t], w2.trans gw, upd_same, by rw [List.length_append, hwl]; rfl, ?_⟩
        rw [take_snoc hq, plainC_eq, List.map_append, encC_append, ← plainC_eq]
        exact (rws.same (g2.gg.trans gt.gg)).snoc (.tup upd_same (.cons (Rp.key k) (.cons (rv2.same gt.gg) .nil)))
    · obtain ⟨_, G', ws, g, hDl, hwl, rws⟩ := h
      have e : cvs.length = cs.length := by rw [rcv.length, encC_len]
      rw [e, List.take_length] at rws
      exact hQ D H' ⟨hD, G', ws, g, hDl, rws⟩
    · obtain ⟨hD, G', ws, g, hDl, rws⟩ := h
      have hGD : G' D = none := g.none upd_ne_none (by
          cases z : G D with
          | none => rfl
          | some u => rw [s0 _ _ z] at hD; cases hD)
      have wc : Gw [] G H (upd G' D (.lst ws)) H' := Gw.close s0 hD g hDl
      have sD : Same G' (upd G' D (.lst ws)) := same_upd hGD
      have rD : Rp (upd G' D (.lst ws)) (.ref D) (.list (encC (plainC cs))) := .lst upd_same (rws.same sD)
      have haG : (upd G' D (.lst ws)) a = _ := wc.gg _ _ ha
      have ro' := ro.same wc.gg
      have sz1 : ∀ p, upd H' p (.tup (cutV (V.str (S (tagN (.cho pl n off cs ot))) :: rest) none (some (-2)))) = upd H' p (.tup (headV pl n off)) := fun p => by
        cases pl with
        | true => rw [show rest = _ from hrest]; rfl
        | false => rw [show rest = _ from hrest]; rfl
      refine ⟨_, rfl, _, rfl, _, rfl, a, _, rfl, SqT.of (wc.gh _ _ haG), ?_, fun pa hpa => ?_⟩
      · cases pl with
        | true => rw [show rest = _ from hrest]; show ¬ (HT.sIx 5 0 none = 0 ∧ HT.sIx 5 5 (some (-2)) = 5); decide
        | false => rw [show rest = _ from hrest]; show ¬ (HT.sIx 4 0 none = 0 ∧ HT.sIx 4 4 (some (-2)) = 4); decide
      · have e3 : cutV (V.str (S (tagN (.cho pl n off cs ot))) :: rest) none (some (-2)) = headV pl n off := by
          cases pl with
          | true => rw [show rest = _ from hrest]; rfl
          | false => rw [show rest = _ from hrest]; rfl
        rw [e3] at *
        have ga : Gw [] (upd G' D (.lst ws)) H' _ _ := Gw.allocM (o := HO.tup (headV pl n off)) wc.gh hpa
        refine ⟨_, rfl, _, rfl, a, _, ov, rfl, SqT.of (ga.gh _ _ haG), hlen1, _, ov, ot, rfl, ga.gh, ro', hdp.2, hszs.2, fun G2 H2 v2 g2 rv2 => ?_⟩
        refine ⟨by show 2 ≤ sizeLine; exact szOf (by decide), fun t2 ht2 => ?_⟩
        have g3 : Gw [] G2 H2 G2 _ := Gw.allocM (o := HO.tup [V.ref D, v2]) g2.gh ht2
        refine ⟨pa, t2, headV pl n off, _, rfl, rfl, SqT.of (g3.same _ _ (g2.same _ _ upd_same)), SqT.of upd_same, ?_, ?_, fun z => (by cases z), fun _ pr hpr => ?_⟩
        · unfold headV; split <;> simp
        · refine szOf ?_
          unfold headV; split
          · show 5 ≤ 1000; decide
          · show 4 ≤ 1000; decide
        · have gp : Gw [] G2 _ _ _ := Gw.alloc (o := HO.tup (headV pl n off ++ [V.ref D, v2])) g3.gh hpr
          refine q _ _ _ ((((wc.trans ga).trans g2).trans g3).trans gp) ?_
          rw [plainN]
          cases rD with
          | lst hD1 hD2 =>
            exact enc_cho (gp.gg _ _ (g2.gg _ _ hD1)) ((hD2.same g2.gg).same gp.gg) (rv2.same gp.gg) upd_same
end
end Mw

set_option Elab.async false
set_option linter.all false
set_option maxRecDepth 100000
set_option maxHeartbeats 4000000
/-! MwPl2: plain, walked. -/
namespace Mw
open PySem PySem.Spec L2
open SX (S S_cat S_len S_inj)
abbrev rNe2 (K : PySem.W.Frag) : R2 := fun x y H Q => ∃ (a b : Addr) (u0 z0 z1 : Str) (rest : List V), x = .ref a ∧ y = .ref b ∧ SqT K H a (.str u0 :: rest) ∧ SqT K H b [.str z0, .str z1] ∧
    (∀ v, rest[0]? = some v → ∃ u1, v = .str u1) ∧ ((u0 ≠ z0 ∧ Q (.bl true) H) ∨ (u0 = z0 ∧ ∃ u1, rest = [.str u1] ∧ Q (.bl (!decide (u1 = z1))) H))
theorem sz_take {m : List Nd} {i : Nat} {x : Nd} (h : m[i]? = some x) : szM (m.take i) + szN x ≤ szM m := by
  have e : m = m.take i ++ x :: m.drop (i + 1) := by
    obtain ⟨h1, h2⟩ := List.getElem?_eq_some_iff.mp h
    rw [← h2, ← List.drop_eq_getElem_cons h1, List.take_append_drop]
  have : szM m = szM (m.take i) + (szN x + szM (m.drop (i + 1))) := by
    conv => lhs; rw [e]
    rw [szM_append, szM]
  omega
def emptyT : Nd → Bool
  | .txt [] => true
  | _ => false
theorem emptyT_txt (s : List Nat) : emptyT (.txt s) = decide (s = []) := by cases s <;> rfl
theorem emptyT_other {x : Nd} (h : isTxt x = false) : emptyT x = false := by
  cases x with
  | txt s => cases h
  | shw n => rfl
  | num => rfl
  | cho pl n off cs ot => rfl
theorem rest_str {x : Nd} {rest : List V} {G : Hp} (h : restOk G x rest) : ∀ v, rest[0]? = some v → ∃ u1, v = .str u1 := by
  intro v hv
  cases x with
  | txt s => rw [show rest = _ from h] at hv; cases hv; exact ⟨_, rfl⟩
  | shw s => rw [show rest = _ from h] at hv; cases hv; exact ⟨_, rfl⟩
  | num => rw [show rest = _ from h] at hv; cases hv
  | cho pl n off cs ot =>
    obtain ⟨cv, ov, h, _⟩ := h
    cases pl with
    | true => rw [show rest = _ from h] at hv; cases hv; exact ⟨_, rfl⟩
    | false => rw [show rest = _ from h] at hv; cases hv; exact ⟨_, rfl⟩
theorem tag_text {x : Nd} (h : isTxt x = false) : tagN x ≠ tText := by
  cases x with
  | txt s => cases h
  | shw n => show tShow ≠ tText; decide
  | num => show tNum ≠ tText; decide
  | cho pl n off cs ot => cases pl with
    | true => show tPlu ≠ tText; decide
    | false => show tSel ≠ tText; decide
theorem isTxt_plain (x : Nd) : isTxt (plainN x) = isTxt x := by cases x <;> rfl
section
variable {P : Program} {w : World} {K : PySem.W.Frag} {mg : Str → Option Value} {base : Heap}
theorem ok_plain (T : Tx K mg) {km d : Nat} (hkm : 1 ≤ km) (c_plain_node : C8.Cal P w K mg base km "plain_node" (spPlainN K d) []) : C8.Cal P w K mg base (km + 1) "plain" (spPlain K (d + 1)) [] := by
  refine cal_of T.d_plain T.g_plain (fun _ _ _ _ _ _ us hl => match us, hl with | [_], _ => rfl) sc_plain (fun vs H Q E h => ?_) (fun cdv A outer s H vs Q E hr h => ?_)
  · obtain ⟨G, v, x, rfl, _⟩ := h; rfl
  obtain ⟨G, v, m, rfl, s0, rv, hd, hz, q⟩ := h
  refine ⟨_, (pss_cons (ps_set (i := 1) sc_plain.nd rfl (Or.inl rfl) (pe_lst pa_nil))
    (pss_cons (ps_for PassesOwn.never rfl (pi_list (pv 0)) (pg_name (i := 2) sc_plain.nd rfl (Or.inl rfl))
      (pss_one (ps_if (PW.pt (pw_and (pt_cmpR op_eq (pe_ix ix_tup (pv 2) pe_int (fun _ _ => rfl)) (pe_gs T.s_TEXT) (nomark _)) (pw_and (pt_truth (pv 1) (by intro _; rfl)) (pw_and1 (pt_cmpR op_eq (pe_ix ix_tup (pe_ix ix_list (pv 1) (pe_un un_neg pe_int) (fun _ _ => rfl)) pe_int (fun _ _ => rfl)) (pe_gs T.s_TEXT) (nomark _))))))
        (pss_one (ps_asg (pe_tup (pa_cons (pe_gs T.s_TEXT) (pa_cons (pe_op op_addS (pe_ix ix_tup (pe_ix ix_list (pv 1) (pe_un un_neg pe_int) (fun _ _ => rfl)) pe_int (fun _ _ => rfl)) (pe_ix ix_tup (pv 2) pe_int (fun _ _ => rfl))) pa_nil))) (pg_sub (pv 1) (pe_un un_neg pe_int) set_list)))
        (pss_one (ps_if (pt_cmpR (op_ne2 hr.units0) (pv 2) (pe_tup (pa_cons (pe_gs T.s_TEXT) (pa_cons (pe_s []) pa_nil))) (nomark _))
          (pss_one (ps_expr (pe_bm PySem.F.plainAttrs_list PySem.F.slot_list_append PySem.F.type_list_append mt_append (pv 1) (pa_cons (C8.pe_c c_plain_node hr (by omega) rfl (pa_cons (pv 2) pa_nil)) pa_nil))))
          pss_nil)))))
    (pss_one (ps_ret (pv 1))))), ?_⟩
  obtain ⟨ma, mvs, rfl, hma, rm⟩ := rv.lst_inv
  refine ⟨by show 0 ≤ sizeLine; exact Nat.zero_le _, fun c hc => ?_⟩
  have gc0 : Gw [] G H G _ := Gw.allocM (o := HO.lst []) s0 hc
  have hcG : G c = none := by
    cases z : G c with
    | none => rfl
    | some u => rw [s0 _ _ z] at hc; cases hc
  let Pv : Nat → L2.St → Hp → Prop := fun i σ H' => ∃ G' vs v2, σ = [some (.ref ma), some (.ref c), v2] ∧ Gw [c] G (upd H c (.lst [])) G' H' ∧ H' c = some (.lst vs) ∧ RpL G' vs (encM (plainA [] (m.take i)))
  refine ⟨_, rfl, ma, rfl, ⟨mvs, SqL.of (gc0.gh _ _ hma)⟩, for_over (runs_l (xs := mvs)) Pv (fun i σ H' h => ?_) ⟨G, [], none, rfl, Gw.refl gc0.gh, upd_same, by rw [List.take_zero, plainA, encM]; exact .nil⟩ (fun i xv σ H' hx h => ?_) (fun σ H' h => ?_)⟩
  · obtain ⟨G', vs, v2, rfl, g, _⟩ := h
    exact SqL.of (g.sh _ _ hma)
  · obtain ⟨G', vs, v2, rfl, g, hcl, rvs⟩ := h
    obtain ⟨dd, hdd, rx⟩ := rm.get hx
    rw [encM_get] at hdd
    cases hq : m[i]? with
    | none => rw [hq] at hdd; cases hdd
    | some x =>
      rw [hq] at hdd
      cases hdd
      have hmem : x ∈ m := List.mem_of_getElem? hq
      have hm1 := mem_dp hmem
      have hm2 := mem_sz hmem
      have hst := sz_take hq
      have hpl : szM (plainA [] (m.take i)) ≤ szM (m.take i) := szM_plain _
      have hsn := plainA_snoc hq
      generalize hacc : plainA [] (m.take i) = acc at rvs hpl hsn
      have hvl : vs.length = acc.length := by rw [rvs.length, encM_len]
      have hal := len_szM acc
      obtain ⟨a, rest, rfl, ha, hrest⟩ := node_inv rx
      have ha' := g.gg _ _ ha
      have app : ∀ H1, Gw [] G' H' G' H1 → pushN acc (plainN x) = acc ++ [plainN x] → ∀ D : Ends, D.nx = Pv (i + 1) → tDrop (tBM K "list" rAppend (tVar 1) (tCons (tCall (spPlainN K d) [] C8.E0 (tCons (tVar 2) tNil)) tNil)) D [some (.ref ma), some (.ref c), some (.ref a)] H1 := fun H1 g1 hpu D hD => by
        have hc1 := g1.same _ _ hcl
        refine ⟨_, rfl, .inl ⟨rfl, vs, SqL.of hc1⟩, _, rfl, G', _, x, rfl, g1.gh, rx.same g.gg, by omega, by omega, fun G2 H2 v2 g2 rv2 => ?_⟩
        have hc2 := g2.same _ _ hc1
        have w2 := (g.trans g1.nil).trans g2.nil
        have gw : Gw [c] G2 H2 G2 _ := Gw.write (M := [c]) (o := HO.lst (vs ++ [v2])) g2.gh (w2.none upd_ne_none hcG) (List.mem_singleton.mpr rfl)
        refine ⟨c, vs, _, rfl, rfl, hc2, by rw [hvl, sizeLine_eq]; omega, ?_⟩
        rw [hD]
        refine ⟨G2, vs ++ [v2], _, rfl, w2.trans gw, upd_same, ?_⟩
        rw [hsn, hpu, encM_append]
        exact (rvs.same g2.gg).snoc rv2
      have els : pushN acc (plainN x) = (if emptyT x = true then acc else acc ++ [plainN x]) → ∀ D : Ends, D.nx = Pv (i + 1) → tIfS (tTest (tOp (rNe2 K) (tVar 2) (tTup (tCons (tC (.str (S tText))) (tCons (tC (.str (S []))) tNil)))))
          (tDrop (tBM K "list" rAppend (tVar 1) (tCons (tCall (spPlainN K d) [] C8.E0 (tCons (tVar 2) tNil)) tNil))) tNext D [some (.ref ma), some (.ref c), some (.ref a)] H' := fun hpu D hD => by
        refine ⟨_, rfl, by show 2 ≤ sizeLine; exact szOf (by decide), fun t ht => ?_⟩
        have g1 : Gw [] G' H' G' _ := Gw.allocM (o := HO.tup [V.str (S tText), V.str (S [])]) g.gh ht
        refine ⟨a, t, S (tagN x), S tText, S [], rest, rfl, rfl, SqT.of (g1.gh _ _ ha'), SqT.of upd_same, rest_str hrest, ?_⟩
        by_cases hx : isTxt x = true
        · cases x with
          | txt s =>
            refine .inr ⟨rfl, S s, by rw [show rest = _ from hrest], _, rfl, iteDN (fun hs => ?_) (fun hs => ?_)⟩
            · refine app _ g1 ?_ D hD
              rw [hpu, emptyT_txt, if_neg (by simpa using fun z => hs (by rw [z]))]
            · have hs' : s = [] := S_inj hs
              subst hs'
              rw [emptyT_txt, if_pos (by decide)] at hpu
              show D.nx _ _
              rw [hD]
              refine ⟨G', vs, _, rfl, g.trans g1.nil, g1.same _ _ hcl, ?_⟩
              rw [hsn, hpu]; exact rvs
          | shw n => cases hx
          | num => cases hx
          | cho pl n off cs ot => cases hx
        · have hx' : isTxt x = false := by simpa using hx
          refine .inl ⟨fun z => tag_text hx' (S_inj z), _, rfl, iteT (app _ g1 ?_ D hD)⟩
          rw [hpu, emptyT_other hx']; rfl
      refine ⟨_, rfl, a, _, _, _, rfl, rfl, SqT.of (g.gh _ _ ha'), atI_zero _ _, rfl, _, rfl, iteS (fun ht => ?_) (fun ht => ?_)⟩
      · cases x with
        | txt s =>
          rcases List.eq_nil_or_concat acc with rfl | ⟨b, y, rfl⟩
          · have hv0 : vs = [] := List.length_eq_zero_iff.mp hvl
            subst hv0
            refine ⟨_, rfl, false, .inl ⟨[], SqL.of hcl, rfl⟩, iteF (iteF (els ?_ _ rfl))⟩
            rw [plainN, pushN_new _ _ (by intro b t z; simp at z)]
            rw [emptyT_txt]
            by_cases hs : s = []
            · rw [if_pos hs, if_pos (decide_eq_true hs)]
            · rw [if_neg hs, if_neg (by simpa using hs)]
          · rw [List.concat_eq_append] at *
            obtain ⟨ws, lv, rfl, rws, rl⟩ := rvs.snoc_inv
            refine ⟨_, rfl, true, .inl ⟨_, SqL.of hcl, by simp⟩, iteT ?_⟩
            obtain ⟨la, lrest, rfl, hla, hlr⟩ := node_inv rl
            refine ⟨_, rfl, _, rfl, c, _, _, _, rfl, rfl, SqL.of hcl, atI_last _ _, la, _, _, _, rfl, rfl, SqT.of (g.gh _ _ hla), atI_zero _ _, rfl, _, rfl, iteS (fun hy => ?_) (fun hy => ?_)⟩
            · cases y with
              | txt t =>
                rw [show lrest = _ from hlr] at hla
                rw [show rest = _ from hrest] at ha'
                have hts : t.length + s.length ≤ big := by
                  rw [szM_append] at hpl
                  simp only [szM, szN] at hpl hst
                  unfold big; omega
                refine ⟨_, rfl, _, rfl, c, _, _, _, rfl, rfl, SqL.of hcl, atI_last _ _, la, _, _, _, rfl, rfl, SqT.of (g.gh _ _ hla), rfl, _, rfl, a, _, _, _, rfl, rfl, SqT.of (g.gh _ _ ha'), rfl, t, s, rfl, rfl, hts, ?_⟩
                refine ⟨by show 2 ≤ sizeLine; exact szOf (by decide), fun t2 ht2 => ?_⟩
                have g1 : Gw [] G' H' _ _ := Gw.alloc (o := HO.tup [V.str (S tText), V.str (S (t ++ s))]) g.gh ht2
                have w1 := g.trans g1.nil
                have gw : Gw [c] _ _ _ _ := Gw.write (M := [c]) (o := HO.lst (ws ++ [V.ref t2])) g1.gh (w1.none upd_ne_none hcG) (List.mem_singleton.mpr rfl)
                have eset : (ws ++ [V.ref la]).set ws.length (V.ref t2) = ws ++ [V.ref t2] := by simp
                refine ⟨_, rfl, _, rfl, c, _, _, ws.length, rfl, rfl, g1.same _ _ hcl, by rw [List.length_append]; exact ixN_last _, ?_⟩
                rw [eset]
                refine ⟨_, ws ++ [V.ref t2], _, rfl, w1.trans gw, upd_same, ?_⟩
                rw [hsn, plainN, pushN_merge, encM_append]
                exact (rws.same g1.gg).snoc (.tup upd_same (.cons (.str _) (.cons (.str _) .nil)))
              | shw n => exact absurd hy (by show tShow ≠ tText; decide)
              | num => exact absurd hy (by show tNum ≠ tText; decide)
              | cho pl n off cs ot => exact absurd hy (tag_text (x := .cho pl n off cs ot) rfl)
            · refine els ?_ _ rfl
              rw [plainN, pushN_new]
              · rw [emptyT_txt]
                by_cases hs : s = []
                · rw [if_pos hs, if_pos (decide_eq_true hs)]
                · rw [if_neg hs, if_neg (by simpa using hs)]
              · intro b' t z
                have z' : y = .txt t := by
                  have := congrArg List.getLast? z
                  simpa using this
                exact hy (by rw [z']; rfl)
        | shw n => exact absurd ht (by show tShow ≠ tText; decide)
        | num => exact absurd ht (by show tNum ≠ tText; decide)
        | cho pl n off cs ot => exact absurd ht (tag_text (x := .cho pl n off cs ot) rfl)
      · refine iteF (els ?_ _ rfl)
        have hx' : isTxt x = false := by
          cases x with
          | txt s => exact absurd rfl ht
          | shw n => rfl
          | num => rfl
          | cho pl n off cs ot => rfl
        rw [pushN_other _ _ (by rw [isTxt_plain]; exact hx'), emptyT_other hx']; rfl
  · obtain ⟨G', vs, v2, rfl, g, hcl, rvs⟩ := h
    have e : mvs.length = m.length := by rw [rm.length, encM_len]
    rw [e, List.take_length] at rvs
    have wc : Gw [] G H (upd G' c (.lst vs)) H' := Gw.close s0 hc g hcl
    exact ⟨_, rfl, q _ _ _ wc (.lst upd_same (rvs.same (same_upd (g.none upd_ne_none hcG))))⟩
theorem plains (T : Tx K mg) : ∀ d : Nat, C8.Cal P w K mg base (2 * d + 2) "plain" (spPlain K d) []
  | 0 => by
    refine cal_of (k := 1) T.d_plain T.g_plain (fun _ _ _ _ _ _ us hl => match us, hl with | [_], _ => rfl) sc_plain (fun vs H Q E h => ?_) (fun cdv A outer s H vs Q E hr h => ?_)
    · obtain ⟨G, v, m, rfl, _⟩ := h; rfl
    · obtain ⟨G, v, m, rfl, s0, rv, hd, _⟩ := h
      exact absurd hd (by omega)
  | d + 1 => ok_plain T (by omega) (ok_plain_node T (by omega) (plains T d))
end
end Mw

set_option Elab.async false
set_option linter.all false
set_option maxRecDepth 100000
set_option maxHeartbeats 4000000
/-! MwFm: the notation, walked. -/
namespace Mw
open PySem PySem.Spec L2
open SX (S S_cat S_len S_inj)
def numK : Ky → Prop
  | .ix i => i ≤ 999
  | .wd _ => True
mutual
def numN : Nd → Prop
  | .txt _ => True
  | .shw _ => True
  | .num => True
  | .cho _ _ off cs ot => off ≤ 9 ∧ numC cs ∧ numM ot
def numM : List Nd → Prop
  | [] => True
  | x :: r => numN x ∧ numM r
def numC : List (Ky × List Nd) → Prop
  | [] => True
  | (k, m) :: r => numK k ∧ numM m ∧ numC r
end
theorem mem_num : ∀ {m : List Nd} {x : Nd}, numM m → x ∈ m → numN x
  | _ :: _, _, h, hm => by
    unfold numM at h
    rcases List.mem_cons.mp hm with rfl | hm
    · exact h.1
    · exact mem_num h.2 hm
theorem mem_numC : ∀ {cs : List (Ky × List Nd)} {k : Ky} {m : List Nd}, numC cs → (k, m) ∈ cs → numK k ∧ numM m
  | _ :: _, _, _, h, hm => by
    unfold numC at h
    rcases List.mem_cons.mp hm with hm | hm
    · cases hm; exact ⟨h.1, h.2.1⟩
    · exact mem_numC h.2.2 hm
theorem fmtC_len (c : Nat) : (fmtC c).length ≤ 3 := by
  unfold fmtC; split
  · decide
  · split
    · simp
    · simp
theorem fmtT_len : ∀ s : List Nat, (fmtT s).length ≤ 3 * s.length
  | [] => by simp [fmtT]
  | c :: r => by
    have h := fmtT_len r
    have h2 := fmtC_len c
    unfold fmtT at h ⊢
    simp only [List.flatMap_cons, List.length_append, List.length_cons]
    omega
theorem fmtO_len {pl : Bool} {off : Nat} (h : off ≤ 9) : (fmtO pl off).length ≤ 9 := by
  unfold fmtO
  split
  · rw [TL.numL_lt (by omega)]; exact Nat.le_refl 9
  · decide
theorem tKind_len (pl : Bool) : (tKind pl).length = 6 := by cases pl <;> rfl
mutual
theorem fmtN_len : ∀ x : Nd, numN x → (fmtN x).length ≤ szN x
  | .txt s, _ => by have := fmtT_len s; simp only [fmtN, szN]; omega
  | .shw n, _ => by simp only [fmtN, szN, List.length_cons, List.length_append, List.length_nil]; omega
  | .num, _ => by simp [fmtN, szN]
  | .cho pl n off cs ot, h => by
    unfold numN at h
    have h1 := fmtCs_len cs h.2.1
    have h2 := fmtM_len ot h.2.2
    have h3 := fmtO_len (pl := pl) h.1
    have h4 := tKind_len pl
    simp only [fmtN, szN, List.length_cons, List.length_append, List.length_nil, h4]; omega
theorem fmtM_len : ∀ m : List Nd, numM m → (fmtM m).length ≤ szM m
  | [], _ => by simp [fmtM]
  | x :: r, h => by
    unfold numM at h
    have h1 := fmtN_len x h.1
    have h2 := fmtM_len r h.2
    simp only [fmtM, szM, List.length_append]; omega
theorem fmtCs_len : ∀ cs : List (Ky × List Nd), numC cs → (fmtCs cs).length ≤ szC cs
  | [], _ => by simp [fmtCs]
  | (k, m) :: r, h => by
    unfold numC at h
    have h1 := fmtM_len m h.2.1
    have h2 := fmtCs_len r h.2.2
    simp only [fmtCs, szC, List.length_append, List.length_cons, List.length_nil]; omega
end
/-- the word of a case -/
def caseW (q : Ky × List Nd) : List Nat := fmtK q.1 ++ [32, 123] ++ fmtM q.2 ++ [125]
theorem joinL_cons (s p : List Nat) {r : List (List Nat)} (h : r ≠ []) : TL.joinL s (p :: r) = p ++ (s ++ TL.joinL s r) := by
  cases r with
  | nil => exact absurd rfl h
  | cons q r => rfl
theorem join_cases (ot : List Nd) : ∀ cs : List (Ky × List Nd), TL.joinL [32] ((cs ++ [(Ky.wd tOth, ot)]).map caseW) = fmtCs cs ++ (tOth ++ ([32, 123] ++ (fmtM ot ++ [125])))
  | [] => by
    show caseW (.wd tOth, ot) = _
    unfold caseW fmtK fmtCs
    simp
  | (k, m) :: r => by
    rw [List.cons_append, List.map_cons, joinL_cons _ _ (by simp), join_cases ot r]
    unfold caseW
    rw [fmtCs]
    simp
def offW (pl : Bool) (off : Nat) : List (List Nat) := if pl = true ∧ 0 < off then [tOff ++ TL.numL off] else []
theorem join_all (pl : Bool) (off : Nat) (cs : List (Ky × List Nd)) (ot : List Nd) : TL.joinL [32] (offW pl off ++ (cs ++ [(Ky.wd tOth, ot)]).map caseW) = fmtO pl off ++ (fmtCs cs ++ (tOth ++ ([32, 123] ++ (fmtM ot ++ [125])))) := by
  unfold offW fmtO
  split
  · rw [List.singleton_append, joinL_cons _ _ (by simp), join_cases]
    simp
  · rw [List.nil_append, join_cases]; rfl
theorem sum_cases (ot : List Nd) (ho : numM ot) : ∀ cs : List (Ky × List Nd), numC cs → (((cs ++ [(Ky.wd tOth, ot)]).map caseW).map (·.length)).sum + ((cs ++ [(Ky.wd tOth, ot)]).map caseW).length ≤ szC cs + szM ot + 9
  | [], _ => by
    have := fmtM_len ot ho
    simp [caseW, fmtK, szC]; omega
  | (k, m) :: r, h => by
    unfold numC at h
    have h1 := fmtM_len m h.2.1
    have h2 := sum_cases ot ho r h.2.2
    simp only [List.cons_append, List.map_cons, List.sum_cons, List.length_cons, szC] at h2 ⊢
    simp only [caseW, List.length_append, List.length_cons, List.length_nil] at h2 ⊢
    omega
section
variable {P : Program} {w : World} {K : PySem.W.Frag} {mg : Str → Option Value} {base : Heap}
def spFKey : Sp := fun vs H Q _ => ∃ k : Ky, vs = [encV k] ∧ numK k ∧ Q (.str (S (fmtK k))) H
theorem ok_format_key (T : Tx K mg) : C8.Cal P w K mg base 1 "format_key" spFKey [] := by
  refine cal_of T.d_format_key T.g_format_key (fun _ _ _ _ _ _ us hl => match us, hl with | [_], _ => rfl) sc_format_key (fun vs H Q E h => ?_) (fun cdv A outer s H vs Q E hr h => ?_)
  · obtain ⟨k, rfl, _⟩ := h; rfl
  obtain ⟨k, rfl, hk, q⟩ := h
  refine ⟨_, (pss_cons (ps_if (pt_val (pe_callB call_isi (by rfl) T.f_isinstance (by decide +kernel) (pa_cons (pv 0) (pa_cons (pe_bltn (v := .ty "int") rfl T.f_int (by decide +kernel) rfl) pa_nil))))
      (pss_one (ps_ret (pe_op op_addS (pe_s [61]) (pe_callTy call_strS (by rfl) T.f_str (by decide +kernel) (pa_cons (pv 0) pa_nil)))))
      pss_nil)
    (pss_one (ps_ret (pv 0)))), ?_⟩
  cases k with
  | ix i =>
    have hi : i ≤ 999 := hk
    refine ⟨_, rfl, _, _, _, _, true, rfl, .ty "int", .base (.int _), kit_ty (by decide +kernel), _, rfl, iteT ?_⟩
    have h3 : (TL.numL i).length ≤ 3 := TL.numL_len (by decide) (by omega)
    exact ⟨_, rfl, .inl ⟨i, rfl, by omega, [61], TL.numL i, rfl, rfl, by show 1 + (TL.numL i).length ≤ big; unfold big; omega, q⟩⟩
  | wd s =>
    exact ⟨_, rfl, _, _, _, _, false, rfl, .ty "int", .base (.str _), kit_ty (by decide +kernel), _, rfl, iteF ⟨_, rfl, q⟩⟩
def spFmt (K : PySem.W.Frag) (d : Nat) : Sp := fun vs H Q _ => ∃ G v m, vs = [v] ∧ Same G H ∧ Rp G v (.list (encM m)) ∧ dpM m < d ∧ szM m ≤ 15000000 ∧ numM m ∧ ∀ H', Gw [] G H G H' → Q (.str (S (fmtM m))) H'
def spFmtN (K : PySem.W.Frag) (d : Nat) : Sp := fun vs H Q _ => ∃ G v x, vs = [v] ∧ Same G H ∧ Rp G v (encN x) ∧ dpN x ≤ d ∧ szN x ≤ 15000000 ∧ numN x ∧ ∀ H', Gw [] G H G H' → Q (.str (S (fmtN x))) H'
def spFmtC (K : PySem.W.Frag) (d : Nat) : Sp := fun vs H Q _ => ∃ G v pl n off cs ot, vs = [v] ∧ Same G H ∧ Rp G v (encN (.cho pl n off cs ot)) ∧ dpN (.cho pl n off cs ot) ≤ d ∧ szN (.cho pl n off cs ot) ≤ 15000000 ∧ numN (.cho pl n off cs ot) ∧ ∀ H', Gw [] G H G H' → Q (.str (S (fmtN (.cho pl n off cs ot)))) H'
theorem joinL_nil : ∀ ys : List (List Nat), TL.joinL [] ys = ys.flatten
  | [] => rfl
  | [p] => by show p = _; simp
  | p :: q :: r => by
    show p ++ ([] ++ TL.joinL [] (q :: r)) = _
    rw [joinL_nil (q :: r)]; simp
theorem fmtM_flat : ∀ m : List Nd, fmtM m = (m.map fmtN).flatten
  | [] => rfl
  | x :: r => by simp [fmtM, fmtM_flat r]
theorem sum_fmt : ∀ m : List Nd, numM m → ((m.map fmtN).map (·.length)).sum ≤ szM m
  | [], _ => by simp
  | x :: r, h => by
    unfold numM at h
    have h1 := fmtN_len x h.1
    have h2 := sum_fmt r h.2
    simp only [List.map_cons, List.sum_cons, szM]; omega
theorem ok_format_message (T : Tx K mg) {km d : Nat} (hkm : 1 ≤ km) (c_format_node : C8.Cal P w K mg base km "format_node" (spFmtN K d) []) : C8.Cal P w K mg base (km + 1) "format_message" (spFmt K (d + 1)) [] := by
  refine cal_of T.d_format_message T.g_format_message (fun _ _ _ _ _ _ us hl => match us, hl with | [_], _ => rfl) sc_format_message (fun vs H Q E h => ?_) (fun cdv A outer s H vs Q E hr h => ?_)
  · obtain ⟨G, v, m, rfl, _⟩ := h; rfl
  obtain ⟨G, v, m, rfl, s0, rv, hd, hz, hn, q⟩ := h
  refine ⟨_, (pss_one (ps_ret (pe_joinS (pe_s []) (pe_lc (own := [("node", 1)]) (g := gName 1) (tt := tYes) rfl sc_format_message.nd (pi_list (pv 0)) (blkOk_by (own := [("node", 1)]) (N := N_format_message) (sc := defScope s_format_message) (by decide +kernel)) (fun _ _ _ _ _ => pg_name (i := 1) sc_format_message.nd rfl (Or.inl rfl)) (fun _ _ _ _ _ => pts_nil) (fun _ _ _ _ _ => (C8.pe_c c_format_node hr (by omega) rfl (pa_cons (pv 1) pa_nil))))))), ?_⟩
  obtain ⟨ma, mvs, rfl, hma, rm⟩ := rv.lst_inv
  dsimp only [tRet, tM1, tC]
  refine ⟨⟨_, rfl⟩, ?_⟩
  refine tLc_gen (fun D H' => Gw [] G H G H' ∧ H' D = some (.lst ((m.map fmtN).map fun l => .str (S l)))) (fun Q' hQ => ?_) (fun D H' h => ?_)
  · refine ⟨_, rfl, ma, rfl, ⟨mvs, SqL.of (s0 _ _ hma)⟩, lc_over (runs_l (xs := mvs)) (fun D i H' => H D = none ∧ Gw [D] G (upd H D (.lst [])) G H' ∧ H' D = some (.lst (((m.take i).map fmtN).map fun l => .str (S l)))) (fun D i H' h => ?_) (fun D hD => ?_) (fun D i xv H' hD hx h => ?_) (fun D H' hD h => ?_)⟩
    · exact SqL.of (h.2.1.gh _ _ hma)
    · have g0 : Gw [] G H G _ := Gw.allocM (o := HO.lst []) s0 hD
      exact ⟨hD, Gw.refl g0.gh, by rw [upd_same]; rfl⟩
    · obtain ⟨_, g, hDl⟩ := h
      obtain ⟨dd, hdd, rx⟩ := rm.get hx
      rw [encM_get] at hdd
      cases hq : m[i]? with
      | none => rw [hq] at hdd; cases hdd
      | some x =>
        rw [hq] at hdd
        cases hdd
        have hmem : x ∈ m := List.mem_of_getElem? hq
        have hm1 := mem_dp hmem
        have hm2 := mem_sz hmem
        have hml := len_szM m
        refine ⟨rfl, _, rfl, G, xv, x, rfl, g.gh, rx, by omega, by omega, mem_num hn hmem, fun H2 g2 => ?_⟩
        have hD2 := g2.same _ _ hDl
        have w2 := g.trans g2.nil
        have gD : G D = none := by
          cases z : G D with
          | none => rfl
          | some u => rw [s0 _ _ z] at hD; cases hD
        refine ⟨_, hD2, ?_, hD, w2.trans (Gw.write (M := [D]) w2.gh gD (List.mem_singleton.mpr rfl)), ?_⟩
        · rw [List.length_map, List.length_map, List.length_take, sizeLine_eq]; omega
        · rw [upd_same, take_snoc hq, List.map_append, List.map_append]; rfl
    · obtain ⟨_, g, hDl⟩ := h
      have e : mvs.length = m.length := by rw [rm.length, encM_len]
      rw [e, List.take_length] at hDl
      exact hQ D H' ⟨Gw.drop s0 hD g, hDl⟩
  · obtain ⟨g, hDl⟩ := h
    refine ⟨[], D, m.map fmtN, rfl, rfl, SqL.of hDl, ?_, ?_⟩
    · have := sum_fmt m hn
      show _ + _ * 0 ≤ big
      unfold big; omega
    · rw [joinL_nil, ← fmtM_flat]
      exact q H' g
theorem RpL.snoc' {G : Hp} {H : Hp} {cvs : List V} {cs : List (Ky × List Nd)} {ot : List Nd} {pt : Addr} {ov : V} (s : Same G H) (rc : RpL G cvs (encC cs)) (hpt : H pt = some (.tup [.str (S tOth), ov])) (ro : Rp G ov (.list (encM ot))) :
    ∀ (i : Nat) (v : V), (cvs ++ [V.ref pt])[i]? = some v → ∃ (k : Ky) (m : List Nd) (y : Addr) (mv : V), (cs ++ [(Ky.wd tOth, ot)])[i]? = some (k, m) ∧ v = .ref y ∧ H y = some (.tup [encV k, mv]) ∧ Rp G mv (.list (encM m)) := by
  intro i v hv
  have hl : cvs.length = cs.length := by rw [rc.length, encC_len]
  by_cases hi : i < cvs.length
  · rw [List.getElem?_append_left hi] at hv
    obtain ⟨dd, hdd, rx⟩ := rc.get hv
    rw [encC_get] at hdd
    cases hq : cs[i]? with
    | none => rw [hq] at hdd; cases hdd
    | some km =>
      obtain ⟨k, m⟩ := km
      rw [hq] at hdd
      cases hdd
      obtain ⟨xa, ys, rfl, hxa, ry⟩ := rx.tup_inv
      obtain ⟨y1, ys1, rfl, r1, ry1⟩ := ry.cons_inv
      obtain ⟨y2, ys2, rfl, r2, ry2⟩ := ry1.cons_inv
      obtain rfl := ry2.nil_inv
      obtain rfl := r1.key_inv
      exact ⟨k, m, xa, y2, by rw [List.getElem?_append_left (by omega)]; exact hq, rfl, s _ _ hxa, r2⟩
  · rw [List.getElem?_append_right (by omega)] at hv
    have e : i = cvs.length := by
      cases z : i - cvs.length with
      | zero => omega
      | succ j => rw [z] at hv; cases hv
    subst e
    rw [Nat.sub_self] at hv
    cases hv
    exact ⟨.wd tOth, ot, pt, ov, by rw [List.getElem?_append_right (by omega), hl, Nat.sub_self]; rfl, rfl, hpt, ro⟩
theorem mem_szCk : ∀ {cs : List (Ky × List Nd)} {k : Ky} {m : List Nd}, (k, m) ∈ cs → (fmtK k).length + szM m ≤ szC cs
  | _ :: _, _, _, h => by
    rcases List.mem_cons.mp h with rfl | h
    · unfold szC; omega
    · have := mem_szCk h
      unfold szC; omega
theorem ok_format_choice (T : Tx K mg) {km d : Nat} (hkm : 1 ≤ km) (c_format_message : C8.Cal P w K mg base km "format_message" (spFmt K d) []) : C8.Cal P w K mg base (km + 1) "format_choice" (spFmtC K d) [] := by
  refine cal_of T.d_format_choice T.g_format_choice (fun _ _ _ _ _ _ us hl => match us, hl with | [_], _ => rfl) sc_format_choice (fun vs H Q E h => ?_) (fun cdv A outer s H vs Q E hr h => ?_)
  · obtain ⟨G, v, pl, n, off, cs, ot, rfl, _⟩ := h; rfl
  obtain ⟨G, v, pl, n, off, cs, ot, rfl, s0, rv, hd, hz, hn, q⟩ := h
  have c_cases_of : C8.Cal P w K mg base 1 "cases_of" (spAt K (-2)) [] := ok_cases_of T
  have c_other_of : C8.Cal P w K mg base 1 "other_of" (spAt K (-1)) [] := ok_other_of T
  have c_format_key : C8.Cal P w K mg base 1 "format_key" spFKey [] := ok_format_key T
  refine ⟨_, (pss_cons (ps_set (i := 1) sc_format_choice.nd rfl (Or.inl rfl) (pe_lst pa_nil))
    (pss_cons (ps_if (PW.pt (pw_and (pt_cmpR op_eq (pe_ix ix_tup (pv 0) pe_int (fun _ _ => rfl)) (pe_gs T.s_PLURAL) (nomark _)) (pw_and1 (pt_cmpR op_gt (pe_ix ix_tup (pv 0) pe_int (fun _ _ => rfl)) pe_int (nomark _)))))
      (pss_one (ps_expr (pe_bm PySem.F.plainAttrs_list PySem.F.slot_list_append PySem.F.type_list_append mt_append (pv 1) (pa_cons (pe_op op_addS (pe_gs T.s_OFFSET) (pe_callTy call_strS (by rfl) T.f_str (by decide +kernel) (pa_cons (pe_ix ix_tup (pv 0) pe_int (fun _ _ => rfl)) pa_nil))) pa_nil))))
      pss_nil)
    (pss_cons (ps_for PassesOwn.never rfl (pi_list (pe_op op_cat (C8.pe_c c_cases_of hr (by omega) rfl (pa_cons (pv 0) pa_nil)) (pe_lst (pa_cons (pe_tup (pa_cons (pe_gs T.s_OTHER) (pa_cons (C8.pe_c c_other_of hr (by omega) rfl (pa_cons (pv 0) pa_nil)) pa_nil))) pa_nil)))) (pg_tup rfl (pgs_cons (pg_name (i := 2) sc_format_choice.nd rfl (Or.inl rfl)) (pgs_cons (pg_name (i := 3) sc_format_choice.nd rfl (Or.inl rfl)) pgs_nil)))
      (pss_one (ps_expr (pe_bm PySem.F.plainAttrs_list PySem.F.slot_list_append PySem.F.type_list_append mt_append (pv 1) (pa_cons (pe_op op_addS (pe_op op_addS (pe_op op_addS (C8.pe_c c_format_key hr (by omega) rfl (pa_cons (pv 2) pa_nil)) (pe_s [32, 123])) (C8.pe_c c_format_message hr (by omega) rfl (pa_cons (pv 3) pa_nil))) (pe_s [125])) pa_nil)))))
    (pss_one (ps_ret (pe_op op_addS (pe_op op_addS (pe_op op_addS (pe_op op_addS (pe_op op_addS (pe_op op_addS (pe_s [123]) (pe_ix ix_tup (pv 0) pe_int (fun _ _ => rfl))) (pe_s [44, 32])) (pe_ix ix_tup (pv 0) pe_int (fun _ _ => rfl))) (pe_s [44, 32])) (pe_joinS (pe_s [32]) (pv 1))) (pe_s [125]))))))), ?_⟩
  obtain ⟨a, rest, rfl, ha, cv, ov, hrest, rc, ro⟩ := node_inv rv
  obtain ⟨ca, cvs, rfl, hca, rcv⟩ := rc.lst_inv
  have hlen2 : atI (V.str (S (tagN (.cho pl n off cs ot))) :: rest) (-2) = some (V.ref ca) := by
    cases pl with
    | true => rw [show rest = _ from hrest]; rfl
    | false => rw [show rest = _ from hrest]; rfl
  have hlen1 : atI (V.str (S (tagN (.cho pl n off cs ot))) :: rest) (-1) = some ov := by
    cases pl with
    | true => rw [show rest = _ from hrest]; rfl
    | false => rw [show rest = _ from hrest]; rfl
  have hname : atI (V.str (S (tagN (.cho pl n off cs ot))) :: rest) 1 = some (V.str (S n)) := by
    cases pl with
    | true => rw [show rest = _ from hrest]; rfl
    | false => rw [show rest = _ from hrest]; rfl
  simp only [dpN] at hd
  simp only [szN] at hz
  unfold numN at hn
  obtain ⟨hoff, hnc, hno⟩ := hn
  have hsum := sum_cases ot hno cs hnc
  have hcl : cvs.length = cs.length := by rw [rcv.length, encC_len]
  have hcz := len_szC cs
  refine ⟨by show 0 ≤ sizeLine; exact Nat.zero_le _, fun wd hw => ?_⟩
  have g0 : Gw [] G H G _ := Gw.allocM (o := HO.lst []) s0 hw
  have hwG : G wd = none := by
    cases z : G wd with
    | none => rfl
    | some u => rw [s0 _ _ z] at hw; cases hw
  -- from the loop on
  have loop : ∀ H1, Gw [wd] G (upd H wd (.lst [])) G H1 → H1 wd = some (.lst ((offW pl off).map fun l => .str (S l))) →
      tSeq (tFor (iList K (tOp rCat (tCall (spAt K (-2)) [] C8.E0 (tCons (tVar 0) tNil)) (tLst (tCons (tTup (tCons (tC (.str (S tOth))) (tCons (tCall (spAt K (-1)) [] C8.E0 (tCons (tVar 0) tNil)) tNil))) tNil)))) (gTup K 2 (gCons (gName 2) (gCons (gName 3) gNil)))
        (tDrop (tBM K "list" rAppend (tVar 1) (tCons (tOp (fun x y H Q => ∃ a b : List Nat, x = .str (S a) ∧ y = .str (S b) ∧ a.length + b.length ≤ big ∧ Q (.str (S (a ++ b))) H) (tOp (fun x y H Q => ∃ a b : List Nat, x = .str (S a) ∧ y = .str (S b) ∧ a.length + b.length ≤ big ∧ Q (.str (S (a ++ b))) H) (tOp (fun x y H Q => ∃ a b : List Nat, x = .str (S a) ∧ y = .str (S b) ∧ a.length + b.length ≤ big ∧ Q (.str (S (a ++ b))) H) (tCall spFKey [] C8.E0 (tCons (tVar 2) tNil)) (tC (.str (S [32, 123])))) (tCall (spFmt K d) [] C8.E0 (tCons (tVar 3) tNil))) (tC (.str (S [125])))) tNil))))
      (tRet (tOp (fun x y H Q => ∃ a b : List Nat, x = .str (S a) ∧ y = .str (S b) ∧ a.length + b.length ≤ big ∧ Q (.str (S (a ++ b))) H) (tOp (fun x y H Q => ∃ a b : List Nat, x = .str (S a) ∧ y = .str (S b) ∧ a.length + b.length ≤ big ∧ Q (.str (S (a ++ b))) H) (tOp (fun x y H Q => ∃ a b : List Nat, x = .str (S a) ∧ y = .str (S b) ∧ a.length + b.length ≤ big ∧ Q (.str (S (a ++ b))) H)
        (tOp (fun x y H Q => ∃ a b : List Nat, x = .str (S a) ∧ y = .str (S b) ∧ a.length + b.length ≤ big ∧ Q (.str (S (a ++ b))) H) (tOp (fun x y H Q => ∃ a b : List Nat, x = .str (S a) ∧ y = .str (S b) ∧ a.length + b.length ≤ big ∧ Q (.str (S (a ++ b))) H) (tOp (fun x y H Q => ∃ a b : List Nat, x = .str (S a) ∧ y = .str (S b) ∧ a.length + b.length ≤ big ∧ Q (.str (S (a ++ b))) H) (tC (.str (S [123]))) (tOp (rIxT K) (tVar 0) (tC (.int 1)))) (tC (.str (S [44, 32])))) (tOp (rIxT K) (tVar 0) (tC (.int 0)))) (tC (.str (S [44, 32]))))
        (tM1 (fun x xs H Q => ∃ (a : List Nat) (p : Addr) (ys : List (List Nat)), x = .str (S a) ∧ xs = [.ref p] ∧ SqL K H p (ys.map fun l => .str (S l)) ∧ (ys.map (·.length)).sum + ys.length * a.length ≤ big ∧ Q (.str (S (TL.joinL a ys))) H) (tC (.str (S [32]))) (tVar 1))) (tC (.str (S [125])))))
      { nx := fun _ H' => Q .non H', rt := Q } [some (.ref a), some (.ref wd), none, none] H1 := by
    intro H1 g1 hw1
    refine ⟨_, rfl, a, _, _, rfl, SqT.of (g1.gh _ _ ha), hlen2, _, rfl, a, _, _, rfl, SqT.of (g1.gh _ _ ha), hlen1, ?_⟩
    refine ⟨by show 2 ≤ sizeLine; exact szOf (by decide), fun pt hpt => ?_⟩
    have gA : Gw [] G H1 G _ := Gw.allocM (o := HO.tup [V.str (S tOth), ov]) g1.gh hpt
    refine ⟨by show 1 ≤ sizeLine; exact szOf (by decide), fun lt hlt => ?_⟩
    have gB : Gw [] G _ G _ := Gw.allocM (o := HO.lst [V.ref pt]) gA.gh hlt
    refine ⟨ca, lt, cvs, [V.ref pt], rfl, rfl, gB.gh _ _ hca, upd_same, by show cvs.length + 1 ≤ sizeLine; rw [hcl, sizeLine_eq]; omega, fun cc hcc => ?_⟩
    have gC : Gw [] G _ G _ := Gw.allocM (o := HO.lst (cvs ++ [V.ref pt])) gB.gh hcc
    have items := RpL.snoc' gC.gh rcv (gC.same _ _ (gB.same _ _ upd_same)) ro
    have hwC := gC.same _ _ (gB.same _ _ (gA.same _ _ hw1))
    have hccw : cc ∉ [wd] := by
      intro z
      have z' : cc = wd := by simpa using z
      have := gB.same _ _ (gA.same _ _ hw1)
      rw [← z', hcc] at this
      cases this
    have g4 := ((g1.trans gA.nil).trans gB.nil).trans gC.nil
    have hccC : _ = some (HO.lst (cvs ++ [V.ref pt])) := upd_same (H := upd (upd H1 pt (HO.tup [V.str (S tOth), ov])) lt (HO.lst [V.ref pt])) (a := cc)
    generalize upd (upd (upd H1 pt (HO.tup [V.str (S tOth), ov])) lt (HO.lst [V.ref pt])) cc (HO.lst (cvs ++ [V.ref pt])) = H4 at gC items hwC g4 hccC ⊢
    refine ⟨cc, rfl, ⟨_, SqL.of hccC⟩, for_over (runs_l (xs := cvs ++ [V.ref pt])) (fun i σ H' => ∃ v2 v3, σ = [some (.ref a), some (.ref wd), v2, v3] ∧ Gw [wd] G H4 G H' ∧
      H' wd = some (.lst ((offW pl off ++ ((cs ++ [(Ky.wd tOth, ot)]).take i).map caseW).map fun l => .str (S l)))) (fun i σ H' h => ?_) ⟨none, none, rfl, Gw.refl g4.gh, by rw [List.take_zero, List.map_nil, List.append_nil]; exact hwC⟩ (fun i xv σ H' hx h => ?_) (fun σ H' h => ?_)⟩
    · obtain ⟨v2, v3, rfl, g, _⟩ := h
      exact SqL.of (g.keep cc _ hccw hccC)
    · obtain ⟨v2, v3, rfl, g, hwd⟩ := h
      obtain ⟨k, m, y, mv, hq, rfl, hy, rmv⟩ := items i xv hx
      have hyw : y ∉ [wd] := by
        intro z
        have z' : y = wd := by simpa using z
        rw [z', hwC] at hy
        cases hy
      have hf : numK k ∧ numM m ∧ dpM m < d ∧ szM m ≤ 15000000 ∧ (fmtK k).length + szM m ≤ 15000000 := by
        have hmem := List.mem_of_getElem? hq
        rcases List.mem_append.mp hmem with hm | hm
        · have h1 := mem_numC hnc hm
          have h2 := mem_dpC hm
          have h3 := mem_szC hm
          have h4 : (fmtK k).length + szM m ≤ szC cs := mem_szCk hm
          exact ⟨h1.1, h1.2, by omega, by omega, by omega⟩
        · have e : (k, m) = (Ky.wd tOth, ot) := by simpa using hm
          cases e
          have : (fmtK (.wd tOth)).length = 5 := rfl
          exact ⟨trivial, hno, by omega, by omega, by omega⟩
      obtain ⟨f1, f2, f3, f4, f5⟩ := hf
      have f6 := fmtM_len m f2
      refine ⟨y, _, rfl, SqT.of (g.keep y _ hyw hy), rfl, _, _, rfl, _, _, rfl, rfl, ?_⟩
      refine ⟨_, rfl, .inl ⟨rfl, _, SqL.of hwd⟩, _, rfl, k, rfl, f1, fmtK k, [32, 123], rfl, rfl, by show _ + 2 ≤ big; unfold big; omega, _, rfl, G, mv, m, rfl, g.gh, rmv, f3, f4, f2, fun H5 g5 => ?_⟩
      have hw5 := g5.same _ _ hwd
      have w5 := g.trans g5.nil
      refine ⟨_, _, rfl, rfl, by simp only [List.length_append, List.length_cons, List.length_nil]; unfold big; omega, _, _, rfl, rfl, by simp only [List.length_append, List.length_cons, List.length_nil]; unfold big; omega, wd, _, _, rfl, rfl, hw5, ?_, ?_⟩
      · have h1 : (offW pl off).length ≤ 1 := by
          unfold offW; split
          · exact Nat.le_refl 1
          · exact Nat.zero_le _
        rw [List.length_map, List.length_append, List.length_map, List.length_take, List.length_append, sizeLine_eq]
        have : [(Ky.wd tOth, ot)].length = 1 := rfl
        omega
      · refine ⟨_, _, rfl, w5.trans (Gw.write (M := [wd]) w5.gh hwG (List.mem_singleton.mpr rfl)), ?_⟩
        rw [upd_same, take_snoc hq]
        simp [caseW]
    · obtain ⟨v2, v3, rfl, g, hwd⟩ := h
      have e : (cvs ++ [V.ref pt]).length = (cs ++ [(Ky.wd tOth, ot)]).length := by rw [List.length_append, List.length_append, hcl]; rfl
      rw [e, List.take_length] at hwd
      have sq := SqT.of (K := K) (g.gh _ _ ha)
      have wall := Gw.drop s0 hw (g4.trans g)
      have hsumO : ((offW pl off).map (·.length)).sum + (offW pl off).length ≤ 10 := by
        unfold offW
        split
        · have : (TL.numL off).length ≤ 1 := by rw [TL.numL_lt (by omega)]; exact Nat.le_refl 1
          simp only [List.map_cons, List.map_nil, List.sum_cons, List.sum_nil, List.length_append, List.length_cons, List.length_nil]; omega
        · decide
      have hJ : (TL.joinL [32] (offW pl off ++ (cs ++ [(Ky.wd tOth, ot)]).map caseW)).length ≤ szC cs + szM ot + 19 := by
        rw [join_all]
        have h1 := fmtO_len (pl := pl) hoff
        have h2 := fmtCs_len cs hnc
        have h3 := fmtM_len ot hno
        simp only [List.length_append, List.length_cons, List.length_nil]; omega
      have hlt : (tagN (.cho pl n off cs ot)).length = 6 := tKind_len pl
      refine ⟨_, rfl, a, _, _, _, rfl, rfl, sq, hname, [123], n, rfl, rfl, by show 1 + _ ≤ big; unfold big; omega, _, _, rfl, rfl, by simp only [List.length_append, List.length_cons, List.length_nil]; unfold big; omega, _, rfl, a, _, _, _, rfl, rfl, sq, atI_zero _ _, _, _, rfl, rfl, by simp only [List.length_append, List.length_cons, List.length_nil, hlt]; unfold big; omega,
        _, _, rfl, rfl, by simp only [List.length_append, List.length_cons, List.length_nil, hlt]; unfold big; omega, ⟨_, rfl⟩, _, rfl, [32], wd, _, rfl, rfl, SqL.of hwd, ?_, _, _, rfl, rfl, ?_, _, _, rfl, rfl, ?_, ?_⟩
      · rw [List.map_append, List.sum_append, List.length_append]
        show _ + _ * 1 ≤ big
        unfold big; omega
      · simp only [List.length_append, List.length_cons, List.length_nil, hlt]; unfold big; omega
      · simp only [List.length_append, List.length_cons, List.length_nil, hlt]; unfold big; omega
      · have e2 : (((((([123] ++ n) ++ [44, 32]) ++ tagN (.cho pl n off cs ot)) ++ [44, 32]) ++ TL.joinL [32] (offW pl off ++ (cs ++ [(Ky.wd tOth, ot)]).map caseW)) ++ [125]) = fmtN (.cho pl n off cs ot) := by
          rw [join_all, fmtN]
          simp [tagN]
        rw [e2]
        exact q H' wall
  have sq0 := SqT.of (K := K) (g0.gh _ _ ha)
  refine ⟨_, rfl, a, _, _, _, rfl, rfl, sq0, atI_zero _ _, rfl, _, rfl, ?_⟩
  cases pl with
  | false =>
    refine iteS (fun e => absurd e (by show tSel ≠ tPlu; decide)) (fun _ => iteF (loop _ (Gw.refl g0.gh) upd_same))
  | true =>
    refine iteS (fun _ => ?_) (fun e => absurd rfl e)
    have sq1 := sq0
    rw [show rest = _ from hrest] at sq1
    refine ⟨_, rfl, a, _, _, _, rfl, rfl, sq1, rfl, _, _, rfl, rfl, _, rfl, iteD (fun hp => ?_) (fun hp => ?_)⟩
    · have hoW : offW true off = [tOff ++ TL.numL off] := by unfold offW; rw [if_pos ⟨rfl, by omega⟩]
      have hnl : (TL.numL off).length ≤ 1 := by rw [TL.numL_lt (by omega)]; exact Nat.le_refl 1
      refine ⟨_, rfl, .inl ⟨rfl, [], SqL.of upd_same⟩, _, rfl, a, _, _, _, rfl, rfl, sq1, rfl, .inl ⟨off, rfl, by omega, tOff, TL.numL off, rfl, rfl, by show 7 + _ ≤ big; unfold big; omega, wd, [], _, rfl, rfl, upd_same, by rw [sizeLine_eq]; decide, ?_⟩⟩
      refine loop _ (Gw.write (M := [wd]) g0.gh hwG (List.mem_singleton.mpr rfl)) ?_
      rw [upd_same, hoW]; rfl
    · have hoW : offW true off = [] := by unfold offW; rw [if_neg (by intro z; omega)]
      exact loop _ (Gw.refl g0.gh) (by rw [upd_same, hoW]; rfl)
theorem tag_cho (pl : Bool) (n : List Nat) (off : Nat) (cs : List (Ky × List Nd)) (ot : List Nd) : tagN (.cho pl n off cs ot) ≠ tShow ∧ tagN (.cho pl n off cs ot) ≠ tNum := by
  cases pl
  · exact ⟨by show tSel ≠ tShow; decide, by show tSel ≠ tNum; decide⟩
  · exact ⟨by show tPlu ≠ tShow; decide, by show tPlu ≠ tNum; decide⟩
theorem ok_format_node (T : Tx K mg) {km d : Nat} (hkm : 1 ≤ km) (c_format_choice : C8.Cal P w K mg base km "format_choice" (spFmtC K d) []) : C8.Cal P w K mg base (km + 1) "format_node" (spFmtN K d) [] := by
  refine cal_of T.d_format_node T.g_format_node (fun _ _ _ _ _ _ us hl => match us, hl with | [_], _ => rfl) sc_format_node (fun vs H Q E h => ?_) (fun cdv A outer s H vs Q E hr h => ?_)
  · obtain ⟨G, v, x, rfl, _⟩ := h; rfl
  obtain ⟨G, v, x, rfl, s0, rv, hd, hz, hn, q⟩ := h
  have c_format_text : C8.Cal P w K mg base 1 "format_text" spFmtT [] := ok_format_text T
  refine ⟨_, (pss_cons (ps_if (pt_cmpR op_eq (pe_ix ix_tup (pv 0) pe_int (fun _ _ => rfl)) (pe_gs T.s_TEXT) (nomark _))
      (pss_one (ps_ret (C8.pe_c c_format_text hr (by omega) rfl (pa_cons (pe_ix ix_tup (pv 0) pe_int (fun _ _ => rfl)) pa_nil))))
      pss_nil)
    (pss_cons (ps_if (pt_cmpR op_eq (pe_ix ix_tup (pv 0) pe_int (fun _ _ => rfl)) (pe_gs T.s_SHOW) (nomark _))
      (pss_one (ps_ret (pe_op op_addS (pe_op op_addS (pe_s [123]) (pe_ix ix_tup (pv 0) pe_int (fun _ _ => rfl))) (pe_s [125]))))
      pss_nil)
    (pss_cons (ps_if (pt_cmpR op_eq (pe_ix ix_tup (pv 0) pe_int (fun _ _ => rfl)) (pe_gs T.s_NUMBER) (nomark _))
      (pss_one (ps_ret (pe_s [35])))
      pss_nil)
    (pss_one (ps_ret (C8.pe_c c_format_choice hr (by omega) rfl (pa_cons (pv 0) pa_nil))))))), ?_⟩
  obtain ⟨a, rest, rfl, ha, hrest⟩ := node_inv rv
  have sq := SqT.of (K := K) (s0 _ _ ha)
  have hl := fmtN_len x hn
  have gr := q H (Gw.refl s0)
  refine ⟨_, rfl, a, _, _, _, rfl, rfl, sq, atI_zero _ _, rfl, _, rfl, ?_⟩
  cases x with
  | txt s =>
    rw [show rest = _ from hrest] at sq
    refine iteS (fun _ => ?_) (fun e => absurd rfl e)
    exact ⟨_, rfl, a, _, _, _, rfl, rfl, sq, rfl, s, rfl, by simp only [fmtN] at hl; omega, gr⟩
  | shw n =>
    refine iteS (fun e => absurd e (by show tShow ≠ tText; decide)) (fun _ => ?_)
    refine ⟨_, rfl, a, _, _, _, rfl, rfl, sq, atI_zero _ _, rfl, _, rfl, iteS (fun _ => ?_) (fun e => absurd rfl e)⟩
    rw [show rest = _ from hrest] at sq
    simp only [szN] at hz
    exact ⟨_, rfl, a, _, _, _, rfl, rfl, sq, rfl, [123], n, rfl, rfl, by show 1 + n.length ≤ big; unfold big; omega, _, _, rfl, rfl, by simp only [List.length_append, List.length_cons, List.length_nil]; unfold big; omega, gr⟩
  | num =>
    refine iteS (fun e => absurd e (by show tNum ≠ tText; decide)) (fun _ => ?_)
    refine ⟨_, rfl, a, _, _, _, rfl, rfl, sq, atI_zero _ _, rfl, _, rfl, iteS (fun e => absurd e (by show tNum ≠ tShow; decide)) (fun _ => ?_)⟩
    refine ⟨_, rfl, a, _, _, _, rfl, rfl, sq, atI_zero _ _, rfl, _, rfl, iteS (fun _ => gr) (fun e => absurd rfl e)⟩
  | cho pl n off cs ot =>
    refine iteS (fun e => absurd e (tag_text (x := .cho pl n off cs ot) rfl)) (fun _ => ?_)
    refine ⟨_, rfl, a, _, _, _, rfl, rfl, sq, atI_zero _ _, rfl, _, rfl, iteS (fun e => absurd e (tag_cho _ _ _ _ _).1) (fun _ => ?_)⟩
    refine ⟨_, rfl, a, _, _, _, rfl, rfl, sq, atI_zero _ _, rfl, _, rfl, iteS (fun e => absurd e (tag_cho _ _ _ _ _).2) (fun _ => ?_)⟩
    exact ⟨_, rfl, G, _, pl, n, off, cs, ot, rfl, s0, rv, hd, hz, hn, q⟩
theorem fmts (T : Tx K mg) : ∀ d : Nat, C8.Cal P w K mg base (3 * d + 2) "format_message" (spFmt K d) []
  | 0 => by
    refine cal_of (k := 1) T.d_format_message T.g_format_message (fun _ _ _ _ _ _ us hl => match us, hl with | [_], _ => rfl) sc_format_message (fun vs H Q E h => ?_) (fun cdv A outer s H vs Q E hr h => ?_)
    · obtain ⟨G, v, m, rfl, _⟩ := h; rfl
    · obtain ⟨G, v, m, rfl, s0, rv, hd, _⟩ := h
      exact absurd hd (by omega)
  | d + 1 => ok_format_message T (by omega) (ok_format_node T (by omega) (ok_format_choice T (by omega) (fmts T d)))
end
end Mw

set_option Elab.async false
set_option linter.all false
set_option maxRecDepth 100000
set_option maxHeartbeats 4000000
/-! MwM3: sizes and depths of what was read; plain messages. -/
namespace Mw
open PySem PySem.Spec L2
open SX (S S_cat S_len S_inj)
theorem fmtK_len {pl : Bool} {k : Ky} (h : okK pl k ∨ k = .wd tOth) : (fmtK k).length ≤ 8 := by
  rcases h with h | rfl
  · cases k with
    | ix i =>
      have h2 : i ≤ 999 := h.2
      have : (TL.numL i).length ≤ 3 := TL.numL_len (by decide) (by omega)
      show (TL.numL i).length + 1 ≤ 8
      omega
    | wd w => exact h.1.2.1
  · decide
theorem key_or {pl : Bool} {k : Ky} (h : k ≠ .wd tOth → okK pl k) : okK pl k ∨ k = .wd tOth := by
  by_cases z : k = .wd tOth
  · exact .inr z
  · exact .inl (h z)
theorem szC_append : ∀ a b : List (Ky × List Nd), szC (a ++ b) = szC a + szC b
  | [], b => by simp [szC]
  | (k, m) :: r, b => by simp [szC, szC_append r b]; omega
theorem dpC_append : ∀ a b : List (Ky × List Nd), dpC (a ++ b) = max (dpC a) (dpC b)
  | [], b => by simp [dpC]
  | (k, m) :: r, b => by simp [dpC, dpC_append r b, Nat.max_assoc]
theorem dpM_append : ∀ a b : List Nd, dpM (a ++ b) = max (dpM a) (dpM b)
  | [], b => by simp [dpM]
  | x :: r, b => by simp [dpM, dpM_append r b, Nat.max_assoc]
def QM (r : List Nat) (m : List Nd) (t : List Nat) : Prop := szM m + 50 * t.length ≤ 50 * r.length ∧ ∀ N : Int, Dep r N → 4 * (dpM m : Int) ≤ N
def QN (r : List Nat) (x : Nd) (t : List Nat) : Prop := szN x + 50 * t.length ≤ 50 * r.length ∧ ∀ N : Int, Dep r N → 4 * (dpN x : Int) ≤ N
def QC (nm : List Nat) (acc : List (Ky × List Nd)) (r : List Nat) (x : Nd) (t : List Nat) : Prop := szN x + 50 * t.length ≤ 50 * r.length + 40 + nm.length + szC acc ∧ ∀ N : Int, Dep r N → 4 * (dpC acc : Int) ≤ N - 2 → 4 * (dpN x : Int) ≤ N + 2
theorem word_len {r x t : List Nat} (h : pWord r = some (x, t)) : t.length + x.length ≤ r.length ∧ x.length ≤ 8 := by
  unfold pWord at h
  split at h
  · next e =>
    cases h
    have h1 := (eats_skip r).le
    have h2 : ((skip r).takeWhile isLet).length + ((skip r).dropWhile isLet).length = (skip r).length := by
      rw [← List.length_append, List.takeWhile_append_dropWhile]
    omega
  · cases h
theorem parsed2 (n : Nat) : (∀ i r m t, r.length ≤ n → pMsg i r = some (m, t) → QM r m t) ∧ (∀ i r x t, r.length ≤ n → pNode i r = some (x, t) → QN r x t) ∧
    (∀ i pl nm off acc r x t, r.length ≤ n → pCho i pl nm off acc r = some (x, t) → QC nm acc r x t) := by
  induction n using Nat.strongRecOn with
  | _ n ih =>
  have cho : ∀ i pl nm off acc r x t, r.length ≤ n → pCho i pl nm off acc r = some (x, t) → QC nm acc r x t := by
    intro i pl nm off acc r x t hr h
    unfold pCho at h
    split at h
    · cases h
    · next k r1 e1 =>
      obtain ⟨k1, k2⟩ := eats_key e1
      have k3 := k1.le
      have k4 := fmtK_len (key_or k2)
      split at h
      · cases h
      · next hk =>
        split at h
        · cases h
        · next r2 e2 =>
          obtain ⟨x1, x2⟩ := eats_expect e2
          split at h
          · next hlt =>
            split at h
            · cases h
            · next m r3 e3 =>
              obtain ⟨m1, m2⟩ := (ih r2.length (by omega)).1 _ _ _ _ (Nat.le_refl _) e3
              have m3 := (parsed_msg e3).1
              have E3 := ((k1.trans x1).trans m3)
              have dp : ∀ N : Int, Dep r N → 4 * (dpM m : Int) ≤ N - 2 := fun N d => m2 _ ((d.eat (k1.trans x1)).mono (by show N - (0 + 2) ≤ N - 2; omega))
              split at h
              · cases h
              · next r4 e4 =>
                obtain ⟨y1, y2⟩ := eats_expect e4
                split at h
                · next hoth =>
                  split at h
                  · cases h
                  · next r5 e5 =>
                    cases h
                    obtain ⟨z1, z2⟩ := eats_expect e5
                    refine ⟨by simp only [szN]; omega, fun N d hN => ?_⟩
                    have := dp N d
                    simp only [dpN]; omega
                · next hoth =>
                  split at h
                  · next hlt2 =>
                    obtain ⟨w1, w2⟩ := (ih r4.length (by omega)).2.2 _ _ _ _ _ _ _ _ (Nat.le_refl _) h
                    rw [szC_append] at w1
                    refine ⟨by simp only [szC] at w1; omega, fun N d hN => ?_⟩
                    have E4 : Eats 0 r r4 := (E3.trans y1).mono (by decide)
                    have dpm := dp N d
                    refine w2 N ((d.eat E4).mono (by omega)) ?_
                    rw [dpC_append]
                    simp only [dpC]; omega
                  · cases h
          · cases h
  have node : ∀ i r x t, r.length ≤ n → pNode i r = some (x, t) → QN r x t := by
    intro i r x t hr h
    by_cases hb : ∃ s, r = 123 :: s
    · obtain ⟨s, rfl⟩ := hb
      have hlen : (123 :: s).length = s.length + 1 := rfl
      rw [pNode_brace] at h
      split at h
      · cases h
      · next nm r2 e1 =>
        obtain ⟨a1, a2, a3⟩ := eats_word e1
        have a4 := word_len e1
        split at h
        · cases h
        · next d r3 e2 =>
          have b1 := eats_skip r2
          rw [e2] at b1
          have b2 := b1.le
          simp only [List.length_cons] at b2
          split at h
          · next hd =>
            cases h
            refine ⟨by simp only [szN]; omega, fun N d => ?_⟩
            have := d.nonneg
            simp only [dpN]; omega
          · split at h
            · next hd =>
              subst hd
              split at h
              · cases h
              · next k r4 e3 =>
                obtain ⟨c1, c2, c3⟩ := eats_word e3
                split at h
                · next hk =>
                  unfold pChoice at h
                  split at h
                  · cases h
                  · next r5 e4 =>
                    obtain ⟨d1, d2⟩ := eats_expect e4
                    have E : Eats 2 (123 :: s) r5 := (((((Eats.cons 123 s).trans a1).trans b1).trans (Eats.cons 44 r3)).trans c1 |>.trans d1).mono (by decide)
                    split at h
                    · cases h
                    · next o r6 e5 =>
                      have f1 : Eats 0 r5 r6 := by
                        split at e5
                        · exact (eats_off e5).1
                        · cases e5; exact Eats.refl _
                      have f2 := f1.le
                      obtain ⟨w1, w2⟩ := (ih r6.length (by omega)).2.2 _ _ _ _ _ _ _ _ (Nat.le_refl _) h
                      refine ⟨by simp only [szC] at w1; omega, fun N d => ?_⟩
                      have hdep := (d.eat (E.trans f1)).mono (m := N - 2) (by omega)
                      by_cases hN : (0 : Int) ≤ N - 2 - 2
                      · have := w2 _ hdep (by simp only [dpC]; omega)
                        omega
                      · exfalso
                        -- the inner message is there, so the nest weighs more
                        have hcho : ∀ {i pl nm off acc r x t}, pCho i pl nm off acc r = some (x, t) → ∀ M : Int, Dep r M → 2 ≤ M := by
                          intro i pl nm off acc r x t h M dM
                          rw [pCho_eq] at h
                          split at h
                          · cases h
                          · next k r1 q1 =>
                            split at h
                            · cases h
                            · split at h
                              · cases h
                              · next r2 q2 =>
                                have := (dM.eat ((eats_key q1).1.trans (eats_expect q2).1)).nonneg
                                have e : wt 123 = 2 := rfl
                                omega
                        have := hcho h _ hdep
                        omega
                · cases h
            · cases h
    · unfold pNode at h
      split at h
      · cases h
      · next c s =>
        rw [if_neg (fun z => hb ⟨s, by rw [z]⟩)] at h
        have small : ∀ (t : List Nat), QN (c :: s) (.txt [c]) t → True := fun _ _ => trivial
        have fin : ∀ (y : Nd) (u : List Nat), szN y ≤ 4 → dpN y = 0 → u.length < (c :: s).length → QN (c :: s) y u := fun y u h1 h2 h3 => ⟨by omega, fun N d => by have := d.nonneg; rw [h2]; omega⟩
        split at h
        · cases he : pEsc escs (c :: s) with
          | none => rw [he] at h; cases h
          | some q =>
            obtain ⟨d, u⟩ := q
            rw [he] at h
            cases h
            exact fin _ _ (Nat.le_refl 4) rfl (eats_esc he (fun _ z => z)).2.2
        · split at h
          · cases h; exact fin _ _ (by decide) rfl (by simp)
          · split at h
            · cases h
            · cases h; exact fin _ _ (Nat.le_refl 4) rfl (by simp)
  refine ⟨?_, node, cho⟩
  intro i r m t hr h
  unfold pMsg at h
  split at h
  · cases h
    exact ⟨by simp [szM], fun N d => by have := d.nonneg; simp only [dpM]; omega⟩
  · next c s =>
    split at h
    · cases h
      exact ⟨by simp [szM], fun N d => by have := d.nonneg; simp only [dpM]; omega⟩
    · split at h
      · cases h
      · next x u e =>
        obtain ⟨n1, n2⟩ := node _ _ _ _ hr e
        have n3 := parsed_node e
        split at h
        · next hlt =>
          split at h
          · cases h
          · next m' v e2 =>
            cases h
            obtain ⟨m1, m2⟩ := (ih u.length (by omega)).1 _ _ _ _ (Nat.le_refl _) e2
            refine ⟨by simp only [szM]; omega, fun N d => ?_⟩
            have h1 := n2 N d
            have h2 := m2 N ((d.eat n3.1).mono (by omega))
            simp only [dpM]; omega
        · next hz => exact absurd n3.2.2 hz
theorem parsed_sz {i : Bool} {r : List Nat} {m : List Nd} {t : List Nat} (h : pMsg i r = some (m, t)) : QM r m t := (parsed2 r.length).1 _ _ _ _ (Nat.le_refl _) h
/-! ### numbers are small -/
mutual
theorem wf_numN : ∀ (i : Bool) (x : Nd), wfN i x → numN x
  | _, .txt _, _ => trivial
  | _, .shw _, _ => trivial
  | _, .num, _ => trivial
  | i, .cho pl n off cs ot, h => by
    unfold wfN at h
    unfold numN
    exact ⟨h.2.1, wf_numC _ _ cs h.2.2.2.1, wf_numM _ ot h.2.2.2.2.2⟩
theorem wf_numM : ∀ (i : Bool) (m : List Nd), wfM i m → numM m
  | _, [], _ => trivial
  | i, x :: r, h => by
    unfold wfM at h
    unfold numM
    exact ⟨wf_numN i x h.1, wf_numM i r h.2⟩
theorem wf_numC : ∀ (i pl : Bool) (cs : List (Ky × List Nd)), wfC i pl cs → numC cs
  | _, _, [], _ => trivial
  | i, pl, (k, m) :: r, h => by
    unfold wfC at h
    unfold numC
    refine ⟨?_, wf_numM i m h.2.1, wf_numC i pl r h.2.2⟩
    cases k with
    | ix j => exact h.1.2
    | wd w => trivial
end
theorem numM_append : ∀ a b : List Nd, numM a → numM b → numM (a ++ b)
  | [], b, _, h => h
  | x :: r, b, h, h' => by
    unfold numM at h
    show numM (x :: (r ++ b))
    unfold numM
    exact ⟨h.1, numM_append r b h.2 h'⟩
theorem numM_left : ∀ a b : List Nd, numM (a ++ b) → numM a
  | [], b, _ => trivial
  | x :: r, b, h => by
    have h : numM (x :: (r ++ b)) := h
    unfold numM at h ⊢
    exact ⟨h.1, numM_left r b h.2⟩
theorem num_push {acc : List Nd} {x : Nd} (h : numM acc) (hx : numN x) : numM (pushN acc x) := by
  cases x with
  | txt s =>
    by_cases z : ∃ b t, acc = b ++ [.txt t]
    · obtain ⟨b, t, rfl⟩ := z
      rw [pushN_merge]
      exact numM_append _ _ (numM_left _ _ h) ⟨trivial, trivial⟩
    · rw [pushN_new acc s (fun b t e => z ⟨b, t, e⟩)]
      split
      · exact h
      · exact numM_append _ _ h ⟨trivial, trivial⟩
  | shw n => rw [pushN_other _ _ rfl]; exact numM_append _ _ h ⟨trivial, trivial⟩
  | num => rw [pushN_other _ _ rfl]; exact numM_append _ _ h ⟨trivial, trivial⟩
  | cho pl n off cs ot => rw [pushN_other _ _ rfl]; exact numM_append _ _ h ⟨hx, trivial⟩
mutual
theorem num_plainN : ∀ x : Nd, numN x → numN (plainN x)
  | .txt _, _ => trivial
  | .shw _, _ => trivial
  | .num, _ => trivial
  | .cho pl n off cs ot, h => by
    unfold numN at h
    rw [plainN]
    unfold numN
    exact ⟨h.1, num_plainC cs h.2.1, num_plainA ot [] trivial h.2.2⟩
theorem num_plainA : ∀ (m acc : List Nd), numM acc → numM m → numM (plainA acc m)
  | [], acc, h, _ => by rw [plainA]; exact h
  | x :: r, acc, h, h2 => by
    unfold numM at h2
    rw [plainA]
    exact num_plainA r _ (num_push h (num_plainN x h2.1)) h2.2
theorem num_plainC : ∀ cs : List (Ky × List Nd), numC cs → numC (plainC cs)
  | [], _ => trivial
  | (k, m) :: r, h => by
    unfold numC at h
    rw [plainC]
    unfold numC
    exact ⟨h.1, num_plainA m [] trivial h.2.1, num_plainC r h.2.2⟩
end
/-! ### the depth is kept -/
theorem dp_push (acc : List Nd) (x : Nd) : dpM (pushN acc x) ≤ max (dpM acc) (dpN x) := by
  cases x with
  | txt s =>
    by_cases z : ∃ b t, acc = b ++ [.txt t]
    · obtain ⟨b, t, rfl⟩ := z
      rw [pushN_merge, dpM_append, dpM_append]
      simp only [dpM, dpN]; omega
    · rw [pushN_new acc s (fun b t e => z ⟨b, t, e⟩)]
      split
      · omega
      · rw [dpM_append]; simp only [dpM, dpN]; omega
  | shw n => rw [pushN_other _ _ rfl, dpM_append]; simp only [dpM, dpN]; omega
  | num => rw [pushN_other _ _ rfl, dpM_append]; simp only [dpM, dpN]; omega
  | cho pl n off cs ot => rw [pushN_other _ _ rfl, dpM_append]; simp only [dpM]; omega
mutual
theorem dp_plainN : ∀ x : Nd, dpN (plainN x) ≤ dpN x
  | .txt _ => by rw [plainN]; omega
  | .shw _ => by rw [plainN]; omega
  | .num => by rw [plainN]; omega
  | .cho pl n off cs ot => by
    have h1 := dp_plainC cs
    have h2 := dp_plainA ot []
    rw [plainN]
    simp only [dpN, dpM] at h2 ⊢; omega
theorem dp_plainA : ∀ (m acc : List Nd), dpM (plainA acc m) ≤ max (dpM acc) (dpM m)
  | [], acc => by rw [plainA]; omega
  | x :: r, acc => by
    have h1 := dp_plainN x
    have h2 := dp_push acc (plainN x)
    have h3 := dp_plainA r (pushN acc (plainN x))
    rw [plainA]
    simp only [dpM]; omega
theorem dp_plainC : ∀ cs : List (Ky × List Nd), dpC (plainC cs) ≤ dpC cs
  | [] => by rw [plainC]; omega
  | (k, m) :: r => by
    have h1 := dp_plainA m []
    have h2 := dp_plainC r
    rw [plainC]
    simp only [dpC, dpM] at h1 ⊢; omega
end
theorem dp_plain (m : List Nd) : dpM (plainM m) ≤ dpM m := by
  have := dp_plainA m []
  simp only [dpM] at this
  unfold plainM; omega
/-! ### the notation is kept -/
theorem fmtM_append : ∀ a b : List Nd, fmtM (a ++ b) = fmtM a ++ fmtM b
  | [], b => rfl
  | x :: r, b => by simp [fmtM, fmtM_append r b]
theorem fmt_push (acc : List Nd) (x : Nd) : fmtM (pushN acc x) = fmtM acc ++ fmtN x := by
  cases x with
  | txt s =>
    by_cases z : ∃ b t, acc = b ++ [.txt t]
    · obtain ⟨b, t, rfl⟩ := z
      rw [pushN_merge, fmtM_append, fmtM_append]
      simp [fmtM, fmtN, fmtT_append]
    · rw [pushN_new acc s (fun b t e => z ⟨b, t, e⟩)]
      split
      · next e => subst e; simp [fmtN, fmtT]
      · rw [fmtM_append]; simp [fmtM]
  | shw n => rw [pushN_other _ _ rfl, fmtM_append]; simp [fmtM]
  | num => rw [pushN_other _ _ rfl, fmtM_append]; simp [fmtM]
  | cho pl n off cs ot => rw [pushN_other _ _ rfl, fmtM_append]; simp [fmtM]
mutual
theorem fmt_plainN : ∀ x : Nd, fmtN (plainN x) = fmtN x
  | .txt _ => by rw [plainN]
  | .shw _ => by rw [plainN]
  | .num => by rw [plainN]
  | .cho pl n off cs ot => by
    have h1 := fmt_plainC cs
    have h2 := fmt_plainA ot []
    rw [plainN, fmtN, fmtN, h1, h2]; rfl
theorem fmt_plainA : ∀ (m acc : List Nd), fmtM (plainA acc m) = fmtM acc ++ fmtM m
  | [], acc => by rw [plainA]; simp [fmtM]
  | x :: r, acc => by
    rw [plainA, fmt_plainA r, fmt_push, fmt_plainN x, fmtM, List.append_assoc]
theorem fmt_plainC : ∀ cs : List (Ky × List Nd), fmtCs (plainC cs) = fmtCs cs
  | [] => by rw [plainC]
  | (k, m) :: r => by
    rw [plainC, fmtCs, fmtCs, fmt_plainA m [], fmt_plainC r]; rfl
end
theorem fmt_plain (m : List Nd) : fmtM (plainM m) = fmtM m := fmt_plainA m []
end Mw

set_option Elab.async false
set_option linter.all false
set_option maxRecDepth 100000
set_option maxHeartbeats 4000000
/-! MwM4: what was written is read back by the law's reader. -/
namespace Mw
open PySem PySem.Spec L2
open SX (S S_cat S_len S_inj)
theorem takeWhile_append_stop {f : Nat → Bool} {w : List Nat} {c : Nat} {t : List Nat} (h : w.all f = true) (hc : f c = false) : (w ++ c :: t).takeWhile f = w ∧ (w ++ c :: t).dropWhile f = c :: t := by
  induction w with
  | nil => simp [List.takeWhile_cons, List.dropWhile_cons, hc]
  | cons x w ih =>
    rw [List.all_cons, Bool.and_eq_true] at h
    obtain ⟨i1, i2⟩ := ih h.2
    rw [List.cons_append, List.takeWhile_cons, List.dropWhile_cons, if_pos h.1, if_pos h.1, i1, i2]
    exact ⟨rfl, rfl⟩
theorem numL_isDig (n : Nat) : (TL.numL n).all isDig = true := by
  rw [List.all_eq_true]
  intro c hc
  have := TL.numL_digits n c hc
  unfold isDig
  rw [Bool.and_eq_true, decide_eq_true_eq, decide_eq_true_eq]
  exact this
theorem numL_head (n : Nat) (h : 1 ≤ n) : (TL.numL n).head? ≠ some 48 := by
  induction n using Nat.strongRecOn with
  | _ n ih =>
  by_cases h10 : n < 10
  · rw [TL.numL_lt h10]
    intro z
    have := Option.some.inj z
    omega
  · have ih1 := ih (n / 10) (by omega) (by omega)
    rw [TL.numL_step (by omega)]
    cases e : TL.numL (n / 10) with
    | nil => exact absurd e (TL.numL_ne _)
    | cons a r => rw [e] at ih1; exact ih1
theorem okName_let {w : List Nat} (h : okName w) : w.all isLet = true := h.2.2
theorem head_let {w : List Nat} (h : okName w) : ∃ c r, w = c :: r ∧ isLet c = true := by
  cases w with
  | nil => exact absurd h.1 (by decide)
  | cons c r =>
    have := h.2.2
    rw [List.all_cons, Bool.and_eq_true] at this
    exact ⟨c, r, rfl, this.1⟩
theorem let_ne {c d : Nat} (h : isLet c = true) (hd : d < 97 ∨ 122 < d) : c ≠ d := by
  unfold isLet at h
  simp only [Bool.and_eq_true, decide_eq_true_eq] at h
  omega
theorem okName_oth : okName tOth := by unfold okName; decide
theorem cats_ok : ∀ w ∈ cats, okName w := by unfold okName; decide
theorem lKey_fmt {pl : Bool} {k : Ky} (h : okK pl k ∨ k = .wd tOth) (s : List Nat) : lKey pl (fmtK k ++ 32 :: s) = some (k, 32 :: s) := by
  cases k with
  | ix j =>
    rcases h with h | h
    · obtain ⟨rfl, hj⟩ := h
      obtain ⟨h1, h2⟩ := takeWhile_append_stop (t := s) (numL_isDig j) (show isDig 32 = false by decide)
      have h3 : (TL.numL j).length ≤ 3 := TL.numL_len (by decide) (by omega)
      have h4 := TL.numL_ne j
      show lKey true (61 :: (TL.numL j ++ 32 :: s)) = _
      unfold lKey
      rw [if_pos ⟨rfl, rfl⟩, List.tail_cons, h1, h2, TL.numL_val, if_neg]
      rintro (z | z | z)
      · exact h4 z
      · omega
      · by_cases hj0 : j = 0
        · subst hj0
          rw [TL.numL_lt (by omega)] at z
          exact absurd z.2 (by decide)
        · exact numL_head j (by omega) z.1
    · cases h
  | wd w =>
    have hw : okName w := by
      rcases h with h | h
      · exact h.1
      · cases h; exact okName_oth
    have hp : pl = true → w ∈ cats ++ [tOth] := fun z => by
      rcases h with h | h
      · exact List.mem_append_left _ (h.2.2 z)
      · cases h; simp
    obtain ⟨h1, h2⟩ := takeWhile_append_stop (t := s) (okName_let hw) (show isLet 32 = false by decide)
    obtain ⟨c, r, e, hc⟩ := head_let hw
    show lKey pl (w ++ 32 :: s) = _
    unfold lKey
    rw [if_neg, h1, h2, if_neg]
    · rintro (z | z | z)
      · rw [e] at z; cases z
      · have := hw.2.1; omega
      · exact z.2 (hp z.1)
    · rw [e]
      intro z
      exact let_ne hc (by decide) (Option.some.inj z.2)
theorem lMsg_step {i : Bool} {acc : List Nd} {r u : List Nat} {x : Nd} (h : lNode i r = some (x, u)) (hl : u.length < r.length) (hr : ∀ t, r ≠ 125 :: t) : lMsg i acc r = lMsg i (pushN acc x) u := by
  cases r with
  | nil => simp at hl
  | cons c t =>
    conv => lhs; unfold lMsg
    rw [if_neg (fun z => hr t (by rw [z])), h]
    dsimp only
    rw [dif_pos hl]
theorem lMsg_end {i : Bool} {acc : List Nd} {t : List Nat} (h : t = [] ∨ ∃ s, t = 125 :: s) : lMsg i acc t = some (acc, t) := by
  rcases h with rfl | ⟨s, rfl⟩
  · unfold lMsg; rfl
  · unfold lMsg; rw [if_pos rfl]
theorem push_push (acc : List Nd) (a b : List Nat) : pushN (pushN acc (.txt a)) (.txt b) = pushN acc (.txt (a ++ b)) := by
  by_cases z : ∃ c t, acc = c ++ [.txt t]
  · obtain ⟨c, t, rfl⟩ := z
    rw [pushN_merge, pushN_merge, pushN_merge, List.append_assoc]
  · have h := fun c t e => z ⟨c, t, e⟩
    rw [pushN_new acc a h, pushN_new acc (a ++ b) h]
    by_cases ha : a = []
    · subst ha
      rw [if_pos rfl, pushN_new acc b h, List.nil_append]
    · rw [if_neg ha, pushN_merge, if_neg (by simp [ha])]
theorem push_nil {acc : List Nd} : pushN acc (.txt []) = acc := by
  by_cases z : ∃ c t, acc = c ++ [.txt t]
  · obtain ⟨c, t, rfl⟩ := z
    rw [pushN_merge, List.append_nil]
  · rw [pushN_new acc [] (fun c t e => z ⟨c, t, e⟩), if_pos rfl]
theorem lNode_char (i : Bool) (c : Nat) (rest : List Nat) : lNode i (fmtC c ++ rest) = some (.txt [c], rest) ∧ (∀ t, fmtC c ++ rest ≠ 125 :: t) := by
  by_cases h39 : c = 39
  · subst h39
    refine ⟨?_, fun t z => (by cases z)⟩
    show lNode i (39 :: 39 :: rest) = _
    unfold lNode
    rw [if_pos rfl]
    simp [lEsc, lEscs]
  · by_cases he : c = 123 ∨ c = 125 ∨ c = 35
    · have e : fmtC c = [39, c, 39] := by unfold fmtC; rw [if_neg h39, if_pos he]
      rw [e]
      refine ⟨?_, fun t z => (by cases z)⟩
      show lNode i (39 :: c :: 39 :: rest) = _
      unfold lNode
      rw [if_pos rfl]
      rcases he with rfl | rfl | rfl <;> simp [lEsc, lEscs]
    · have e : fmtC c = [c] := by unfold fmtC; rw [if_neg h39, if_neg he]
      rw [e]
      refine ⟨?_, fun t z => ?_⟩
      · show lNode i (c :: rest) = _
        unfold lNode
        rw [if_neg h39, if_neg (fun z => he (.inr (.inr z))), if_pos (fun z => he (.inl z))]
      · exact he (.inr (.inl (List.cons.inj z).1))
theorem lText (i : Bool) : ∀ (s : List Nat) (acc : List Nd) (rest : List Nat), lMsg i acc (fmtT s ++ rest) = lMsg i (pushN acc (.txt s)) rest
  | [], acc, rest => by rw [push_nil]; rfl
  | c :: s, acc, rest => by
    have e : fmtT (c :: s) ++ rest = fmtC c ++ (fmtT s ++ rest) := by
      unfold fmtT; rw [List.flatMap_cons, List.append_assoc]
    rw [e]
    obtain ⟨h1, h2⟩ := lNode_char i c (fmtT s ++ rest)
    rw [lMsg_step h1 (by
      have : 0 < (fmtC c).length := List.length_pos_iff.mpr (fmtC_pos c)
      simp only [List.length_append]; omega) h2, lText i s, push_push]
    rfl
theorem starts_app (p t : List Nat) : starts p (p ++ t) = some t := by
  unfold starts
  rw [if_pos (List.prefix_append _ _), List.drop_left]
theorem lOff_fmt (pl : Bool) {off : Nat} (h : off ≤ 9) {rest : List Nat} (hr : ¬ tOff <+: rest) (ho : pl = false → off = 0) : lOff pl (fmtO pl off ++ rest) = some (off, rest) := by
  unfold fmtO
  by_cases hp : pl = true ∧ 0 < off
  · rw [if_pos hp, TL.numL_lt (by omega)]
    unfold lOff
    rw [if_pos ⟨hp.1, by rw [List.append_assoc]; exact List.prefix_append _ _⟩]
    show (if (49 ≤ 48 + off ∧ 48 + off ≤ 57) ∧ (32 : Nat) = 32 then some (48 + off - 48, rest) else none) = _
    rw [if_pos ⟨by omega, rfl⟩]
    congr 2
    omega
  · rw [if_neg hp]
    unfold lOff
    rw [List.nil_append, if_neg (fun z => hr z.2)]
    have : off = 0 := by
      cases pl with
      | true => simp at hp; exact hp
      | false => exact ho rfl
    rw [this]
/-- no word of a case begins as an offset does -/
theorem no_off {k : Ky} {pl : Bool} (h : okK pl k ∨ k = .wd tOth) (s : List Nat) : ¬ tOff <+: fmtK k ++ 32 :: s := by
  rintro ⟨t, e⟩
  cases k with
  | ix j => cases e
  | wd w =>
    have hw : okName w := by
      rcases h with h | h
      · exact h.1
      · cases h; exact okName_oth
    have e : tOff ++ t = w ++ 32 :: s := e
    have h1 := (takeWhile_append_stop (t := s) (okName_let hw) (show isLet 32 = false by decide)).1
    have h2 : (tOff ++ t).takeWhile isLet = [111, 102, 102, 115, 101, 116] := by
      show ([111, 102, 102, 115, 101, 116] ++ 58 :: t).takeWhile isLet = _
      exact (takeWhile_append_stop (by decide) (by decide)).1
    rw [e, h1] at h2
    subst h2
    have h3 := congrArg (fun l => l[6]?) e
    simp at h3
/-! messages whose texts may be empty -/
mutual
def w0N (i : Bool) : Nd → Prop
  | .txt s => ∀ c ∈ s, okC c
  | .shw n => okName n
  | .num => i = true
  | .cho pl n off cs ot => okName n ∧ off ≤ 9 ∧ (pl = false → off = 0) ∧ w0C (pl || i) pl cs ∧ (cs.map (·.1)).Nodup ∧ w0M (pl || i) ot
def w0M (i : Bool) : List Nd → Prop
  | [] => True
  | x :: r => w0N i x ∧ w0M i r
def w0C (i pl : Bool) : List (Ky × List Nd) → Prop
  | [] => True
  | (k, m) :: r => okK pl k ∧ w0M i m ∧ w0C i pl r
end
mutual
theorem wf_w0N : ∀ (i : Bool) (x : Nd), wfN i x → w0N i x
  | _, .txt s, h => by unfold wfN at h; unfold w0N; exact h.2
  | _, .shw n, h => by unfold wfN at h; unfold w0N; exact h
  | _, .num, h => by unfold wfN at h; unfold w0N; exact h
  | i, .cho pl n off cs ot, h => by
    unfold wfN at h
    unfold w0N
    exact ⟨h.1, h.2.1, h.2.2.1, wf_w0C _ _ cs h.2.2.2.1, h.2.2.2.2.1, wf_w0M _ ot h.2.2.2.2.2⟩
theorem wf_w0M : ∀ (i : Bool) (m : List Nd), wfM i m → w0M i m
  | _, [], _ => by unfold w0M; trivial
  | i, x :: r, h => by
    unfold wfM at h
    unfold w0M
    exact ⟨wf_w0N i x h.1, wf_w0M i r h.2⟩
theorem wf_w0C : ∀ (i pl : Bool) (cs : List (Ky × List Nd)), wfC i pl cs → w0C i pl cs
  | _, _, [], _ => by unfold w0C; trivial
  | i, pl, (k, m) :: r, h => by
    unfold wfC at h
    unfold w0C
    exact ⟨h.1, wf_w0M i m h.2.1, wf_w0C i pl r h.2.2⟩
end
theorem fmtCs_key (cs : List (Ky × List Nd)) (X : List Nat) (i pl : Bool) (h : w0C i pl cs) : ∃ k s, (okK pl k ∨ k = .wd tOth) ∧ fmtCs cs ++ (tOth ++ ([32, 123] ++ X)) = fmtK k ++ 32 :: s := by
  cases cs with
  | nil => exact ⟨.wd tOth, 123 :: X, .inr rfl, rfl⟩
  | cons q r =>
    obtain ⟨k, m⟩ := q
    unfold w0C at h
    exact ⟨k, 123 :: (fmtM m ++ 125 :: 32 :: (fmtCs r ++ (tOth ++ ([32, 123] ++ X)))), .inl h.1, by rw [fmtCs]; simp⟩
theorem plainC_keys (cs : List (Ky × List Nd)) : (plainC cs).map (·.1) = cs.map (·.1) := by
  rw [plainC_eq, List.map_map]; rfl
theorem lCho_more {i pl : Bool} {n : List Nat} {off : Nat} {acc : List (Ky × List Nd)} {k : Ky} {X r3 r5 : List Nat} {m : List Nd} (hk : okK pl k) (hw : k ≠ .wd tOth) (hn : k ∉ acc.map (·.1)) (hm : lMsg (pl || i) [] X = some (m, r3)) (h3 : r3 = 125 :: 32 :: r5) (hX : r5.length < X.length) :
    lCho i pl n off acc (fmtK k ++ ([32, 123] ++ X)) = lCho i pl n off (acc ++ [(k, m)]) r5 := by
  conv => lhs; unfold lCho
  have e : fmtK k ++ ([32, 123] ++ X) = fmtK k ++ 32 :: (123 :: X) := rfl
  rw [e, lKey_fmt (.inl hk)]
  dsimp only
  rw [show starts [32, 123] (32 :: 123 :: X) = some X from starts_app [32, 123] X]
  dsimp only
  rw [if_neg hn, dif_pos (by simp only [List.length_append, List.length_cons]; omega), hm, h3]
  dsimp only
  rw [show starts [125] (125 :: 32 :: r5) = some (32 :: r5) from starts_app [125] _]
  dsimp only
  rw [if_neg hw, show starts [32] (32 :: r5) = some r5 from starts_app [32] _]
  dsimp only
  rw [dif_pos (by simp only [List.length_append, List.length_cons]; omega)]
theorem lCho_last {i pl : Bool} {n : List Nat} {off : Nat} {acc : List (Ky × List Nd)} {X r3 r5 : List Nat} {m : List Nd} (hn : Ky.wd tOth ∉ acc.map (·.1)) (hm : lMsg (pl || i) [] X = some (m, r3)) (h3 : r3 = 125 :: 125 :: r5) :
    lCho i pl n off acc (tOth ++ ([32, 123] ++ X)) = some (.cho pl n off acc m, r5) := by
  unfold lCho
  have e : tOth ++ ([32, 123] ++ X) = fmtK (.wd tOth) ++ 32 :: (123 :: X) := rfl
  rw [e, lKey_fmt (.inr rfl)]
  dsimp only
  rw [show starts [32, 123] (32 :: 123 :: X) = some X from starts_app [32, 123] X]
  dsimp only
  rw [if_neg hn, dif_pos (by simp only [List.length_append, List.length_cons]; omega), hm, h3]
  dsimp only
  rw [show starts [125] (125 :: 125 :: r5) = some (125 :: r5) from starts_app [125] _]
  dsimp only
  rw [if_pos rfl, show starts [125] (125 :: r5) = some r5 from starts_app [125] _]
theorem wfC_noth {i pl : Bool} : ∀ {cs : List (Ky × List Nd)}, w0C i pl cs → Ky.wd tOth ∉ cs.map (·.1)
  | [], _ => by simp
  | (k, m) :: r, h => by
    unfold w0C at h
    rw [List.map_cons, List.mem_cons]
    rintro (z | z)
    · have z : Ky.wd tOth = k := z
      subst z
      exact h.1.2.1 rfl
    · exact wfC_noth h.2.2 z
mutual
theorem lN_fmt (i : Bool) : ∀ x : Nd, w0N i x → isTxt x = false → ∀ t, lNode i (fmtN x ++ t) = some (plainN x, t)
  | .txt s, _, h, _ => by cases h
  | .num, h, _, t => by
    show lNode i (35 :: t) = _
    unfold lNode
    have hi : i = true := h
    rw [if_neg (by decide), if_pos rfl, if_pos hi]; rfl
  | .shw n, h, _, t => by
    have hn : okName n := h
    obtain ⟨h1, h2⟩ := takeWhile_append_stop (t := t) (okName_let hn) (show isLet 125 = false by decide)
    show lNode i (123 :: ((n ++ [125]) ++ t)) = _
    rw [List.append_assoc]
    show lNode i (123 :: (n ++ 125 :: t)) = _
    unfold lNode
    rw [if_neg (by decide), if_neg (by decide), if_neg (by decide), h1, h2, if_neg]
    · dsimp only
      rw [if_pos rfl]; rfl
    · have := hn.1
      have := hn.2.1
      rintro (z | z)
      · rw [z] at hn; exact absurd hn.1 (by decide)
      · omega
  | .cho pl n off cs ot, h, _, t => by
    unfold w0N at h
    obtain ⟨hn, ho, ho2, hc, hnd, hm⟩ := h
    have hot : ∀ s, lMsg (pl || i) [] (fmtM ot ++ 125 :: s) = some (plainM ot, 125 :: s) := fun s => lM_fmt (pl || i) ot hm [] (125 :: s) (.inr ⟨s, rfl⟩)
    have hcs := lC_fmt i pl n off ot hot cs [] hc (by simpa using hnd) (by simp) t
    rw [List.nil_append] at hcs
    obtain ⟨h1, h2⟩ := takeWhile_append_stop (w := n) (t := [32] ++ (tKind pl ++ ([44, 32] ++ (fmtO pl off ++ (fmtCs cs ++ (tOth ++ ([32, 123] ++ (fmtM ot ++ 125 :: 125 :: t)))))))) (okName_let hn) (show isLet 44 = false by decide)
    have e : fmtN (.cho pl n off cs ot) ++ t = 123 :: (n ++ 44 :: ([32] ++ (tKind pl ++ ([44, 32] ++ (fmtO pl off ++ (fmtCs cs ++ (tOth ++ ([32, 123] ++ (fmtM ot ++ 125 :: 125 :: t))))))))) := by
      rw [fmtN]; simp
    obtain ⟨k0, s0, hk0, es0⟩ := fmtCs_key cs (fmtM ot ++ 125 :: 125 :: t) _ _ hc
    have hoff := lOff_fmt pl ho (rest := fmtCs cs ++ (tOth ++ ([32, 123] ++ (fmtM ot ++ 125 :: 125 :: t)))) (by rw [es0]; exact no_off hk0 s0) ho2
    have hne : ¬ (n = [] ∨ 8 < n.length) := by
      have := hn.1
      have := hn.2.1
      rintro (z | z)
      · rw [z] at hn; exact absurd hn.1 (by decide)
      · omega
    rw [e]
    unfold lNode
    rw [if_neg (by decide), if_neg (by decide), if_neg (by decide), h1, h2, if_neg hne]
    dsimp only
    rw [if_neg (by decide), plainN]
    cases pl with
    | false =>
      have ho0 := ho2 rfl
      subst ho0
      rw [show starts ([44, 32] ++ tSel ++ [44, 32]) (44 :: ([32] ++ (tKind false ++ ([44, 32] ++ (fmtO false 0 ++ (fmtCs cs ++ (tOth ++ ([32, 123] ++ (fmtM ot ++ 125 :: 125 :: t))))))))) = some (fmtCs cs ++ (tOth ++ ([32, 123] ++ (fmtM ot ++ 125 :: 125 :: t)))) from starts_app ([44, 32] ++ tSel ++ [44, 32]) _]
      dsimp only
      rw [dif_pos (by simp only [List.length_append, List.length_cons]; omega)]
      exact hcs
    | true =>
      rw [show starts ([44, 32] ++ tSel ++ [44, 32]) (44 :: ([32] ++ (tKind true ++ ([44, 32] ++ (fmtO true off ++ (fmtCs cs ++ (tOth ++ ([32, 123] ++ (fmtM ot ++ 125 :: 125 :: t))))))))) = none by
        unfold starts; rw [if_neg]; rintro ⟨u, z⟩; cases z]
      dsimp only
      rw [show starts ([44, 32] ++ tPlu ++ [44, 32]) (44 :: ([32] ++ (tKind true ++ ([44, 32] ++ (fmtO true off ++ (fmtCs cs ++ (tOth ++ ([32, 123] ++ (fmtM ot ++ 125 :: 125 :: t))))))))) = some (fmtO true off ++ (fmtCs cs ++ (tOth ++ ([32, 123] ++ (fmtM ot ++ 125 :: 125 :: t))))) from starts_app ([44, 32] ++ tPlu ++ [44, 32]) _]
      dsimp only
      rw [hoff]
      dsimp only
      rw [dif_pos (by simp only [List.length_append, List.length_cons]; omega)]
      exact hcs
theorem lM_fmt (i : Bool) : ∀ m : List Nd, w0M i m → ∀ acc t, (t = [] ∨ ∃ s, t = 125 :: s) → lMsg i acc (fmtM m ++ t) = some (plainA acc m, t)
  | [], _, acc, t, ht => by
    rw [plainA]
    exact lMsg_end ht
  | .txt s :: r, h, acc, t, ht => by
    unfold w0M at h
    rw [fmtM, fmtN, List.append_assoc, lText, lM_fmt i r h.2 _ t ht, plainA, plainN]
  | .shw n :: r, h, acc, t, ht => by
    unfold w0M at h
    rw [fmtM, List.append_assoc, lMsg_step (lN_fmt i (.shw n) h.1 rfl _) (by rw [fmtN]; simp only [List.length_append, List.length_cons]; omega) (by rw [fmtN]; intro t z; cases z), lM_fmt i r h.2 _ t ht, plainA]
  | .num :: r, h, acc, t, ht => by
    unfold w0M at h
    rw [fmtM, List.append_assoc, lMsg_step (lN_fmt i .num h.1 rfl _) (by rw [fmtN]; simp only [List.length_append, List.length_cons]; omega) (by rw [fmtN]; intro t z; cases z), lM_fmt i r h.2 _ t ht, plainA]
  | .cho pl n off cs ot :: r, h, acc, t, ht => by
    unfold w0M at h
    rw [fmtM, List.append_assoc, lMsg_step (lN_fmt i (.cho pl n off cs ot) h.1 rfl _) (by rw [fmtN]; simp only [List.length_append, List.length_cons]; omega) (by rw [fmtN]; intro t z; cases z), lM_fmt i r h.2 _ t ht, plainA]
theorem lC_fmt (i pl : Bool) (n : List Nat) (off : Nat) (ot : List Nd) (hot : ∀ s, lMsg (pl || i) [] (fmtM ot ++ 125 :: s) = some (plainM ot, 125 :: s)) : ∀ (cs acc : List (Ky × List Nd)), w0C (pl || i) pl cs → (acc.map (·.1) ++ cs.map (·.1)).Nodup → Ky.wd tOth ∉ acc.map (·.1) → ∀ t,
    lCho i pl n off acc (fmtCs cs ++ (tOth ++ ([32, 123] ++ (fmtM ot ++ 125 :: 125 :: t)))) = some (.cho pl n off (acc ++ plainC cs) (plainM ot), t)
  | [], acc, _, _, ha, t => by
    rw [plainC, List.append_nil]
    exact lCho_last ha (hot (125 :: t)) rfl
  | (k, m) :: r, acc, h, hnd, ha, t => by
    unfold w0C at h
    have hk : k ∉ acc.map (·.1) := fun z => by
      rw [List.nodup_append] at hnd
      exact hnd.2.2 k z k (by simp) rfl
    have hkw : k ≠ .wd tOth := fun z => by subst z; exact h.1.2.1 rfl
    have hm := lM_fmt (pl || i) m h.2.1 [] (125 :: (32 :: (fmtCs r ++ (tOth ++ ([32, 123] ++ (fmtM ot ++ 125 :: 125 :: t)))))) (.inr ⟨_, rfl⟩)
    have e : fmtCs ((k, m) :: r) ++ (tOth ++ ([32, 123] ++ (fmtM ot ++ 125 :: 125 :: t))) = fmtK k ++ ([32, 123] ++ (fmtM m ++ 125 :: (32 :: (fmtCs r ++ (tOth ++ ([32, 123] ++ (fmtM ot ++ 125 :: 125 :: t))))))) := by
      rw [fmtCs]; simp
    rw [e, lCho_more h.1 hkw hk hm rfl (by simp only [List.length_append, List.length_cons]; omega),
      lC_fmt i pl n off ot hot r (acc ++ [(k, plainA [] m)]) h.2.2 (by simpa using hnd) (by
        rw [List.map_append, List.mem_append]
        rintro (z | z)
        · exact ha z
        · have : Ky.wd tOth = k := by simpa using z
          exact hkw this.symm) t, plainC, List.append_assoc]
    rfl
end
end Mw

set_option Elab.async false
set_option linter.all false
set_option maxRecDepth 100000
set_option maxHeartbeats 4000000
/-! MwM5: what the law's reader takes, the program's reader takes too, and it was written so. -/
namespace Mw
open PySem PySem.Spec L2
open SX (S S_cat S_len S_inj)
theorem num_back {w : List Nat} (hd : w.all isDig = true) (hn : w ≠ []) (h3 : w.length ≤ 3) (h0 : ¬ (w.head? = some 48 ∧ 1 < w.length)) : TL.numL (NumText.digitsVal w) = w ∧ NumText.digitsVal w ≤ 999 ∧ (w.head? = some 48 → w = [48]) := by
  have dig : ∀ c, c ∈ w → 48 ≤ c ∧ c ≤ 57 := fun c hc => by
    have := List.all_eq_true.mp hd c hc
    unfold isDig at this
    simpa using this
  match w, hn, h3, h0, dig with
  | [a], _, _, h0, dig =>
    have ha := dig a (by simp)
    have hv : NumText.digitsVal [a] = a - 48 := by simp [NumText.digitsVal]
    refine ⟨?_, by rw [hv]; omega, fun z => by simpa using z⟩
    rw [hv, TL.numL_lt (by omega)]
    congr 1; omega
  | [a, b], _, _, h0, dig =>
    have ha := dig a (by simp)
    have hb := dig b (by simp)
    have hna : a ≠ 48 := fun z => h0 ⟨by simp [z], by simp⟩
    have hv : NumText.digitsVal [a, b] = (a - 48) * 10 + (b - 48) := by simp [NumText.digitsVal]
    refine ⟨?_, by rw [hv]; omega, fun z => absurd (by simpa using z) hna⟩
    rw [hv, TL.numL_step (by omega), TL.numL_lt (by omega)]
    show [_, _] = [a, b]
    congr 1
    · omega
    · congr 1; omega
  | [a, b, c], _, _, h0, dig =>
    have ha := dig a (by simp)
    have hb := dig b (by simp)
    have hc := dig c (by simp)
    have hna : a ≠ 48 := fun z => h0 ⟨by simp [z], by simp⟩
    have hv : NumText.digitsVal [a, b, c] = ((a - 48) * 10 + (b - 48)) * 10 + (c - 48) := by simp [NumText.digitsVal]
    refine ⟨?_, by rw [hv]; omega, fun z => absurd (by simpa using z) hna⟩
    rw [hv, TL.numL_step (by omega), TL.numL_step (by omega), TL.numL_lt (by omega)]
    show [_, _, _] = [a, b, c]
    congr 1
    · omega
    · congr 1
      · omega
      · congr 1; omega
theorem skip_let {c : Nat} {r : List Nat} (h : isSp c = false) : skip (c :: r) = c :: r := by
  unfold skip; rw [List.dropWhile_cons, if_neg (by simp [h])]
theorem let_nosp {c : Nat} (h : isLet c = true) : isSp c = false := by
  unfold isLet at h
  unfold isSp
  simp only [Bool.and_eq_true, decide_eq_true_eq] at h
  simp only [Bool.or_eq_false_iff, decide_eq_false_iff_not]
  omega
theorem lp_key {pl : Bool} {r r1 : List Nat} {k : Ky} (h : lKey pl r = some (k, r1)) : pKey pl r = some (k, r1) ∧ r = fmtK k ++ r1 ∧ skip r = r ∧ (okK pl k ∨ k = .wd tOth) := by
  unfold lKey at h
  split at h
  · next hp =>
    split at h
    · cases h
    · next hb =>
      cases h
      simp only [not_or] at hb
      obtain ⟨b1, b2, b3⟩ := hb
      cases r with
      | nil => simp at hp
      | cons c t =>
        have e61 : c = 61 := by simpa using hp.2
        subst e61
        rw [List.tail_cons] at *
        obtain ⟨n1, n2, n3⟩ := num_back (takeWhile_all isDig t) b1 (by omega) b3
        have hs : skip (61 :: t) = 61 :: t := skip_let (by decide)
        refine ⟨?_, ?_, hs, .inl ⟨hp.1, n2⟩⟩
        · unfold pKey
          rw [hs, if_pos ⟨hp.1, rfl⟩, List.tail_cons]
          unfold pNat
          rw [if_neg]
          · rfl
          · rintro (z | z | z | z)
            · exact b1 z
            · exact b2 z
            · exact z.2 (n3 z.1)
            · omega
        · show 61 :: t = 61 :: (TL.numL _ ++ _)
          rw [n1, List.takeWhile_append_dropWhile]
  · next hp =>
    split at h
    · cases h
    · next hb =>
      cases h
      simp only [not_or] at hb
      obtain ⟨b1, b2, b3⟩ := hb
      cases r with
      | nil => simp at b1
      | cons c t =>
        have hc : isLet c = true := by
          cases z : isLet c with
          | true => rfl
          | false => rw [List.takeWhile_cons, if_neg (by simp [z])] at b1; exact absurd rfl b1
        have hs : skip (c :: t) = c :: t := skip_let (let_nosp hc)
        have hlen : 1 ≤ ((c :: t).takeWhile isLet).length := List.length_pos_iff.mpr b1
        have hw : pWord (c :: t) = some ((c :: t).takeWhile isLet, (c :: t).dropWhile isLet) := by
          unfold pWord
          rw [hs, if_pos ⟨hlen, by omega⟩]
        refine ⟨?_, ?_, hs, ?_⟩
        · unfold pKey
          rw [hs, if_neg hp, hw]
          dsimp only
          rw [if_neg]
          rintro ⟨z1, z2, z3⟩
          refine b3 ⟨z1, fun z => ?_⟩
          rcases List.mem_append.mp z with z | z
          · exact z2 z
          · exact z3 (by simpa using z)
        · exact List.takeWhile_append_dropWhile.symm
        · by_cases ho : (c :: t).takeWhile isLet = tOth
          · exact .inr (by rw [ho])
          · refine .inl ⟨⟨hlen, by omega, takeWhile_all isLet _⟩, ho, fun hpl => ?_⟩
            apply Classical.byContradiction
            intro z
            refine b3 ⟨hpl, fun z2 => ?_⟩
            rcases List.mem_append.mp z2 with z2 | z2
            · exact z z2
            · exact ho (by simpa using z2)
theorem of_starts {p r t : List Nat} (h : starts p r = some t) : r = p ++ t := by
  unfold starts at h
  split at h
  · next e =>
    cases h
    obtain ⟨u, rfl⟩ := e
    rw [List.drop_left]
  · cases h
theorem expect_here {c : Nat} {t : List Nat} (h : isSp c = false) : pExpect c (c :: t) = some t := by
  unfold pExpect
  rw [skip_let h]
  exact if_pos rfl
theorem expect_sp {c : Nat} {t : List Nat} (h : isSp c = false) : pExpect c (32 :: c :: t) = some t := by
  unfold pExpect
  have : skip (32 :: c :: t) = c :: t := by
    unfold skip
    rw [List.dropWhile_cons, if_pos (by decide), List.dropWhile_cons, if_neg (by simp [h])]
  rw [this]
  exact if_pos rfl
theorem skip_sp (t : List Nat) : skip (32 :: t) = skip t := by
  unfold skip; rw [List.dropWhile_cons, if_pos (by decide)]
theorem key_sp (pl : Bool) (t : List Nat) : pKey pl (32 :: t) = pKey pl t := by
  unfold pKey; rw [skip_sp]
theorem off_sp (t : List Nat) : pOff (32 :: t) = pOff t := by
  unfold pOff; rw [skip_sp]
theorem cho_sp (i pl : Bool) (n : List Nat) (off : Nat) (acc : List (Ky × List Nd)) (t : List Nat) : pCho i pl n off acc (32 :: t) = pCho i pl n off acc t := by
  rw [pCho_eq, pCho_eq (r := t), key_sp]
theorem lp_esc {c : Nat} {r t : List Nat} (h : lEsc lEscs r = some (c, t)) : pEsc escs r = some (c, t) ∧ r = fmtC c ++ t := by
  unfold lEscs at h
  simp only [lEsc] at h
  split at h
  · next e =>
    cases h
    obtain ⟨u, rfl⟩ := e
    exact ⟨by simp [pEsc, escs, fmtC], by simp [fmtC]⟩
  · split at h
    · next e =>
      cases h
      obtain ⟨u, rfl⟩ := e
      exact ⟨by simp [pEsc, escs, fmtC], by simp [fmtC]⟩
    · split at h
      · next e =>
        cases h
        obtain ⟨u, rfl⟩ := e
        exact ⟨by simp [pEsc, escs, fmtC], by simp [fmtC]⟩
      · split at h
        · next e =>
          cases h
          obtain ⟨u, rfl⟩ := e
          exact ⟨by simp [pEsc, escs, fmtC], by simp [fmtC]⟩
        · cases h
def allOk (r : List Nat) : Prop := ∀ c ∈ r, okC c
theorem allOk.right {a b : List Nat} (h : allOk (a ++ b)) : allOk b := fun c hc => h c (List.mem_append_right _ hc)
theorem word_here {n : List Nat} {c : Nat} {t : List Nat} (hn : okName n) (hc : isLet c = false) : pWord (n ++ c :: t) = some (n, c :: t) := by
  obtain ⟨h1, h2⟩ := takeWhile_append_stop (t := t) (okName_let hn) hc
  obtain ⟨d, r, e, hd⟩ := head_let hn
  have hs : skip (n ++ c :: t) = n ++ c :: t := by
    rw [e]; exact skip_let (let_nosp hd)
  unfold pWord
  rw [hs, h1, h2, if_pos ⟨hn.1, hn.2.1⟩]
theorem word_sp (t : List Nat) : pWord (32 :: t) = pWord t := by
  unfold pWord; rw [skip_sp]
def RM (i : Bool) (acc : List Nd) (r : List Nat) (m : List Nd) (t : List Nat) : Prop := ∃ m', pMsg i r = some (m', t) ∧ m = plainA acc m' ∧ r = fmtM m' ++ t
def RN (i : Bool) (r : List Nat) (x : Nd) (t : List Nat) : Prop := ∃ x', pNode i r = some (x', t) ∧ x = plainN x' ∧ r = fmtN x' ++ t
def RC (i pl : Bool) (n : List Nat) (off : Nat) (acc' : List (Ky × List Nd)) (r : List Nat) (x : Nd) (t : List Nat) : Prop :=
  ∃ cs ot, pCho i pl n off acc' r = some (.cho pl n off (acc' ++ cs) ot, t) ∧ x = .cho pl n off (plainC (acc' ++ cs)) (plainM ot) ∧ r = fmtCs cs ++ (tOth ++ ([32, 123] ++ (fmtM ot ++ (125 :: 125 :: t)))) ∧ skip r = r
theorem plainC_append (a b : List (Ky × List Nd)) : plainC (a ++ b) = plainC a ++ plainC b := by
  rw [plainC_eq, plainC_eq, plainC_eq, List.map_append]
theorem law_read (n : Nat) : (∀ i acc r m t, r.length ≤ n → allOk r → lMsg i acc r = some (m, t) → RM i acc r m t) ∧ (∀ i r x t, r.length ≤ n → allOk r → (∀ s, r ≠ 125 :: s) → lNode i r = some (x, t) → RN i r x t) ∧
    (∀ i pl nm off acc r x t, r.length ≤ n → allOk r → lCho i pl nm off (plainC acc) r = some (x, t) → RC i pl nm off acc r x t) := by
  induction n using Nat.strongRecOn with
  | _ n ih =>
  have cho : ∀ i pl nm off acc r x t, r.length ≤ n → allOk r → lCho i pl nm off (plainC acc) r = some (x, t) → RC i pl nm off acc r x t := by
    intro i pl nm off acc r x t hr hok h
    unfold lCho at h
    split at h
    · cases h
    · next k r1 e1 =>
      obtain ⟨k1, k2, k3, k4⟩ := lp_key e1
      split at h
      · cases h
      · next r2 e2 =>
        have e2 := of_starts e2
        split at h
        · cases h
        · next hk =>
          rw [plainC_keys] at hk
          split at h
          · next hlt =>
            split at h
            · cases h
            · next m r3 e3 =>
              subst e2
              have hok2 : allOk r2 := by
                rw [k2] at hok
                exact hok.right.right
              obtain ⟨m', p1, p2, p3⟩ := (ih r2.length (by omega)).1 _ _ _ _ _ (Nat.le_refl _) hok2 e3
              split at h
              · cases h
              · next r4 e4 =>
                have e4 := of_starts e4
                subst e4
                have hx1 : pExpect 123 ([32, 123] ++ r2) = some r2 := expect_sp (by decide)
                have hx2 : pExpect 125 ([125] ++ r4) = some r4 := expect_here (by decide)
                split at h
                · next hoth =>
                  split at h
                  · cases h
                  · next r5 e5 =>
                    have e5 := of_starts e5
                    subst e5
                    cases h
                    refine ⟨[], m', ?_, ?_, ?_, k3⟩
                    · rw [pCho_eq, k1]
                      dsimp only
                      rw [if_neg hk, hx1]
                      dsimp only
                      rw [p1]
                      dsimp only
                      rw [hx2]
                      dsimp only
                      rw [if_pos hoth, show pExpect 125 ([125] ++ t) = some t from expect_here (by decide), List.append_nil]
                    · rw [List.append_nil, p2]; rfl
                    · rw [k2, hoth, p3, fmtCs]; simp [fmtK]
                · next hoth =>
                  split at h
                  · cases h
                  · next r5 e5 =>
                    have e5 := of_starts e5
                    subst e5
                    split at h
                    · next hlt2 =>
                      have hok5 : allOk r5 := by
                        rw [p3] at hok2
                        exact hok2.right.right.right
                      have e6 : plainC acc ++ [(k, m)] = plainC (acc ++ [(k, m')]) := by
                        rw [plainC_append, p2]; rfl
                      rw [e6] at h
                      obtain ⟨cs, ot, q1, q2, q3, q4⟩ := (ih r5.length (by omega)).2.2 _ _ _ _ _ _ _ _ (Nat.le_refl _) hok5 h
                      refine ⟨(k, m') :: cs, ot, ?_, ?_, ?_, k3⟩
                      · rw [pCho_eq, k1]
                        dsimp only
                        rw [if_neg hk, hx1]
                        dsimp only
                        rw [p1]
                        dsimp only
                        rw [hx2]
                        dsimp only
                        rw [if_neg hoth]
                        show pCho i pl nm off (acc ++ [(k, m')]) (32 :: r5) = _
                        rw [cho_sp, q1, List.append_assoc]; rfl
                      · rw [q2, List.append_assoc]; rfl
                      · rw [k2, p3, fmtCs]
                        simp only [List.append_assoc, List.cons_append, List.nil_append, List.append_cancel_left_eq, List.cons.injEq, true_and]
                        rw [q3]
                        simp
                    · cases h
          · cases h
  have node : ∀ i r x t, r.length ≤ n → allOk r → (∀ s, r ≠ 125 :: s) → lNode i r = some (x, t) → RN i r x t := by
    intro i r x t hr hok h125 h
    unfold lNode at h
    split at h
    · cases h
    · next c s =>
      split at h
      · next hc =>
        subst hc
        cases he : lEsc lEscs (39 :: s) with
        | none => rw [he] at h; cases h
        | some q =>
          obtain ⟨d, u⟩ := q
          rw [he] at h
          cases h
          obtain ⟨p1, p2⟩ := lp_esc he
          refine ⟨.txt [d], ?_, rfl, ?_⟩
          · unfold pNode
            rw [if_neg (by decide), if_pos rfl, p1]; rfl
          · rw [p2]; simp [fmtN, fmtT]
      · next h39 =>
        split at h
        · next hc =>
          subst hc
          split at h
          · next hi =>
            cases h
            refine ⟨.num, ?_, rfl, rfl⟩
            unfold pNode
            rw [if_neg (by decide), if_neg (by decide), if_pos ⟨rfl, hi⟩]
          · cases h
        · next h35 =>
          split at h
          · next hc =>
            cases h
            have n125 : c ≠ 125 := fun z => h125 t (by rw [z])
            refine ⟨.txt [c], ?_, rfl, ?_⟩
            · unfold pNode
              rw [if_neg hc, if_neg h39, if_neg (fun z => h35 z.1), if_neg]
              rintro (z | z | z)
              · exact n125 z
              · exact h35 z
              · exact z (hok c (by simp))
            · have : fmtC c = [c] := by
                unfold fmtC
                rw [if_neg h39, if_neg]
                rintro (z | z | z)
                · exact hc z
                · exact n125 z
                · exact h35 z
              simp [fmtN, fmtT, this]
          · next hc =>
            have hc : c = 123 := by simpa using hc
            subst hc
            split at h
            · cases h
            · next hw =>
              simp only [not_or] at hw
              have hn : okName (s.takeWhile isLet) := ⟨List.length_pos_iff.mpr hw.1, by omega, takeWhile_all isLet s⟩
              have hsplit : s = s.takeWhile isLet ++ s.dropWhile isLet := List.takeWhile_append_dropWhile.symm
              generalize hN : s.takeWhile isLet = nm at h hn hsplit
              split at h
              · cases h
              · next d r3 e3 =>
                rw [e3] at hsplit
                subst hsplit
                split at h
                · next hd =>
                  cases h
                  subst hd
                  refine ⟨.shw nm, ?_, rfl, ?_⟩
                  · rw [pNode_brace, word_here hn (by decide)]
                    dsimp only
                    rw [skip_let (by decide)]
                    dsimp only
                    rw [if_pos rfl]
                  · simp [fmtN]
                · next hd =>
                  split at h
                  · next r5 e5 =>
                    have e5 := of_starts e5
                    rw [e5] at hok ⊢
                    split at h
                    · next hlt =>
                      have hok5 : allOk r5 := by
                        have : allOk ([123] ++ (nm ++ (([44, 32] ++ tSel ++ [44, 32]) ++ r5))) := hok
                        exact this.right.right.right
                      have hlen : r5.length < n := by
                        rw [e5] at hr
                        simp only [List.length_cons, List.length_append] at hr
                        omega
                      obtain ⟨cs, ot, q1, q2, q3, q4⟩ := (ih r5.length hlen).2.2 _ _ _ _ [] _ _ _ (Nat.le_refl _) hok5 h
                      refine ⟨.cho false nm 0 cs ot, ?_, ?_, ?_⟩
                      · rw [pNode_brace]
                        have e6 : ([44, 32] ++ tSel ++ [44, 32]) ++ r5 = 44 :: (32 :: (tSel ++ 44 :: (32 :: r5))) := rfl
                        rw [e6, word_here hn (by decide)]
                        dsimp only
                        rw [skip_let (by decide)]
                        dsimp only
                        rw [if_neg (by decide), if_pos rfl, word_sp, word_here (by unfold okName; decide) (by decide)]
                        dsimp only
                        rw [if_pos (.inl rfl)]
                        unfold pChoice
                        rw [expect_here (by decide)]
                        dsimp only
                        rw [if_neg (by decide)]
                        dsimp only
                        rw [cho_sp]
                        exact q1
                      · rw [q2]; rfl
                      · rw [fmtN, q3]
                        simp [tKind, fmtO]
                    · cases h
                  · next _ hns =>
                    split at h
                    · cases h
                    · next r5 e5 =>
                      have e5 := of_starts e5
                      rw [e5] at hok ⊢
                      split at h
                      · cases h
                      · next o r6 eo =>
                        split at h
                        · next hlt =>
                          have hok5 : allOk r5 := by
                            have : allOk ([123] ++ (nm ++ (([44, 32] ++ tPlu ++ [44, 32]) ++ r5))) := hok
                            exact this.right.right.right
                          have hlen5 : r5.length < n := by
                            rw [e5] at hr
                            simp only [List.length_cons, List.length_append] at hr
                            omega
                          -- the offset
                          have hoff : allOk r6 ∧ r6.length ≤ r5.length ∧ r5 = fmtO true o ++ r6 ∧ (skip r6 = r6 → pOff r5 = some (o, r6) ∨ pOff r5 = some (o, 32 :: r6)) := by
                            unfold lOff at eo
                            split at eo
                            · next hp =>
                              obtain ⟨u, hu⟩ := hp.2
                              rw [← hu] at eo
                              rw [show (tOff ++ u).drop 7 = u from rfl] at eo
                              split at eo
                              · next d2 e2 t2 =>
                                split at eo
                                · next hd2 =>
                                  cases eo
                                  obtain ⟨⟨hd3, hd4⟩, rfl⟩ := hd2
                                  have hfo : fmtO true (d2 - 48) = tOff ++ [d2, 32] := by
                                    unfold fmtO
                                    rw [if_pos ⟨rfl, by omega⟩, TL.numL_lt (by omega)]
                                    have : 48 + (d2 - 48) = d2 := by omega
                                    rw [this]; rfl
                                  refine ⟨?_, ?_, ?_, fun _ => .inr ?_⟩
                                  · rw [← hu] at hok5
                                    have : allOk (tOff ++ ([d2, 32] ++ r6)) := hok5
                                    exact this.right.right
                                  · rw [← hu]; simp only [List.length_append, List.length_cons]; omega
                                  · rw [← hu, hfo]; simp
                                  · unfold pOff
                                    have hs : skip r5 = r5 := by rw [← hu]; exact skip_let (by decide)
                                    rw [hs, if_pos hp.2, ← hu]
                                    show pNat 9 (d2 :: 32 :: r6) = _
                                    have hdd : isDig d2 = true := by unfold isDig; simp; omega
                                    have h32 : isDig 32 = false := by decide
                                    have tw : (d2 :: 32 :: r6).takeWhile isDig = [d2] := by
                                      rw [List.takeWhile_cons, if_pos hdd, List.takeWhile_cons, h32]; rfl
                                    have dw : (d2 :: 32 :: r6).dropWhile isDig = 32 :: r6 := by
                                      rw [List.dropWhile_cons, if_pos hdd, List.dropWhile_cons, h32]; rfl
                                    have hv : NumText.digitsVal [d2] = d2 - 48 := by simp [NumText.digitsVal]
                                    unfold pNat
                                    rw [tw, dw, hv, if_neg]
                                    rintro (z | z | z | z)
                                    · cases z
                                    · exact absurd z (by show ¬ 3 < 1; decide)
                                    · have := z.1
                                      rw [List.head?_cons] at this
                                      have := Option.some.inj this
                                      omega
                                    · rw [hv] at z; omega
                                · cases eo
                              · cases eo
                            · next hp =>
                              cases eo
                              refine ⟨hok5, Nat.le_refl _, by unfold fmtO; rw [if_neg (by omega)]; rfl, fun hs => .inl ?_⟩
                              unfold pOff
                              rw [hs, if_neg (fun z => hp ⟨rfl, z⟩)]
                          obtain ⟨o1, o2, o3, o4⟩ := hoff
                          obtain ⟨cs, ot, q1, q2, q3, q4⟩ := (ih r6.length (by omega)).2.2 _ _ _ _ [] _ _ _ (Nat.le_refl _) o1 h
                          refine ⟨.cho true nm o cs ot, ?_, ?_, ?_⟩
                          · rw [pNode_brace]
                            have e6 : ([44, 32] ++ tPlu ++ [44, 32]) ++ r5 = 44 :: (32 :: (tPlu ++ 44 :: (32 :: r5))) := rfl
                            rw [e6, word_here hn (by decide)]
                            dsimp only
                            rw [skip_let (by decide)]
                            dsimp only
                            rw [if_neg (by decide), if_pos rfl, word_sp, word_here (by unfold okName; decide) (by decide)]
                            dsimp only
                            rw [if_pos (.inr rfl)]
                            unfold pChoice
                            rw [expect_here (by decide)]
                            dsimp only
                            rw [if_pos (by decide), off_sp]
                            rcases o4 q4 with z | z
                            · rw [z]; exact q1
                            · rw [z]
                              dsimp only
                              rw [cho_sp]
                              exact q1
                          · rw [q2]; rfl
                          · rw [fmtN, o3, q3]
                            simp [tKind]
                        · cases h
  refine ⟨?_, node, cho⟩
  intro i acc r m t hr hok h
  unfold lMsg at h
  split at h
  · cases h
    exact ⟨[], by unfold pMsg; rfl, rfl, rfl⟩
  · next c s =>
    split at h
    · next hc =>
      cases h
      exact ⟨[], by unfold pMsg; rw [if_pos hc], rfl, rfl⟩
    · next hc =>
      split at h
      · cases h
      · next x u e =>
        obtain ⟨x', p1, p2, p3⟩ := node _ _ _ _ hr hok (fun s2 z => hc (List.cons.inj z).1) e
        split at h
        · next hlt =>
          have hoku : allOk u := by
            rw [p3] at hok; exact hok.right
          obtain ⟨m', q1, q2, q3⟩ := (ih u.length (by omega)).1 _ _ _ _ _ (Nat.le_refl _) hoku h
          refine ⟨x' :: m', ?_, ?_, ?_⟩
          · rw [pMsg_cons i c s hc, p1]
            dsimp only
            rw [q1]
          · rw [q2, plainA, p2]
          · rw [p3, fmtM, List.append_assoc, ← q3]
        · cases h
theorem law_read_msg {r : List Nat} {m : List Nd} {t : List Nat} (hok : allOk r) (h : lMsg false [] r = some (m, t)) : ∃ m', pMsg false r = some (m', t) ∧ m = plainM m' ∧ r = fmtM m' ++ t := (law_read r.length).1 _ _ _ _ _ (Nat.le_refl _) hok h
/-- THE TWO READERS AGREE -/
theorem readers {r : List Nat} (hok : allOk r) : (∀ m', pMsg false r = some (m', []) → fmtM (plainM m') = r → lMsg false [] r = some (plainM m', [])) ∧ (∀ m, lMsg false [] r = some (m, []) → ∃ m', pMsg false r = some (m', []) ∧ m = plainM m' ∧ fmtM (plainM m') = r) := by
  refine ⟨fun m' h e => ?_, fun m h => ?_⟩
  · have wf := (parsed_msg h).2.1
    have := lM_fmt false m' (wf_w0M _ _ wf) [] [] (.inl rfl)
    rw [List.append_nil, ← fmt_plain, e] at this
    exact this
  · obtain ⟨m', h1, h2, h3⟩ := law_read_msg hok h
    exact ⟨m', h1, h2, by rw [fmt_plain, h3, List.append_nil]⟩
end Mw

set_option Elab.async false
set_option linter.all false
set_option maxRecDepth 100000
set_option maxHeartbeats 4000000
/-! MwJ1: octets_of, text_of, key_of, parse_message, message_of. -/
namespace Mw
open PySem PySem.Spec L2
open SX (S S_cat S_len S_inj)
/-- a row of octets as values -/
abbrev iv (ns : List Nat) : List V := ns.map fun (n : Nat) => V.int (n : Nat)
def okO (c : Nat) : Prop := c = 10 ∨ (32 ≤ c ∧ c ≤ 126 ∧ c ≠ 37)
instance (c : Nat) : Decidable (okO c) := by unfold okO; infer_instance
def allO (ns : List Nat) : Prop := ∀ c ∈ ns, okO c
instance (ns : List Nat) : Decidable (allO ns) := by unfold allO; infer_instance
abbrev prn : List Nat := [32, 33, 34, 35, 36, 38, 39, 40, 41, 42, 43, 44, 45, 46, 47, 48, 49, 50, 51, 52, 53, 54, 55, 56, 57, 58, 59, 60, 61, 62, 63, 64, 65, 66, 67, 68, 69, 70, 71, 72, 73, 74, 75, 76, 77, 78, 79, 80, 81, 82, 83, 84, 85, 86, 87, 88, 89, 90, 91, 92, 93, 94, 95, 96, 97, 98, 99, 100, 101, 102, 103, 104, 105, 106, 107, 108, 109, 110, 111, 112, 113, 114, 115, 116, 117, 118, 119, 120, 121, 122, 123, 124, 125, 126]
theorem prn1 : ∀ c, c < 37 → 32 ≤ c → prn[c - 32]? = some c := by decide +kernel
theorem prn2 : ∀ c, c < 127 → 38 ≤ c → prn[c - 33]? = some c := by decide +kernel
theorem iv_get {ns : List Nat} {i : Nat} {v : V} (h : (iv ns)[i]? = some v) : ∃ c, ns[i]? = some c ∧ v = .int (c : Nat) := by
  rw [List.getElem?_map] at h
  cases e : ns[i]? with
  | none => rw [e] at h; cases h
  | some c => rw [e] at h; cases h; exact ⟨c, rfl, rfl⟩
theorem none_of {G H : Hp} {a : Addr} (s : Same G H) (h : H a = none) : G a = none := by
  cases z : G a with
  | none => rfl
  | some u => rw [s _ _ z] at h; cases h
section
variable {P : Program} {w : World} {K : PySem.W.Frag} {mg : Str → Option Value} {base : Heap}
def spOct : Sp := fun vs H Q _ => ∃ G l, vs = [.str (S l)] ∧ Same G H ∧ l.length ≤ 15000000 ∧ ∀ a H', Gw [] G H G H' → H' a = some (.lst (iv l)) → Q (.ref a) H'
theorem ok_octets_of (T : Tx K mg) : C8.Cal P w K mg base 1 "octets_of" spOct [] := by
  refine cal_of T.d_octets_of T.g_octets_of (fun _ _ _ _ _ _ us hl => match us, hl with | [_], _ => rfl) sc_octets_of (fun vs H Q E h => ?_) (fun cdv A outer s H vs Q E hr h => ?_)
  · obtain ⟨G, l, rfl, _⟩ := h; rfl
  obtain ⟨G, l, rfl, s0, hl, q⟩ := h
  refine ⟨_, (pss_one (ps_ret (pe_lc (own := [("sign", 1)]) (g := gName 1) (tt := tYes) rfl sc_octets_of.nd (pi_str (pv 0)) (blkOk_by (own := [("sign", 1)]) (N := N_octets_of) (sc := defScope s_octets_of) (by decide +kernel)) (fun _ _ _ _ _ => pg_name (i := 1) sc_octets_of.nd rfl (Or.inl rfl)) (fun _ _ _ _ _ => pts_nil) (fun _ _ _ _ _ => (pe_callB call_ordS (by rfl) T.f_ord (by decide +kernel) (pa_cons (pv 1) pa_nil)))))), ?_⟩
  dsimp only [tRet]
  refine tLc_gen (fun D H' => Gw [] G H G H' ∧ H' D = some (.lst (iv l))) (fun Q' hQ => ?_) (fun D H' h => q D H' h.1 h.2)
  refine ⟨_, rfl, _, rfl, lc_over (runs_s (l := l)) (fun D i H' => H D = none ∧ H' = upd H D (.lst (iv (l.take i)))) (fun D i H' h => trivial) (fun D hD => ⟨hD, rfl⟩) (fun D i xv H' hD hx h => ?_) (fun D H' hD h => ?_)⟩
  · obtain ⟨_, rfl⟩ := h
    rw [List.getElem?_map] at hx
    cases hq : l[i]? with
    | none => rw [hq] at hx; cases hx
    | some c =>
      rw [hq] at hx
      cases hx
      refine ⟨rfl, _, rfl, c, rfl, _, upd_same, ?_, hD, ?_⟩
      · rw [List.length_map, List.length_take, sizeLine_eq]; omega
      · rw [upd_upd, take_snoc hq]; simp
  · obtain ⟨_, rfl⟩ := h
    rw [List.length_map, List.take_length]
    exact hQ D _ ⟨Gw.allocM s0 hD, upd_same⟩
def spText (K : PySem.W.Frag) : Sp := fun vs H Q _ => ∃ a ns, vs = [.ref a] ∧ SqL K H a (iv ns) ∧ ns.length ≤ 100000 ∧ (allO ns → Q (.str (S ns)) H) ∧ (¬ allO ns → Q .non H)
theorem ok_text_of (T : Tx K mg) : C8.Cal P w K mg base 1 "text_of" (spText K) [] := by
  refine cal_of T.d_text_of T.g_text_of (fun _ _ _ _ _ _ us hl => match us, hl with | [_], _ => rfl) sc_text_of (fun vs H Q E h => ?_) (fun cdv A outer s H vs Q E hr h => ?_)
  · obtain ⟨a, ns, rfl, _⟩ := h; rfl
  obtain ⟨a, ns, rfl, ha, hl, q0, q1⟩ := h
  refine ⟨_, (pss_cons (ps_set (i := 1) sc_text_of.nd rfl (Or.inl rfl) (pe_s []))
    (pss_cons (ps_for PassesOwn.never rfl (pi_list (pv 0)) (pg_name (i := 2) sc_text_of.nd rfl (Or.inl rfl))
      (pss_one (ps_if (pt_cmpR op_eq (pv 2) pe_int (nomark _))
        (pss_one (ps_aug (i := 1) sc_text_of.nd rfl (Or.inl rfl) (pe_s [10]) ip_addL))
        (pss_one (ps_if (pt_chain op_le op_le pe_int (pv 2) pe_int)
          (pss_one (ps_aug (i := 1) sc_text_of.nd rfl (Or.inl rfl) (pe_ix ix_S (pe_gs T.s_PRINTED) (pe_op op_sub (pv 2) pe_int) (fun _ _ => rfl)) ip_addL))
          (pss_one (ps_if (pt_chain op_le op_le pe_int (pv 2) pe_int)
            (pss_one (ps_aug (i := 1) sc_text_of.nd rfl (Or.inl rfl) (pe_ix ix_S (pe_gs T.s_PRINTED) (pe_op op_sub (pv 2) pe_int) (fun _ _ => rfl)) ip_addL))
            (pss_one (ps_ret pe_non)))))))))
    (pss_one (ps_ret (pv 1))))), ?_⟩
  refine ⟨_, rfl, a, rfl, ⟨_, ha⟩, for_over (runs_l (xs := iv ns)) (fun i σ H' => H' = H ∧ allO (ns.take i) ∧ ∃ v, σ = [some (.ref a), some (.str (S (ns.take i))), v]) (fun i σ H' h => by rw [h.1]; exact ha) ⟨rfl, by rw [List.take_zero]; exact ⟨fun c hc => (by cases hc), none, rfl⟩⟩ (fun i xv σ H' hx h => ?_) (fun σ H' h => ?_)⟩
  · obtain ⟨rfl, hall, v, rfl⟩ := h
    obtain ⟨c, hc, rfl⟩ := iv_get hx
    have hil : i < ns.length := (List.getElem?_eq_some_iff.mp hc).1
    have hz : (ns.take i).length + 1 ≤ big := by
      rw [List.length_take]; unfold big; omega
    have key : okO c → H' = H' ∧ allO (ns.take (i + 1)) ∧ ∃ v, [some (V.ref a), some (V.str (S (ns.take i ++ [c]))), some (V.int (c : Nat))] = [some (V.ref a), some (V.str (S (ns.take (i + 1)))), v] := fun ho => by
      rw [take_snoc hc]
      refine ⟨rfl, fun d hd => ?_, _, rfl⟩
      rcases List.mem_append.mp hd with hd | hd
      · exact hall d hd
      · have : d = c := by simpa using hd
        rw [this]; exact ho
    refine ⟨_, rfl, rfl, _, rfl, iteI (fun e => ?_) (fun e => ?_)⟩
    · have e : c = 10 := by omega
      subst e
      exact ⟨_, rfl, _, _, rfl, rfl, hz, key (.inl rfl)⟩
    · have n10 : c ≠ 10 := fun z => e (by omega)
      have third : ¬ (32 ≤ c ∧ c ≤ 36) → ∀ D : Ends, D.nx = (fun σ H'' => H'' = H' ∧ allO (ns.take (i + 1)) ∧ ∃ v, σ = [some (.ref a), some (.str (S (ns.take (i + 1)))), v]) → D.rt = Q →
          tIfS (tTest (tChain (rI0 fun i j => V.bl (decide (i ≤ j))) (rI0 fun i j => V.bl (decide (i ≤ j))) (tC (.int 38)) (tVar 2) (tC (.int 126)))) (tAug 1 (tOp (fun x y H Q => ∃ (l : List Nat) (i : Int) (n c : Nat), x = .str (S l) ∧ y = .int i ∧ i = (n : Int) ∧ l.length ≤ big ∧ l[n]? = some c ∧ Q (.str (S [c])) H) (tC (.str (S prn))) (tOp (rI0 fun i j => .int (i - j)) (tVar 2) (tC (.int 33)))) ipL)
            (tRet (tC .non)) D [some (.ref a), some (.str (S (ns.take i))), some (.int (c : Nat))] H' := fun h1 D hD hR => by
        refine ⟨_, rfl, _, _, rfl, rfl, _, rfl, iteD (fun h2 => ?_) (fun h2 => ?_)⟩
        · refine ⟨_, _, rfl, rfl, _, rfl, iteD (fun h3 => ?_) (fun h3 => ?_)⟩
          · refine ⟨_, rfl, _, rfl, _, _, rfl, rfl, prn, _, c - 33, c, rfl, rfl, by omega, by decide, prn2 c (by omega) (by omega), _, _, rfl, rfl, hz, ?_⟩
            rw [hD]
            exact key (.inr (by omega))
          · show D.rt _ _
            rw [hR]
            refine q1 fun z => ?_
            have := z c (List.mem_of_getElem? hc)
            unfold okO at this; omega
        · refine ⟨_, rfl, iteF ?_⟩
          show D.rt _ _
          rw [hR]
          refine q1 fun z => ?_
          have := z c (List.mem_of_getElem? hc)
          unfold okO at this; omega
      refine ⟨_, rfl, _, _, rfl, rfl, _, rfl, iteD (fun h2 => ?_) (fun h2 => ?_)⟩
      · refine ⟨_, _, rfl, rfl, _, rfl, iteD (fun h3 => ?_) (fun h3 => third (by omega) _ rfl rfl)⟩
        exact ⟨_, rfl, _, rfl, _, _, rfl, rfl, prn, _, c - 32, c, rfl, rfl, by omega, by decide, prn1 c (by omega) (by omega), _, _, rfl, rfl, hz, key (.inr (by omega))⟩
      · exact ⟨_, rfl, iteF (third (by omega) _ rfl rfl)⟩
  · obtain ⟨rfl, hall, v, rfl⟩ := h
    rw [List.length_map, List.take_length] at hall ⊢
    exact ⟨_, rfl, q0 hall⟩
end
end Mw

set_option Elab.async false
set_option linter.all false
set_option maxRecDepth 100000
set_option maxHeartbeats 4000000
/-! MwJ2: key_of, parse_message, message_of. -/
namespace Mw
open PySem PySem.Spec L2
open SX (S S_cat S_len S_inj)
theorem mem_let (c : Nat) : c ∈ [97, 98, 99, 100, 101, 102, 103, 104, 105, 106, 107, 108, 109, 110, 111, 112, 113, 114, 115, 116, 117, 118, 119, 120, 121, 122] ↔ isLet c = true := by
  unfold isLet
  simp
  omega
theorem let_okO {c : Nat} (h : isLet c = true) : okO c := by
  unfold isLet at h
  simp only [Bool.and_eq_true, decide_eq_true_eq] at h
  unfold okO; omega
instance (n : List Nat) : Decidable (okName n) := by unfold okName; infer_instance
section
variable {P : Program} {w : World} {K : PySem.W.Frag} {mg : Str → Option Value} {base : Heap}
def spKeyO (K : PySem.W.Frag) : Sp := fun vs H Q _ => ∃ G a ns, vs = [.ref a] ∧ Same G H ∧ SqL K H a (iv ns) ∧ ns.length ≤ 100000 ∧ (okName ns → ∀ H', Gw [] G H G H' → Q (.str (S ns)) H') ∧ (¬ okName ns → ∀ H', Gw [] G H G H' → Q .non H')
theorem ok_key_of (T : Tx K mg) : C8.Cal P w K mg base 2 "key_of" (spKeyO K) [] := by
  refine cal_of T.d_key_of T.g_key_of (fun _ _ _ _ _ _ us hl => match us, hl with | [_], _ => rfl) sc_key_of (fun vs H Q E h => ?_) (fun cdv A outer s H vs Q E hr h => ?_)
  · obtain ⟨G, a, ns, rfl, _⟩ := h; rfl
  obtain ⟨G, a, ns, rfl, s0, ha, hl, q0, q1⟩ := h
  have c_text_of : C8.Cal P w K mg base 1 "text_of" (spText K) [] := ok_text_of T
  refine ⟨_, (pss_cons (ps_set (i := 1) sc_key_of.nd rfl (Or.inl rfl) (C8.pe_c c_text_of hr (by omega) rfl (pa_cons (pv 0) pa_nil)))
    (pss_cons (ps_if (PW.pt (pw_or (pt_cmp (pc_isN (pv 1))) (pw_or (pt_not (pt_chain op_le op_le pe_int (pe_callB call_lenS (by rfl) T.f_len (by decide +kernel) (pa_cons (pv 1) pa_nil)) pe_int)) (pw_or1 (pt_truth (pe_lc (own := [("sign", 2)]) (g := gName 2) rfl sc_key_of.nd (pi_str (pv 1)) (blkOk_by (own := [("sign", 2)]) (N := N_key_of) (sc := defScope s_key_of) (by decide +kernel)) (fun _ _ _ _ _ => pg_name (i := 2) sc_key_of.nd rfl (Or.inl rfl)) (fun _ _ _ _ _ => (pts_one (pt_cmpR op_ninS (pv 2) (pe_gs T.s_LETTERS_journal) rfl))) (fun _ _ _ _ _ => (pv 2))) (by intro _; rfl))))))
      (pss_one (ps_ret pe_non))
      pss_nil)
    (pss_one (ps_ret (pv 1))))), ?_⟩
  refine ⟨_, rfl, a, ns, rfl, ha, hl, fun hall => ?_, fun hno => ?_⟩
  · refine ⟨_, rfl, _, rfl, iteD (fun z => by cases z) (fun _ => ?_)⟩
    have hb : ns.length ≤ big := Nat.le_trans hl (by decide)
    refine ⟨_, rfl, ns, rfl, hb, _, _, rfl, rfl, _, rfl, iteD (fun h1 => ?_) (fun h1 => ?_)⟩
    · refine ⟨_, _, rfl, rfl, _, rfl, iteDN (fun h2 => ?_) (fun h2 => ?_)⟩
      · exact iteT (q1 (fun z => h2 (by have := z.2.1; omega)) H (Gw.refl s0))
      · refine tLc_gen (fun D H' => Gw [] G H G H' ∧ H' D = some (.lst ((ns.filter fun c => !isLet c).map fun c => .str (S [c])))) (fun Q' hQ => ?_) (fun D H' h => ?_)
        · refine ⟨_, rfl, _, rfl, lc_over (runs_s (l := ns)) (fun D i H' => H D = none ∧ H' = upd H D (.lst (((ns.take i).filter fun c => !isLet c).map fun c => .str (S [c])))) (fun D i H' h => trivial) (fun D hD => ⟨hD, rfl⟩) (fun D i xv H' hD hx h => ?_) (fun D H' hD h => ?_)⟩
          · obtain ⟨_, rfl⟩ := h
            rw [List.getElem?_map] at hx
            cases hq : ns[i]? with
            | none => rw [hq] at hx; cases hx
            | some c =>
              rw [hq] at hx
              cases hx
              refine ⟨rfl, _, rfl, _, _, rfl, rfl, _, rfl, iteDN (fun hc => ?_) (fun hc => ?_)⟩
              · have hc' : isLet c = false := by
                  cases z : isLet c with
                  | false => rfl
                  | true => exact absurd ((mem_let c).mpr z) hc
                refine ⟨_, rfl, _, upd_same, ?_, hD, ?_⟩
                · have := List.length_filter_le (fun c => !isLet c) (ns.take i)
                  rw [List.length_take] at this
                  rw [List.length_map, sizeLine_eq]; omega
                · rw [upd_upd, take_snoc hq, List.filter_append, List.map_append]
                  simp [hc']
              · have hc' : isLet c = true := (mem_let c).mp hc
                refine ⟨hD, ?_⟩
                rw [take_snoc hq, List.filter_append]
                simp [hc']
          · obtain ⟨_, rfl⟩ := h
            rw [List.length_map, List.take_length]
            exact hQ D _ ⟨Gw.allocM s0 hD, upd_same⟩
        · refine ⟨_, .inl ⟨_, SqL.of h.2, rfl⟩, iteB (fun z => ?_) (fun z => ?_)⟩
          · refine q1 (fun hk => ?_) H' h.1
            have e : (ns.filter fun c => !isLet c) = [] := by
              rw [List.filter_eq_nil_iff]
              intro c hc
              have := List.all_eq_true.mp hk.2.2 c hc
              simp [this]
            rw [e] at z; cases z
          · refine ⟨_, rfl, q0 ⟨by omega, by omega, ?_⟩ H' h.1⟩
            rw [List.all_eq_true]
            intro c hc
            cases hcl : isLet c with
            | true => rfl
            | false =>
              have : (S [c]) ∈ ((ns.filter fun c => !isLet c).map fun c => S [c]) := List.mem_map.mpr ⟨c, List.mem_filter.mpr ⟨hc, by simp [hcl]⟩, rfl⟩
              have e : (ns.filter fun c => !isLet c) ≠ [] := by
                intro z2
                rw [z2] at this; cases this
              have z3 : ((ns.filter fun c => !isLet c).map fun c => V.str (S [c])).isEmpty = true := by simpa using z
              rw [List.isEmpty_iff, List.map_eq_nil_iff] at z3
              exact absurd z3 e
    · exact ⟨_, rfl, iteT (q1 (fun z => h1 (by have := z.1; omega)) H (Gw.refl s0))⟩
  · refine ⟨_, rfl, _, rfl, iteD (fun _ => iteT (q1 (fun z => hno fun c hc => let_okO (List.all_eq_true.mp z.2.2 c hc)) H (Gw.refl s0))) (fun z => absurd rfl z)⟩
/-! ### the reader made -/
def spInit (K : PySem.W.Frag) : Sp := fun vs H Q _ => ∃ r dx l, vs = [.ref r, .str (S l)] ∧ H r = some (.ins (cR K) dx []) ∧ Q .non (upd H r (rdO (cR K) dx l 0 false))
theorem ok_init (T : Tx K mg) : C8.Mak P w K mg base 1 "Reader" (cR K) (spInit K) [] := by
  obtain ⟨fd, F⟩ := T.d_Reader_init
  refine ⟨_, fd, ["self", "text"], [], T.mkr, F.ok sc_Reader_init (fun vs H Q E h => ?_) fun cdv A outer s H vs Q E hr h => ?_, T.g_Reader, F.bindsN (fun _ _ _ _ _ _ us hl => match us, hl with | [_, _], _ => rfl), .nil⟩
  · obtain ⟨r, dx, l, rfl, _⟩ := h; rfl
  obtain ⟨r, dx, l, rfl, hH, q⟩ := h
  have h1 : PSs (cxOf CX0 P w K mg base N_Reader_init "Reader.__init__" (defScope s_Reader_init) (He.ma K (cR K) "__init__") cdv A outer s H E).nox (defBody s_Reader_init) _ := (pss_cons (ps_fld (pv 0) (pv 1) rfl)
    (pss_cons (ps_fld (pv 0) pe_int rfl)
    (pss_one (ps_fld (pv 0) pe_bl rfl))))
  refine ⟨_, h1.nox, ?_⟩
  refine ⟨_, rfl, _, rfl, r, _, _, _, rfl, hH, T.cls, T.no_text, by decide, ?_⟩
  refine ⟨_, rfl, r, _, _, _, rfl, upd_same, T.cls, T.no_place, by show (1 : Nat) < 1000; decide, ?_⟩
  refine ⟨_, rfl, r, _, _, _, rfl, upd_same, T.cls, T.no_inside, by show (2 : Nat) < 1000; decide, ?_⟩
  rw [upd_upd, upd_upd]
  exact q
/-! ### parse_message -/
def BadN (K : PySem.W.Frag) (G H : Hp) (E : XK) : Prop := ∀ cls d G' H', PySem.W.exmAny K cls [.ref (cTok K), .ref (cEnd K)] = some true → Gw [] G H G' H' → E cls d H'
def spParse (K : PySem.W.Frag) : Sp := fun vs H Q E => ∃ G l, vs = [.str (S l)] ∧ Same G H ∧ l.length ≤ 100000 ∧ Dep l 143 ∧ (∀ m, pMsg false l = some (m, []) → ∀ G' H' v, Gw [] G H G' H' → Rp G' v (.list (encM (plainM m))) → Q v H') ∧
  ((∀ m, pMsg false l ≠ some (m, [])) → BadN K G H E)
theorem ok_parse (T : Tx K mg) (X : Ex P K mg) : CalX P w K mg base 149 "parse_message" (spParse K) := by
  refine calX_of T.d_parse_message T.g_parse_message (fun _ _ _ _ _ _ us hl => match us, hl with | [_], _ => rfl) sc_parse_message (fun vs H Q E h => ?_) (fun cdv A outer s H vs Q E hr h => ?_)
  · obtain ⟨G, l, rfl, _⟩ := h; rfl
  obtain ⟨G, l, rfl, s0, hl, dep, q0, q1⟩ := h
  have tk : Takes (cxOf (L2.CX P w) P w K mg base N_parse_message "parse_message" (defScope s_parse_message) (He.ga K "parse_message") cdv A outer s H E) (fun cls d _ H => E cls d H) := takes_of rfl rfl rfl rfl
  have c_Reader : C8.Mak P w K mg base 1 "Reader" (cR K) (spInit K) [] := ok_init T
  have c_message : MetX P w K mg base (4 * 36 + 4) (cR K) "message" (spMsg K (4 * (36 : Nat) - 1)) := reader T X 36
  have c_plain : C8.Cal P w K mg base (2 * 37 + 2) "plain" (spPlain K 37) [] := plains T 37
  refine ⟨_, (pss_cons (ps_set (i := 1) sc_parse_message.nd rfl (Or.inl rfl) (C8.pe_mk c_Reader hr (by omega) rfl (pa_cons (pv 0) pa_nil)))
    (pss_cons (ps_set (i := 2) sc_parse_message.nd rfl (Or.inl rfl) (pe_mx c_message hr (by omega) tk (pv 1) (pa_cons pe_bl pa_nil)))
    (pss_cons (ps_if (pt_cmpR op_lt (pe_fld (pv 1) rfl) (pe_callB call_lenS (by rfl) T.f_len (by decide +kernel) (pa_cons (pv 0) pa_nil)) (nomark _))
      (pss_one (ps_raise rfl tk (pmk_tok X.tok hr (pa_cons (pe_fld (pv 1) rfl) pa_nil))))
      pss_nil)
    (pss_one (ps_ret (C8.pe_c c_plain hr (by omega) rfl (pa_cons (pv 2) pa_nil))))))), ?_⟩
  refine ⟨_, rfl, fun r dx hr0 hd0 hne => ?_⟩
  have gD : Gw [] G H G _ := Gw.allocM (o := HO.own r) s0 hd0
  have hr1 : upd H dx (.own r) r = none := by rw [upd_ne (Ne.symm hne)]; exact hr0
  refine ⟨r, dx, l, rfl, upd_same, rfl, ?_⟩
  rw [upd_upd]
  have gX : Gw [] G _ G _ := Gw.allocM (o := rdO (cR K) dx l 0 false) gD.gh hr1
  have a0 : At K r dx l G (upd (upd H dx (.own r)) r (rdO (cR K) dx l 0 false)) 0 false := ⟨gX.gh, none_of s0 hr0, upd_same, Nat.zero_le _, hl⟩
  have back : ∀ {G' H'}, Gw [r] G (upd (upd H dx (.own r)) r (rdO (cR K) dx l 0 false)) G' H' → Gw [] G H G' H' := fun g => gD.trans (Gw.drop gD.gh hr1 g)
  refine ⟨_, rfl, r, _, _, rfl, a0.hr, rfl, r, dx, l, G, 0, false, false, rfl, a0, by rw [List.drop_zero]; exact dep, fun m t e1 G1 H1 p1 v1 g1 a1 e1' rv => ?_, fun e1 => ?_⟩
  · rw [List.drop_zero] at e1
    have hb : l.length ≤ big := a0.big
    refine ⟨_, rfl, r, _, _, _, _, rfl, a1.hr, T.cls, T.no_place, rfl, _, rfl, l, rfl, hb, _, _, rfl, rfl, _, rfl, iteD (fun hlt => ?_) (fun hge => ?_)⟩
    · have ht : ∀ m', pMsg false l ≠ some (m', []) := fun m' z => by
        rw [e1] at z
        have : t = [] := (Prod.mk.inj (Option.some.inj z)).2
        rw [this] at e1'
        have := drop_nil e1'
        omega
      refine ⟨_, rfl, r, _, _, _, _, rfl, a1.hr, T.cls, T.no_place, rfl, p1, rfl, by have := a1.hp; omega, fun d hd => q1 ht _ _ G1 _ X.aT (back (g1.trans (Gw.allocM a1.sm hd)))⟩
    · have ht : t = [] := by rw [← e1']; exact List.drop_eq_nil_of_le (by omega)
      subst ht
      have qs := parsed_sz e1
      have hdp := qs.2 143 dep
      refine ⟨_, rfl, G1, v1, m, rfl, a1.sm, rv, by omega, by have := qs.1; simp at this; omega, fun G2 H2 v2 g2 rv2 => ?_⟩
      exact q0 m e1 G2 H2 v2 ((back g1).trans g2) rv2
  · rw [List.drop_zero] at e1
    intro cls d G' H' ex g
    exact q1 (fun m z => by rw [e1] at z; cases z) cls d G' H' ex (back g)
/-! ### message_of -/
def msgO (ns : List Nat) : Option (List Nd) :=
  if allO ns then (match pMsg false ns with
    | some (m, []) => if fmtM (plainM m) = ns then some (plainM m) else none
    | _ => none) else none
def spMsgO (K : PySem.W.Frag) : Sp := fun vs H Q _ => ∃ G a ns, vs = [.ref a] ∧ Same G H ∧ SqL K H a (iv ns) ∧ ns.length ≤ 100000 ∧ Dep ns 143 ∧ (msgO ns = none → ∀ G' H' b, Gw [] G H G' H' → H' b = some (.lst []) → Q (.ref b) H') ∧
  (∀ m, msgO ns = some m → ∀ G' H' b v, Gw [] G H G' H' → H' b = some (.lst [v]) → Rp G' v (.list (encM m)) → Q (.ref b) H')
theorem ok_message_of (T : Tx K mg) (X : Ex P K mg) : C8.Cal P w K mg base 150 "message_of" (spMsgO K) [] := by
  refine cal_of T.d_message_of T.g_message_of (fun _ _ _ _ _ _ us hl => match us, hl with | [_], _ => rfl) sc_message_of (fun vs H Q E h => ?_) (fun cdv A outer s H vs Q E hr h => ?_)
  · obtain ⟨G, a, ns, rfl, _⟩ := h; rfl
  obtain ⟨G, a, ns, rfl, s0, ha, hl, dep, q0, q1⟩ := h
  have c_text_of : C8.Cal P w K mg base 1 "text_of" (spText K) [] := ok_text_of T
  have c_format_message : C8.Cal P w K mg base (3 * 37 + 2) "format_message" (spFmt K 37) [] := fmts T 37
  obtain ⟨pf, pfd, pps, pF, pm, pk, pb⟩ := (ok_parse (w := w) (base := base) T X).ex
  refine ⟨_, (pss_cons (ps_set (i := 1) sc_message_of.nd rfl (Or.inl rfl) (C8.pe_c c_text_of hr (by omega) rfl (pa_cons (pv 0) pa_nil)))
    (pss_cons (ps_if (pt_cmp (pc_isN (pv 1)))
      (pss_one (ps_ret (pe_lst pa_nil)))
      pss_nil)
    (pss_cons (ps_try_tup (c1 := .ref (cTok K)) (c2 := .ref (cEnd K)) (tb := fun W => tAsg (tCallS (spParse K) (WE W) (tCons (tVar 1) tNil)) (gName 2)) (ts := tRet (tLst tNil)) rfl rfl rfl X.tok.gC rfl X.gE
        (fun W pn xe tk => pss_one (ps_set (i := 2) sc_message_of.nd rfl (Or.inl rfl) (pe_callS pF (hr.mono (by omega)) rfl pm pk pb (fun σ => passAt tk σ) (pa_cons (pv 1) pa_nil))))
        (fun a oe pn => pss_one (ps_ret (pe_lst pa_nil))))
    (pss_one (ps_ret (pe_ifExp (pt_cmpR op_eq (C8.pe_c c_format_message hr (by omega) rfl (pa_cons (pv 2) pa_nil)) (pv 1) (nomark _)) (pe_lst (pa_cons (pv 2) pa_nil)) (pe_lst pa_nil))))))), ?_⟩
  refine ⟨_, rfl, a, ns, rfl, ha, hl, fun hall => ?_, fun hno => ?_⟩
  · refine ⟨_, rfl, _, rfl, iteD (fun z => by cases z) (fun _ => ?_)⟩
    refine ⟨_, rfl, G, ns, rfl, s0, hl, dep, fun m e G1 H1 v1 g1 rv => ?_, fun ne cls d G' H' ex g => ?_⟩
    · have qs := parsed_sz e
      have hdp := qs.2 143 dep
      have h1 := dp_plain m
      have h2 := szM_plain m
      have h3 : numM (plainM m) := num_plainA m [] trivial (wf_numM false m (parsed_msg e).2.1)
      refine ⟨_, rfl, G1, v1, plainM m, rfl, g1.gh, rv, by omega, by have := qs.1; simp at this; omega, h3, fun H2 g2 => ?_⟩
      refine ⟨_, rfl, rfl, _, rfl, iteS (fun ef => ?_) (fun ef => ?_)⟩
      · refine ⟨_, rfl, by show 1 ≤ sizeLine; exact szOf (by decide), fun b hb => q1 (plainM m) ?_ G1 _ b v1 ((g1.trans g2).trans (Gw.allocM g2.gh hb)) upd_same rv⟩
        unfold msgO
        rw [if_pos hall, e]
        dsimp only
        rw [if_pos ef]
      · refine ⟨by show 0 ≤ sizeLine; exact Nat.zero_le _, fun b hb => q0 ?_ G1 _ b ((g1.trans g2).trans (Gw.allocM g2.gh hb)) upd_same⟩
        unfold msgO
        rw [if_pos hall, e]
        dsimp only
        rw [if_neg ef]
    · refine ⟨ex, by show 0 ≤ sizeLine; exact Nat.zero_le _, fun b hb => q0 ?_ G' _ b (g.trans (Gw.allocM g.gh hb)) upd_same⟩
      unfold msgO
      rw [if_pos hall]
      cases z : pMsg false ns with
      | none => rfl
      | some q =>
        obtain ⟨m, t⟩ := q
        cases t with
        | nil => exact absurd z (ne m)
        | cons c t => rfl
  · refine ⟨_, rfl, _, rfl, iteD (fun _ => ?_) (fun z => absurd rfl z)⟩
    refine ⟨by show 0 ≤ sizeLine; exact Nat.zero_le _, fun b hb => q0 ?_ G _ b (Gw.allocM s0 hb) upd_same⟩
    unfold msgO
    rw [if_neg hno]
end
end Mw

set_option Elab.async false
set_option linter.all false
set_option maxRecDepth 100000
set_option maxHeartbeats 4000000
/-! MwJ3: body_of, record_of, deed_of, recovered. -/
namespace Mw
open PySem PySem.Spec L2
open SX (S S_cat S_len S_inj)
inductive Deed where
  | put (k : List Nat) (m : List Nd)
  | drop (k : List Nat)
  | undo
abbrev tPut : List Nat := [112, 117, 116]
abbrev tDrp : List Nat := [100, 114, 111, 112]
abbrev tUnd : List Nat := [117, 110, 100, 111]
def encD : Deed → PyData
  | .put k m => .tuple [.str (S tPut), .str (S k), .list (encM m)]
  | .drop k => .tuple [.str (S tDrp), .str (S k)]
  | .undo => .tuple [.str (S tUnd)]
def bodyD : Deed → List Nat
  | .put k m => [1, k.length] ++ k ++ fmtM (plainM m)
  | .drop k => [2] ++ k
  | .undo => [3]
def recB (b : List Nat) : List Nat := [b.length / 256, b.length % 256] ++ b ++ [b.sum % 256, 170]
def recD (d : Deed) : List Nat := recB (bodyD d)
def okD : Deed → Prop
  | .put k m => k.length ≤ 1000 ∧ dpM m < 37 ∧ szM m ≤ 1000000 ∧ numM m
  | .drop k => k.length ≤ 1000
  | .undo => True
def octD (ns : List Nat) : List PyData := ns.map fun n => PyData.int (n : Nat)
theorem eqv_oct : ∀ a b : List Nat, PyData.eqvAll (octD a) (octD b) = decide (a = b)
  | [], [] => rfl
  | [], _ :: _ => rfl
  | _ :: _, [] => rfl
  | x :: a, y :: b => by
    have ih := eqv_oct a b
    show (PyData.eqv (.int (x : Nat)) (.int (y : Nat)) && PyData.eqvAll (octD a) (octD b)) = _
    rw [ih]
    show (((x : Int) == (y : Int)) && decide (a = b)) = _
    rw [Bool.eq_iff_iff]
    simp
    intro _
    constructor <;> intro h <;> omega
theorem can_oct : ∀ a : List Nat, PyData.canLayAll0 (octD a) = true
  | [] => by simp [octD, PyData.canLayAll0]
  | x :: a => by
    simp only [octD, List.map_cons, PyData.canLayAll0, PyData.canLay0, Bool.true_and]
    exact can_oct a
theorem depth_oct : ∀ a : List Nat, PyData.depthAll (octD a) = 0
  | [] => by simp [octD, PyData.depthAll]
  | x :: a => by
    have h := depth_oct a
    simp only [octD, List.map_cons, PyData.depthAll, PyData.depth] at h ⊢
    rw [h]; rfl
theorem shaped_oct (a : List Nat) : SeqAt.shaped (.list (octD a)) = true := by
  unfold SeqAt.shaped
  rw [Bool.and_eq_true]
  refine ⟨?_, ?_⟩
  · simp only [PyData.canLay0]; exact can_oct a
  · rw [decide_eq_true_eq]
    simp only [PyData.depth, depth_oct a]
    omega
theorem dp_oct {K : PySem.W.Frag} {H : Hp} : ∀ ns : List Nat, DpAll K H (iv ns) (octD ns)
  | [] => .nil
  | n :: r => .cons (.int _) (dp_oct r)
theorem eq_oct {K : PySem.W.Frag} {H : Hp} {a b : Addr} {ns ms : List Nat} {Q : VK} (ha : SqL K H a (iv ns)) (hb : SqL K H b (iv ms)) (q : Q (.bl (decide (ns = ms))) H) : rEqD K (.ref a) (.ref b) H Q :=
  ⟨.list (octD ns), .list (octD ms), .lst ha (dp_oct ns), .lst hb (dp_oct ms), shaped_oct _, shaped_oct _, by
    have e : PyData.eqv (.list (octD ns)) (.list (octD ms)) = decide (ns = ms) := by simp only [PyData.eqv]; exact eqv_oct ns ms
    rw [e]; exact q⟩
theorem cut_iv (ns : List Nat) (a b : Option Nat) : cutL (iv ns) a b = iv (cutL ns a b) := by
  unfold cutL
  cases b with
  | none => simp only [iv, List.map_take, List.map_drop, List.length_map]
  | some b => simp only [iv, List.map_take, List.map_drop]
theorem iv_eq (ns : List Nat) : iv ns = (ns.map fun n : Nat => (n : Int)).map V.int := by rw [List.map_map]; rfl
theorem sum_cast : ∀ ns : List Nat, (ns.map fun n : Nat => (n : Int)).sum = ((ns.sum : Nat) : Int)
  | [] => rfl
  | n :: r => by simp [sum_cast r]
theorem sum_oct {K : PySem.W.Frag} {H : Hp} {a : Addr} {ns : List Nat} {Q : VK} (ha : SqL K H a (iv ns)) (q : Q (.int (ns.sum : Nat)) H) : rSum K [.ref a] H Q :=
  ⟨a, ns.map fun n : Nat => (n : Int), rfl, by rw [← iv_eq]; exact ha, by rw [sum_cast]; exact q⟩
theorem at_iv {ns : List Nat} {i c : Nat} (h : ns[i]? = some c) : atI (iv ns) (i : Int) = some (V.int (c : Nat)) := by
  refine atI_nat (xs := iv ns) ?_
  rw [List.getElem?_map, h]; rfl
theorem deed_inv {G : Hp} {v : V} {d : Deed} (h : Rp G v (encD d)) : ∃ a, v = .ref a ∧ match d with
    | .put k m => ∃ mv, G a = some (.tup [.str (S tPut), .str (S k), mv]) ∧ Rp G mv (.list (encM m))
    | .drop k => G a = some (.tup [.str (S tDrp), .str (S k)])
    | .undo => G a = some (.tup [.str (S tUnd)]) := by
  cases d with
  | put k m =>
    obtain ⟨a, xs, rfl, ha, r⟩ := h.tup_inv
    obtain ⟨v1, w1, rfl, r1, r⟩ := r.cons_inv
    obtain ⟨v2, w2, rfl, r2, r⟩ := r.cons_inv
    obtain ⟨v3, w3, rfl, r3, r⟩ := r.cons_inv
    obtain rfl := r.nil_inv
    obtain rfl := r1.str_inv
    obtain rfl := r2.str_inv
    exact ⟨a, rfl, v3, ha, r3⟩
  | drop k =>
    obtain ⟨a, xs, rfl, ha, r⟩ := h.tup_inv
    obtain ⟨v1, w1, rfl, r1, r⟩ := r.cons_inv
    obtain ⟨v2, w2, rfl, r2, r⟩ := r.cons_inv
    obtain rfl := r.nil_inv
    obtain rfl := r1.str_inv
    obtain rfl := r2.str_inv
    exact ⟨a, rfl, ha⟩
  | undo =>
    obtain ⟨a, xs, rfl, ha, r⟩ := h.tup_inv
    obtain ⟨v1, w1, rfl, r1, r⟩ := r.cons_inv
    obtain rfl := r.nil_inv
    obtain rfl := r1.str_inv
    exact ⟨a, rfl, ha⟩
section
variable {P : Program} {w : World} {K : PySem.W.Frag} {mg : Str → Option Value} {base : Heap}
def spBody (f : Deed → List Nat) : Sp := fun vs H Q _ => ∃ G v d, vs = [v] ∧ Same G H ∧ Rp G v (encD d) ∧ okD d ∧ ∀ G' H' b, Gw [] G H G' H' → H' b = some (.lst (iv (f d))) → Q (.ref b) H'
theorem fmt_bound {m : List Nd} (h3 : szM m ≤ 1000000) (h4 : numM m) : (fmtM (plainM m)).length ≤ 1000000 := by
  have h5 := fmtM_len _ (num_plainA m [] trivial h4)
  have h6 := szM_plain m
  unfold plainM at h6 ⊢
  omega
theorem ok_body_of (T : Tx K mg) : C8.Cal P w K mg base 120 "body_of" (spBody bodyD) [] := by
  refine cal_of T.d_body_of T.g_body_of (fun _ _ _ _ _ _ us hl => match us, hl with | [_], _ => rfl) sc_body_of (fun vs H Q E h => ?_) (fun cdv A outer s H vs Q E hr h => ?_)
  · obtain ⟨G, v, d, rfl, _⟩ := h; rfl
  obtain ⟨G, v, d, rfl, s0, rv, hd, q⟩ := h
  have c_octets_of : C8.Cal P w K mg base 1 "octets_of" spOct [] := ok_octets_of T
  have c_format_message : C8.Cal P w K mg base (3 * 37 + 2) "format_message" (spFmt K 37) [] := fmts T 37
  have c_plain : C8.Cal P w K mg base (2 * 37 + 2) "plain" (spPlain K 37) [] := plains T 37
  refine ⟨_, (pss_cons (ps_if (pt_cmpR op_eq (pe_ix ix_tup (pv 0) pe_int (fun _ _ => rfl)) (pe_s [117, 110, 100, 111]) (nomark _))
      (pss_one (ps_ret (pe_lst (pa_cons (pe_gi T.i_UNDO) pa_nil))))
      pss_nil)
    (pss_cons (ps_if (pt_cmpR op_eq (pe_ix ix_tup (pv 0) pe_int (fun _ _ => rfl)) (pe_s [100, 114, 111, 112]) (nomark _))
      (pss_one (ps_ret (pe_op op_cat (pe_lst (pa_cons (pe_gi T.i_DROP) pa_nil)) (C8.pe_c c_octets_of hr (by omega) rfl (pa_cons (pe_ix ix_tup (pv 0) pe_int (fun _ _ => rfl)) pa_nil)))))
      pss_nil)
    (pss_one (ps_ret (pe_op op_cat (pe_op op_cat (pe_lst (pa_cons (pe_gi T.i_PUT) (pa_cons (pe_callB call_lenS (by rfl) T.f_len (by decide +kernel) (pa_cons (pe_ix ix_tup (pv 0) pe_int (fun _ _ => rfl)) pa_nil)) pa_nil))) (C8.pe_c c_octets_of hr (by omega) rfl (pa_cons (pe_ix ix_tup (pv 0) pe_int (fun _ _ => rfl)) pa_nil))) (C8.pe_c c_octets_of hr (by omega) rfl (pa_cons (C8.pe_c c_format_message hr (by omega) rfl (pa_cons (C8.pe_c c_plain hr (by omega) rfl (pa_cons (pe_ix ix_tup (pv 0) pe_int (fun _ _ => rfl)) pa_nil)) pa_nil)) pa_nil))))))), ?_⟩
  obtain ⟨a, rfl, hx⟩ := deed_inv rv
  cases d with
  | undo =>
    have ha : G a = some (.tup [.str (S tUnd)]) := hx
    refine ⟨_, rfl, a, _, _, _, rfl, rfl, SqT.of (s0 _ _ ha), rfl, rfl, _, rfl, iteS (fun _ => ?_) (fun e => absurd rfl e)⟩
    exact ⟨by show 1 ≤ sizeLine; exact szOf (by decide), fun b hb => q G _ b (Gw.allocM s0 hb) upd_same⟩
  | drop k =>
    have ha : G a = some (.tup [.str (S tDrp), .str (S k)]) := hx
    have hk : k.length ≤ 1000 := hd
    refine ⟨_, rfl, a, _, _, _, rfl, rfl, SqT.of (s0 _ _ ha), rfl, rfl, _, rfl, iteS (fun e => absurd e (by decide)) (fun _ => ?_)⟩
    refine ⟨_, rfl, a, _, _, _, rfl, rfl, SqT.of (s0 _ _ ha), rfl, rfl, _, rfl, iteS (fun _ => ?_) (fun e => absurd rfl e)⟩
    refine ⟨by show 1 ≤ sizeLine; exact szOf (by decide), fun b hb => ?_⟩
    have g1 : Gw [] G H G _ := Gw.allocM (o := HO.lst [V.int 2]) s0 hb
    refine ⟨_, rfl, a, _, _, _, rfl, rfl, SqT.of (g1.gh _ _ ha), rfl, G, k, rfl, g1.gh, by omega, fun o H2 g2 ho => ?_⟩
    refine ⟨b, o, _, _, rfl, rfl, g2.same _ _ upd_same, ho, by rw [List.length_map, sizeLine_eq]; show 1 + _ ≤ _; omega, fun p hp => ?_⟩
    exact q G _ p ((g1.trans g2).trans (Gw.allocM g2.gh hp)) (by rw [upd_same]; simp [bodyD])
  | put k m =>
    obtain ⟨mv, ha, rm⟩ := (show ∃ mv, G a = some (.tup [.str (S tPut), .str (S k), mv]) ∧ Rp G mv (.list (encM m)) from hx)
    obtain ⟨hk, h2, h3, h4⟩ := (show k.length ≤ 1000 ∧ dpM m < 37 ∧ szM m ≤ 1000000 ∧ numM m from hd)
    refine ⟨_, rfl, a, _, _, _, rfl, rfl, SqT.of (s0 _ _ ha), rfl, rfl, _, rfl, iteS (fun e => absurd e (by decide)) (fun _ => ?_)⟩
    refine ⟨_, rfl, a, _, _, _, rfl, rfl, SqT.of (s0 _ _ ha), rfl, rfl, _, rfl, iteS (fun e => absurd e (by decide)) (fun _ => ?_)⟩
    refine ⟨_, rfl, a, _, _, _, rfl, rfl, SqT.of (s0 _ _ ha), rfl, k, rfl, by unfold big; omega, by show 2 ≤ sizeLine; exact szOf (by decide), fun b hb => ?_⟩
    have g1 : Gw [] G H G _ := Gw.allocM (o := HO.lst [V.int 1, V.int (k.length : Nat)]) s0 hb
    refine ⟨_, rfl, a, _, _, _, rfl, rfl, SqT.of (g1.gh _ _ ha), rfl, G, k, rfl, g1.gh, by omega, fun o H2 g2 ho => ?_⟩
    refine ⟨b, o, _, _, rfl, rfl, g2.same _ _ upd_same, ho, by rw [List.length_map, sizeLine_eq]; show 2 + _ ≤ _; omega, fun p hp => ?_⟩
    have g3 : Gw [] G H2 G _ := Gw.allocM (o := HO.lst ([V.int 1, V.int (k.length : Nat)] ++ iv k)) g2.gh hp
    refine ⟨_, rfl, a, _, _, _, rfl, rfl, SqT.of (g3.gh _ _ ha), rfl, G, mv, m, rfl, g3.gh, rm, h2, by omega, fun G4 H4 v4 g4 rv4 => ?_⟩
    have h5 : numM (plainM m) := num_plainA m [] trivial h4
    have h6 := szM_plain m
    have h7 := dp_plain m
    have h8 := fmt_bound h3 h4
    refine ⟨G4, v4, plainM m, rfl, g4.gh, rv4, by omega, by omega, h5, fun H5 g5 => ?_⟩
    refine ⟨G4, fmtM (plainM m), rfl, g5.gh, by omega, fun o2 H6 g6 ho2 => ?_⟩
    refine ⟨p, o2, _, _, rfl, rfl, g6.same _ _ (g5.same _ _ (g4.same _ _ upd_same)), ho2, by rw [List.length_append, List.length_map, List.length_map, sizeLine_eq]; show 2 + _ + _ ≤ _; omega, fun p2 hp2 => ?_⟩
    refine q G4 _ p2 ((((((g1.trans g2).trans g3).trans g4).trans g5).trans g6).trans (Gw.allocM g6.gh hp2)) ?_
    rw [upd_same]
    unfold bodyD
    simp
theorem body_len {d : Deed} (h : okD d) : (bodyD d).length ≤ 1002000 := by
  cases d with
  | undo => show 1 ≤ _; decide
  | drop k => have hk : k.length ≤ 1000 := h; show ([2] ++ k).length ≤ _; simp; omega
  | put k m =>
    obtain ⟨hk, h2, h3, h4⟩ := (show k.length ≤ 1000 ∧ dpM m < 37 ∧ szM m ≤ 1000000 ∧ numM m from h)
    have h8 := fmt_bound h3 h4
    show ([1, k.length] ++ k ++ fmtM (plainM m)).length ≤ _
    simp; omega
theorem ok_record_of (T : Tx K mg) : C8.Cal P w K mg base 121 "record_of" (spBody recD) [] := by
  refine cal_of T.d_record_of T.g_record_of (fun _ _ _ _ _ _ us hl => match us, hl with | [_], _ => rfl) sc_record_of (fun vs H Q E h => ?_) (fun cdv A outer s H vs Q E hr h => ?_)
  · obtain ⟨G, v, d, rfl, _⟩ := h; rfl
  obtain ⟨G, v, d, rfl, s0, rv, hd, q⟩ := h
  have c_body_of : C8.Cal P w K mg base 120 "body_of" (spBody bodyD) [] := ok_body_of T
  refine ⟨_, (pss_cons (ps_set (i := 1) sc_record_of.nd rfl (Or.inl rfl) (C8.pe_c c_body_of hr (by omega) rfl (pa_cons (pv 0) pa_nil)))
    (pss_one (ps_ret (pe_op op_cat (pe_op op_cat (pe_lst (pa_cons (pe_op op_fdiv (pe_callB call_lenL (by rfl) T.f_len (by decide +kernel) (pa_cons (pv 1) pa_nil)) pe_int) (pa_cons (pe_op op_mod (pe_callB call_lenL (by rfl) T.f_len (by decide +kernel) (pa_cons (pv 1) pa_nil)) pe_int) pa_nil))) (pv 1)) (pe_lst (pa_cons (pe_op op_mod (pe_callB (cr_sum rfl) (by rfl) T.f_sum (by decide +kernel) (pa_cons (pv 1) pa_nil)) pe_int) (pa_cons (pe_gi T.i_MARK) pa_nil))))))), ?_⟩
  have hbl := body_len hd
  refine ⟨_, rfl, G, v, d, rfl, s0, rv, hd, fun G1 H1 b g1 hb => ?_⟩
  refine ⟨_, rfl, b, _, rfl, SqL.of hb, _, _, rfl, rfl, ⟨by decide, by decide⟩, _, rfl, b, _, rfl, SqL.of hb, _, _, rfl, rfl, by show (0 : Int) < 256; decide, by show 2 ≤ sizeLine; exact szOf (by decide), fun c hc => ?_⟩
  rw [List.length_map] at *
  have g2 : Gw [] G1 H1 G1 _ := Gw.allocM (o := HO.lst [V.int (((bodyD d).length : Nat) / 256 : Int), V.int (((bodyD d).length : Nat) % 256 : Int)]) g1.gh hc
  have hb2 := g2.same _ _ hb
  refine ⟨_, rfl, c, b, _, _, rfl, rfl, upd_same, hb2, by rw [List.length_map, sizeLine_eq]; show 2 + _ ≤ _; omega, fun e he => ?_⟩
  have g3 : Gw [] G1 _ G1 _ := Gw.allocM (o := HO.lst ([V.int (((bodyD d).length : Nat) / 256 : Int), V.int (((bodyD d).length : Nat) % 256 : Int)] ++ iv (bodyD d))) g2.gh he
  have hb3 := g3.same _ _ hb2
  refine ⟨_, rfl, b, (bodyD d).map (fun n : Nat => (n : Int)), rfl, by rw [← iv_eq]; exact SqL.of hb3, _, _, rfl, rfl, by show (0 : Int) < 256; decide, ?_⟩
  rw [sum_cast]
  refine ⟨by show 2 ≤ sizeLine; exact szOf (by decide), fun f hf => ?_⟩
  have g4 : Gw [] G1 _ G1 _ := Gw.allocM (o := HO.lst [V.int (((bodyD d).sum : Nat) % 256 : Int), V.int 170]) g3.gh hf
  refine ⟨e, f, _, _, rfl, rfl, g4.same _ _ upd_same, upd_same, by rw [List.length_append, List.length_map, sizeLine_eq]; show 2 + _ + 2 ≤ _; omega, fun r hr' => ?_⟩
  refine q G1 _ r ((((g1.trans g2).trans g3).trans g4).trans (Gw.allocM g4.gh hr')) ?_
  rw [upd_same]
  unfold recD recB
  simp
end
end Mw

set_option Elab.async false
set_option linter.all false
set_option maxRecDepth 100000
set_option maxHeartbeats 4000000
/-! MwJ4: deed_of, recovered. -/
namespace Mw
open PySem PySem.Spec L2
open SX (S S_cat S_len S_inj)
def keyP (ns : List Nat) : List Nat := (ns.drop 2).take (ns.getD 1 0)
def deedP (ns : List Nat) : Option Deed :=
  if ns = [3] then some .undo
  else if ns.take 1 = [2] ∧ okName (ns.drop 1) then some (.drop (ns.drop 1))
  else if ns.take 1 = [1] ∧ 1 < ns.length then
    (if okName (keyP ns) ∧ (keyP ns).length = ns.getD 1 0 then (msgO (ns.drop (2 + ns.getD 1 0))).map (.put (keyP ns)) else none)
  else none
theorem Dep.take {l : List Nat} {N : Int} (h : Dep l N) (n : Nat) : Dep (l.take n) N := fun u t e => by
  refine h u (t ++ l.drop n) ?_
  rw [← List.append_assoc, ← e, List.take_append_drop]
theorem cut_hi (ns : List Nat) (n : Nat) : cutL ns none (some n) = ns.take n := rfl
theorem cut_lo (ns : List Nat) (n : Nat) : cutL ns (some n) none = ns.drop n := by
  show (ns.drop n).take (ns.length - n) = _
  rw [List.take_of_length_le (by rw [List.length_drop]; omega)]
theorem getD_some {ns : List Nat} {i : Nat} (h : i < ns.length) : ns[i]? = some (ns.getD i 0) := by
  rw [List.getD_eq_getElem?_getD, List.getElem?_eq_getElem h]; rfl
section
variable {P : Program} {w : World} {K : PySem.W.Frag} {mg : Str → Option Value} {base : Heap}
def spDeed (K : PySem.W.Frag) : Sp := fun vs H Q _ => ∃ G a ns, vs = [.ref a] ∧ Same G H ∧ H a = some (.lst (iv ns)) ∧ ns.length ≤ 100000 ∧ (∀ j, Dep (ns.drop j) 143) ∧ (deedP ns = none → ∀ G' H', Gw [] G H G' H' → Q .non H') ∧
  (∀ d, deedP ns = some d → ∀ G' H' v, Gw [] G H G' H' → Rp G' v (encD d) → Q v H')
theorem ok_deed_of (T : Tx K mg) (X : Ex P K mg) : C8.Cal P w K mg base 151 "deed_of" (spDeed K) [] := by
  refine cal_of T.d_deed_of T.g_deed_of (fun _ _ _ _ _ _ us hl => match us, hl with | [_], _ => rfl) sc_deed_of (fun vs H Q E h => ?_) (fun cdv A outer s H vs Q E hr h => ?_)
  · obtain ⟨G, a, ns, rfl, _⟩ := h; rfl
  obtain ⟨G, a, ns, rfl, s0, ha, hl, dep, q0, q1⟩ := h
  have c_key_of : C8.Cal P w K mg base 2 "key_of" (spKeyO K) [] := ok_key_of T
  have c_message_of : C8.Cal P w K mg base 150 "message_of" (spMsgO K) [] := ok_message_of T X
  refine ⟨_, (pss_cons (ps_if (pt_cmpR (op_eqD hr.units) (pv 0) (pe_lst (pa_cons (pe_gi T.i_UNDO) pa_nil)) (nomark _))
      (pss_one (ps_ret (pe_tup (pa_cons (pe_s [117, 110, 100, 111]) pa_nil))))
      pss_nil)
    (pss_cons (ps_if (PW.pt (pw_and (pt_cmpR (op_eqD hr.units) (pe_slice sl_L (pv 0) po_none (po_some pe_int)) (pe_lst (pa_cons (pe_gi T.i_DROP) pa_nil)) (nomark _)) (pw_and1 (pt_cmp (pc_notN (C8.pe_c c_key_of hr (by omega) rfl (pa_cons (pe_slice sl_L (pv 0) (po_some pe_int) po_none) pa_nil)))))))
      (pss_one (ps_ret (pe_tup (pa_cons (pe_s [100, 114, 111, 112]) (pa_cons (C8.pe_c c_key_of hr (by omega) rfl (pa_cons (pe_slice sl_L (pv 0) (po_some pe_int) po_none) pa_nil)) pa_nil)))))
      pss_nil)
    (pss_cons (ps_if (PW.pt (pw_and (pt_cmpR (op_eqD hr.units) (pe_slice sl_L (pv 0) po_none (po_some pe_int)) (pe_lst (pa_cons (pe_gi T.i_PUT) pa_nil)) (nomark _)) (pw_and1 (pt_cmpR op_gt (pe_callB call_lenL (by rfl) T.f_len (by decide +kernel) (pa_cons (pv 0) pa_nil)) pe_int (nomark _)))))
      (pss_cons (ps_set (i := 1) sc_deed_of.nd rfl (Or.inl rfl) (C8.pe_c c_key_of hr (by omega) rfl (pa_cons (pe_slice sl_L (pv 0) (po_some pe_int) (po_some (pe_op op_add pe_int (pe_ix ix_list (pv 0) pe_int (fun _ _ => rfl))))) pa_nil)))
      (pss_cons (ps_set (i := 2) sc_deed_of.nd rfl (Or.inl rfl) (C8.pe_c c_message_of hr (by omega) rfl (pa_cons (pe_slice sl_L (pv 0) (po_some (pe_op op_add pe_int (pe_ix ix_list (pv 0) pe_int (fun _ _ => rfl)))) po_none) pa_nil)))
      (pss_one (ps_if (PW.pt (pw_and (pt_cmp (pc_notN (pv 1))) (pw_and (pt_cmpR op_eq (pe_callB call_lenS (by rfl) T.f_len (by decide +kernel) (pa_cons (pv 1) pa_nil)) (pe_ix ix_list (pv 0) pe_int (fun _ _ => rfl)) (nomark _)) (pw_and1 (pt_truth (pv 2) (by intro _; rfl))))))
        (pss_one (ps_ret (pe_tup (pa_cons (pe_s [112, 117, 116]) (pa_cons (pv 1) (pa_cons (pe_ix ix_list (pv 2) pe_int (fun _ _ => rfl)) pa_nil))))))
        pss_nil))))
      pss_nil)
    (pss_one (ps_ret pe_non))))), ?_⟩
  -- body == [UNDO]
  refine ⟨_, rfl, by show 1 ≤ sizeLine; exact szOf (by decide), fun b1 hb1 => ?_⟩
  have g1 : Gw [] G H G _ := Gw.allocM (o := HO.lst [V.int 3]) s0 hb1
  have ha1 := g1.same _ _ ha
  refine eq_oct (ms := [3]) (SqL.of ha1) (SqL.of upd_same) ⟨_, rfl, iteD (fun h1 => ?_) (fun h1 => ?_)⟩
  · refine ⟨by show 1 ≤ sizeLine; exact szOf (by decide), fun p hp => ?_⟩
    have g2 : Gw [] G _ _ _ := Gw.alloc (o := HO.tup [V.str (S tUnd)]) g1.gh hp
    refine q1 .undo (by unfold deedP; rw [if_pos h1]) _ _ _ (g1.trans g2) (.tup upd_same (.cons (.str _) .nil))
  -- body[:1] == [DROP]
  have e1 : deedP ns = if ns.take 1 = [2] ∧ okName (ns.drop 1) then some (.drop (ns.drop 1))
      else if ns.take 1 = [1] ∧ 1 < ns.length then
        (if okName (keyP ns) ∧ (keyP ns).length = ns.getD 1 0 then (msgO (ns.drop (2 + ns.getD 1 0))).map (.put (keyP ns)) else none)
      else none := by unfold deedP; rw [if_neg h1]
  -- the third if
  have third : ∀ H2, Gw [] G H G H2 → ¬ (ns.take 1 = [2] ∧ okName (ns.drop 1)) → tSeq (tIfS (tAnd (tTest (tOp (rEqD K) (tSl (fun x lo hi H Q => ∃ (p : Addr) (xs : List V) (a b : Option Nat), x = .ref p ∧ SqL K H p xs ∧ lo = a.map (fun (n : Nat) => (n : Int)) ∧ hi = b.map (fun (n : Nat) => (n : Int)) ∧ ∀ r, H r = none → Q (.ref r) (upd H r (.lst (cutL xs a b)))) (tVar 0) tNoPart (tPart (tC (.int 1)))) (tLst (tCons (tC (.int 1)) tNil)))) (tTest (tOp (rI0 fun i j => V.bl (decide (j < i))) (tCB (fun xs H Q => ∃ (p : Addr) (ys : List V), xs = [.ref p] ∧ SqL K H p ys ∧ Q (.int ys.length) H) (tCons (tVar 0) tNil)) (tC (.int 1)))))
      (tSeq (tAsg (tCall (spKeyO K) [] C8.E0 (tCons (tSl (fun x lo hi H Q => ∃ (p : Addr) (xs : List V) (a b : Option Nat), x = .ref p ∧ SqL K H p xs ∧ lo = a.map (fun (n : Nat) => (n : Int)) ∧ hi = b.map (fun (n : Nat) => (n : Int)) ∧ ∀ r, H r = none → Q (.ref r) (upd H r (.lst (cutL xs a b)))) (tVar 0) (tPart (tC (.int 2))) (tPart (tOp (rI0 fun i j => .int (i + j)) (tC (.int 2)) (tOp (rIxL K) (tVar 0) (tC (.int 1)))))) tNil)) (gName 1))
      (tSeq (tAsg (tCall (spMsgO K) [] C8.E0 (tCons (tSl (fun x lo hi H Q => ∃ (p : Addr) (xs : List V) (a b : Option Nat), x = .ref p ∧ SqL K H p xs ∧ lo = a.map (fun (n : Nat) => (n : Int)) ∧ hi = b.map (fun (n : Nat) => (n : Int)) ∧ ∀ r, H r = none → Q (.ref r) (upd H r (.lst (cutL xs a b)))) (tVar 0) (tPart (tOp (rI0 fun i j => .int (i + j)) (tC (.int 2)) (tOp (rIxL K) (tVar 0) (tC (.int 1))))) tNoPart) tNil)) (gName 2))
      (tIfS (tAnd (tB (tNotN (tVar 1))) (tAnd (tTest (tOp rEq (tCB (fun xs H Q => ∃ l : List Nat, xs = [.str (S l)] ∧ l.length ≤ big ∧ Q (.int l.length) H) (tCons (tVar 1) tNil)) (tOp (rIxL K) (tVar 0) (tC (.int 1))))) (fun σ H Q => tVar 2 σ H fun x H' => ∃ k, TruV K x H' k ∧ Q k H')))
        (tRet (tTup (tCons (tC (.str (S tPut))) (tCons (tVar 1) (tCons (tOp (rIxL K) (tVar 2) (tC (.int 0))) tNil))))) tNext))) tNext) (tRet (tC .non)) { nx := fun _ H' => Q .non H', rt := Q } [some (.ref a), none, none] H2 := by
    intro H2 g2 hnd
    rw [if_neg hnd] at e1
    have ha2 := g2.same _ _ ha
    refine ⟨_, rfl, _, rfl, a, _, none, some 1, rfl, SqL.of ha2, rfl, rfl, fun r1 hr1 => ?_⟩
    rw [cut_iv, cut_hi]
    have g3 : Gw [] G H2 G _ := Gw.allocM (o := HO.lst (iv (ns.take 1))) g2.gh hr1
    refine ⟨by show 1 ≤ sizeLine; exact szOf (by decide), fun b2 hb2 => ?_⟩
    have g4 : Gw [] G _ G _ := Gw.allocM (o := HO.lst [V.int 1]) g3.gh hb2
    have w4 := (g2.trans g3).trans g4
    have ha4 := w4.same _ _ ha
    refine eq_oct (ms := [1]) (SqL.of (g4.same _ _ upd_same)) (SqL.of upd_same) ⟨_, rfl, iteD (fun h2 => ?_) (fun h2 => ?_)⟩
    · refine ⟨_, rfl, a, _, rfl, SqL.of ha4, _, _, rfl, rfl, _, rfl, iteD (fun h3 => ?_) (fun h3 => ?_)⟩
      · rw [List.length_map] at h3
        have hlen : 1 < ns.length := by omega
        rw [if_pos ⟨h2, hlen⟩] at e1
        have hat : atI (iv ns) 1 = some (V.int ((ns.getD 1 0 : Nat) : Int)) := at_iv (i := 1) (getD_some hlen)
        refine ⟨_, rfl, _, rfl, _, rfl, a, _, _, _, rfl, rfl, SqL.of ha4, hat, _, _, rfl, rfl, _, rfl, a, _, some 2, some (2 + ns.getD 1 0), rfl, SqL.of ha4, rfl, rfl, fun r2 hr2 => ?_⟩
        have ecut : cutL (iv ns) (some 2) (some (2 + ns.getD 1 0)) = iv (keyP ns) := by
          rw [cut_iv]
          show iv ((ns.drop 2).take (2 + ns.getD 1 0 - 2)) = _
          rw [Nat.add_sub_cancel_left]; rfl
        rw [ecut]
        have g5 : Gw [] G _ G _ := Gw.allocM (o := HO.lst (iv (keyP ns))) w4.gh hr2
        have hkl : (keyP ns).length ≤ 100000 := by
          unfold keyP
          rw [List.length_take, List.length_drop]; omega
        -- with the key's value kv
        have rest : ∀ (kv : V) (H6 : Hp), Gw [] G H G H6 → ((okName (keyP ns) ∧ kv = .str (S (keyP ns))) ∨ (¬ okName (keyP ns) ∧ kv = .non)) →
            (tSeq (tAsg (tCall (spMsgO K) [] C8.E0 (tCons (tSl (fun x lo hi H Q => ∃ (p : Addr) (xs : List V) (a b : Option Nat), x = .ref p ∧ SqL K H p xs ∧ lo = a.map (fun (n : Nat) => (n : Int)) ∧ hi = b.map (fun (n : Nat) => (n : Int)) ∧ ∀ r, H r = none → Q (.ref r) (upd H r (.lst (cutL xs a b)))) (tVar 0) (tPart (tOp (rI0 fun i j => .int (i + j)) (tC (.int 2)) (tOp (rIxL K) (tVar 0) (tC (.int 1))))) tNoPart) tNil)) (gName 2))
              (tIfS (tAnd (tB (tNotN (tVar 1))) (tAnd (tTest (tOp rEq (tCB (fun xs H Q => ∃ l : List Nat, xs = [.str (S l)] ∧ l.length ≤ big ∧ Q (.int l.length) H) (tCons (tVar 1) tNil)) (tOp (rIxL K) (tVar 0) (tC (.int 1))))) (fun σ H Q => tVar 2 σ H fun x H' => ∃ k, TruV K x H' k ∧ Q k H')))
                (tRet (tTup (tCons (tC (.str (S tPut))) (tCons (tVar 1) (tCons (tOp (rIxL K) (tVar 2) (tC (.int 0))) tNil))))) tNext)) { nx := fun _ H' => Q .non H', rt := Q } [some (.ref a), some kv, none] H6 := by
          intro kv H6 g6 hkv
          have ha6 := g6.same _ _ ha
          refine ⟨_, rfl, _, rfl, a, _, _, _, rfl, rfl, SqL.of ha6, hat, _, _, rfl, rfl, _, rfl, a, _, some (2 + ns.getD 1 0), none, rfl, SqL.of ha6, rfl, rfl, fun r3 hr3 => ?_⟩
          rw [cut_iv, cut_lo]
          have g7 : Gw [] G H6 G _ := Gw.allocM (o := HO.lst (iv (ns.drop (2 + ns.getD 1 0)))) g6.gh hr3
          have w7 := g6.trans g7
          refine ⟨G, r3, ns.drop (2 + ns.getD 1 0), rfl, g7.gh, SqL.of upd_same, by rw [List.length_drop]; omega, dep _, fun hm G8 H8 b8 g8 hb8 => ?_, fun m hm G8 H8 b8 mv g8 hb8 rm => ?_⟩
          · have w8 := w7.trans g8
            have ha8 := w8.same _ _ ha
            have hz : deedP ns = none := by
              rw [e1]; split
              · rw [hm]; rfl
              · rfl
            refine ⟨_, rfl, _, rfl, iteDN (fun hk => ?_) (fun hk => iteF (q0 hz _ _ w8))⟩
            rcases hkv with ⟨ok, rfl⟩ | ⟨no, rfl⟩
            · refine ⟨_, rfl, keyP ns, rfl, Nat.le_trans hkl (by decide), _, rfl, a, _, _, _, rfl, rfl, SqL.of ha8, hat, rfl, _, rfl, iteI (fun _ => ?_) (fun _ => iteF (q0 hz _ _ w8))⟩
              exact ⟨_, rfl, false, .inl ⟨[], SqL.of hb8, rfl⟩, iteF (q0 hz _ _ w8)⟩
            · exact absurd rfl hk
          · have w8 := w7.trans g8
            have ha8 := w8.same _ _ ha
            refine ⟨_, rfl, _, rfl, iteDN (fun hk => ?_) (fun hk => ?_)⟩
            · rcases hkv with ⟨ok, rfl⟩ | ⟨no, rfl⟩
              · refine ⟨_, rfl, keyP ns, rfl, Nat.le_trans hkl (by decide), _, rfl, a, _, _, _, rfl, rfl, SqL.of ha8, hat, rfl, _, rfl, iteI (fun hk2 => ?_) (fun hk2 => ?_)⟩
                · refine ⟨_, rfl, true, .inl ⟨_, SqL.of hb8, rfl⟩, iteT ?_⟩
                  refine ⟨_, rfl, _, rfl, b8, _, _, _, rfl, rfl, SqL.of hb8, atI_zero _ _, by show 3 ≤ sizeLine; exact szOf (by decide), fun p hp => ?_⟩
                  have g9 : Gw [] G8 H8 _ _ := Gw.alloc (o := HO.tup [V.str (S tPut), V.str (S (keyP ns)), mv]) g8.gh hp
                  refine q1 (.put (keyP ns) m) ?_ _ _ _ (w8.trans g9) (.tup upd_same (.cons (.str _) (.cons (.str _) (.cons (rm.same g9.gg) .nil))))
                  rw [e1, if_pos ⟨ok, by omega⟩, hm]; rfl
                · refine iteF (q0 ?_ _ _ w8)
                  rw [e1, if_neg (fun z => hk2 (by rw [z.2]))]
              · exact absurd rfl hk
            · refine iteF (q0 ?_ _ _ w8)
              rcases hkv with ⟨ok, rfl⟩ | ⟨no, rfl⟩
              · cases hk
              · rw [e1, if_neg (fun z => no z.1)]
        refine ⟨G, r2, keyP ns, rfl, g5.gh, SqL.of upd_same, hkl, fun ok H6 g6 => rest _ H6 ((w4.trans g5).trans g6) (.inl ⟨ok, rfl⟩), fun no H6 g6 => rest _ H6 ((w4.trans g5).trans g6) (.inr ⟨no, rfl⟩)⟩
      · rw [List.length_map] at h3
        refine q0 ?_ _ _ w4
        rw [e1, if_neg (fun z => h3 (by have := z.2; omega))]
    · refine iteF (q0 ?_ _ _ w4)
      rw [e1, if_neg (fun z => h2 z.1)]
  refine ⟨_, rfl, _, rfl, a, _, none, some 1, rfl, SqL.of ha1, rfl, rfl, fun r1 hr1 => ?_⟩
  rw [cut_iv, cut_hi]
  have g2 : Gw [] G _ G _ := Gw.allocM (o := HO.lst (iv (ns.take 1))) g1.gh hr1
  refine ⟨by show 1 ≤ sizeLine; exact szOf (by decide), fun b2 hb2 => ?_⟩
  have g3 : Gw [] G _ G _ := Gw.allocM (o := HO.lst [V.int 2]) g2.gh hb2
  have w3 := (g1.trans g2).trans g3
  have ha3 := w3.same _ _ ha
  refine eq_oct (ms := [2]) (SqL.of (g3.same _ _ upd_same)) (SqL.of upd_same) ⟨_, rfl, iteD (fun h2 => ?_) (fun h2 => ?_)⟩
  · refine ⟨_, rfl, _, rfl, a, _, some 1, none, rfl, SqL.of ha3, rfl, rfl, fun r3 hr3 => ?_⟩
    rw [cut_iv, cut_lo]
    have g4 : Gw [] G _ G _ := Gw.allocM (o := HO.lst (iv (ns.drop 1))) w3.gh hr3
    refine ⟨G, r3, ns.drop 1, rfl, g4.gh, SqL.of upd_same, by rw [List.length_drop]; omega, fun ok H5 g5 => ?_, fun no H5 g5 => ?_⟩
    · have w5 := (w3.trans g4).trans g5
      have ha5 := w5.same _ _ ha
      refine ⟨_, rfl, iteDN (fun _ => ?_) (fun z => by cases z)⟩
      refine ⟨_, rfl, _, rfl, a, _, some 1, none, rfl, SqL.of ha5, rfl, rfl, fun r4 hr4 => ?_⟩
      rw [cut_iv, cut_lo]
      have g6 : Gw [] G _ G _ := Gw.allocM (o := HO.lst (iv (ns.drop 1))) w5.gh hr4
      refine ⟨G, r4, ns.drop 1, rfl, g6.gh, SqL.of upd_same, by rw [List.length_drop]; omega, fun _ H7 g7 => ?_, fun no => absurd ok no⟩
      refine ⟨by show 2 ≤ sizeLine; exact szOf (by decide), fun p hp => ?_⟩
      have g8 : Gw [] G H7 _ _ := Gw.alloc (o := HO.tup [V.str (S tDrp), V.str (S (ns.drop 1))]) g7.gh hp
      exact q1 (.drop (ns.drop 1)) (by rw [e1, if_pos ⟨h2, ok⟩]) _ _ _ (((w5.trans g6).trans g7).trans g8) (.tup upd_same (.cons (.str _) (.cons (.str _) .nil)))
    · refine ⟨_, rfl, iteDN (fun z => absurd rfl z) (fun _ => third _ ((w3.trans g4).trans g5) (fun z => no z.2))⟩
  · exact iteF (third _ w3 (fun z => h2 z.1))
end
end Mw

set_option Elab.async false
set_option linter.all false
set_option maxRecDepth 100000
set_option maxHeartbeats 4000000
/-! MwJ5: recovered. -/
namespace Mw
open PySem PySem.Spec L2
open SX (S S_cat S_len S_inj)
/-- one record at p, and where it ends -/
def readS (f : List Nat → Option Deed) (ns : List Nat) (p : Nat) : Option (Deed × Nat) :=
  if p + 1 < ns.length then
    (if ns.length < p + ns.getD p 0 * 256 + ns.getD (p + 1) 0 + 4 then none
    else if ns.getD (p + ns.getD p 0 * 256 + ns.getD (p + 1) 0 + 3) 0 ≠ 170 ∨ ns.getD (p + ns.getD p 0 * 256 + ns.getD (p + 1) 0 + 2) 0 ≠ ((ns.drop (p + 2)).take (ns.getD p 0 * 256 + ns.getD (p + 1) 0)).sum % 256 then none
    else (f ((ns.drop (p + 2)).take (ns.getD p 0 * 256 + ns.getD (p + 1) 0))).map fun d => (d, p + ns.getD p 0 * 256 + ns.getD (p + 1) 0 + 4))
  else none
def readA (f : List Nat → Option Deed) (ns : List Nat) : Nat → Nat → List Deed × Nat
  | 0, p => ([], p)
  | n + 1, p => match readS f ns p with
    | none => ([], p)
    | some (d, e) => (d :: (readA f ns n e).1, (readA f ns n e).2)
def readP (f : List Nat → Option Deed) (ns : List Nat) : List Deed × Nat := readA f ns (ns.length + 1) 0
def SegDep (ns : List Nat) (N : Int) : Prop := ∀ i, Dep (ns.drop i) N
theorem SegDep.body {ns : List Nat} {N : Int} (h : SegDep ns N) (i n j : Nat) : Dep (((ns.drop i).take n).drop j) N := by
  rw [List.drop_take, List.drop_drop]
  exact (h _).take _
def encRes (r : List Deed × Nat) : PyData := .tuple [.list (r.1.map encD), .int (r.2 : Nat)]
theorem readS_lt {f : List Nat → Option Deed} {ns : List Nat} {p : Nat} {d : Deed} {e : Nat} (h : readS f ns p = some (d, e)) : p < e ∧ e ≤ ns.length := by
  unfold readS at h
  split at h
  · split at h
    · cases h
    · split at h
      · cases h
      · cases z : f ((ns.drop (p + 2)).take (ns.getD p 0 * 256 + ns.getD (p + 1) 0)) with
        | none => rw [z] at h; cases h
        | some d' =>
          rw [z] at h
          cases h
          omega
  · cases h
section
variable {P : Program} {w : World} {K : PySem.W.Frag} {mg : Str → Option Value} {base : Heap}
def spRec (f : List Nat → Option Deed) : Sp := fun vs H Q _ => ∃ G a ns, vs = [.ref a] ∧ Same G H ∧ H a = some (.lst (iv ns)) ∧ ns.length ≤ 100000 ∧ SegDep ns 143 ∧ (∀ G' H' v, Gw [] G H G' H' → Rp G' v (encRes (readP f ns)) → Q v H')
theorem ok_recovered (T : Tx K mg) (X : Ex P K mg) : C8.Cal P w K mg base 152 "recovered" (spRec deedP) [] := by
  refine cal_of T.d_recovered T.g_recovered (fun _ _ _ _ _ _ us hl => match us, hl with | [_], _ => rfl) sc_recovered (fun vs H Q E h => ?_) (fun cdv A outer s H vs Q E hr h => ?_)
  · obtain ⟨G, a, ns, rfl, _⟩ := h; rfl
  obtain ⟨G, a, ns, rfl, s0, ha, hl, dep, q⟩ := h
  have c_deed_of : C8.Cal P w K mg base 151 "deed_of" (spDeed K) [] := ok_deed_of T X
  refine ⟨_, (pss_cons (ps_set (i := 1) sc_recovered.nd rfl (Or.inl rfl) (pe_lst pa_nil))
    (pss_cons (ps_set (i := 2) sc_recovered.nd rfl (Or.inl rfl) pe_int)
    (pss_cons (ps_while PassesOwn.never (pt_cmpR op_lt (pe_op op_add (pv 2) pe_int) (pe_callB call_lenL (by rfl) T.f_len (by decide +kernel) (pa_cons (pv 0) pa_nil)) (nomark _))
      (pss_cons (ps_set (i := 3) sc_recovered.nd rfl (Or.inl rfl) (pe_op op_add (pe_op op_add (pe_op op_add (pv 2) (pe_op op_mul (pe_ix ix_list (pv 0) (pv 2) (fun _ _ => rfl)) pe_int)) (pe_ix ix_list (pv 0) (pe_op op_add (pv 2) pe_int) (fun _ _ => rfl))) pe_int))
      (pss_cons (ps_if (pt_cmpR op_gt (pv 3) (pe_callB call_lenL (by rfl) T.f_len (by decide +kernel) (pa_cons (pv 0) pa_nil)) (nomark _))
        (pss_one ps_break)
        pss_nil)
      (pss_cons (ps_set (i := 4) sc_recovered.nd rfl (Or.inl rfl) (pe_slice sl_L (pv 0) (po_some (pe_op op_add (pv 2) pe_int)) (po_some (pe_op op_sub (pv 3) pe_int))))
      (pss_cons (ps_set (i := 5) sc_recovered.nd rfl (Or.inl rfl) (C8.pe_c c_deed_of hr (by omega) rfl (pa_cons (pv 4) pa_nil)))
      (pss_cons (ps_if (PW.pt (pw_or (pt_cmpR op_ne (pe_ix ix_list (pv 0) (pe_op op_sub (pv 3) pe_int) (fun _ _ => rfl)) (pe_gi T.i_MARK) (nomark _)) (pw_or (pt_cmpR op_ne (pe_ix ix_list (pv 0) (pe_op op_sub (pv 3) pe_int) (fun _ _ => rfl)) (pe_op op_mod (pe_callB (cr_sum rfl) (by rfl) T.f_sum (by decide +kernel) (pa_cons (pv 4) pa_nil)) pe_int) (nomark _)) (pw_or1 (pt_cmp (pc_isN (pv 5)))))))
        (pss_one ps_break)
        pss_nil)
      (pss_cons (ps_expr (pe_bm PySem.F.plainAttrs_list PySem.F.slot_list_append PySem.F.type_list_append mt_append (pv 1) (pa_cons (pv 5) pa_nil)))
      (pss_one (ps_set (i := 2) sc_recovered.nd rfl (Or.inl rfl) (pv 3))))))))))
    (pss_one (ps_ret (pe_tup (pa_cons (pv 1) (pa_cons (pv 2) pa_nil)))))))), ?_⟩
  refine ⟨by show 0 ≤ sizeLine; exact Nat.zero_le _, fun dl hdl => ?_⟩
  have g0 : Gw [] G H G _ := Gw.allocM (o := HO.lst []) s0 hdl
  have hda : a ∉ [dl] := by
    intro z
    have z' : a = dl := by simpa using z
    rw [← z', ha] at hdl; cases hdl
  have hdlG := none_of s0 hdl
  let Wl : Nat → L2.St → Hp → Prop := fun m σ H' => ∃ G' p acc vs F v3 v4 v5, σ = [some (.ref a), some (.ref dl), some (.int (p : Nat)), v3, v4, v5] ∧ Gw [dl] G (upd H dl (.lst [])) G' H' ∧ H' dl = some (.lst vs) ∧ RpL G' vs (acc.map encD) ∧ p ≤ ns.length ∧ acc.length ≤ p ∧ ns.length < p + F ∧
    readP deedP ns = (acc ++ (readA deedP ns F p).1, (readA deedP ns F p).2) ∧ m = ns.length - p
  refine ⟨Wl, ⟨ns.length, G, 0, [], [], ns.length + 1, none, none, none, rfl, Gw.refl g0.gh, upd_same, .nil, Nat.zero_le _, Nat.zero_le _, by omega, rfl, rfl⟩, ?_⟩
  rintro m σ H1 ⟨G1, p, acc, vs, F, v3, v4, v5, rfl, g1, hdl1, rvs, hp, hacc, hF, hread, rfl⟩
  have ha1 := g1.keep a _ hda (g0.same _ _ ha)
  have hvl : vs.length = acc.length := by rw [rvs.length, List.length_map]
  obtain ⟨F', rfl⟩ : ∃ F', F = F' + 1 := ⟨F - 1, by omega⟩
  -- the end
  have fin : ∀ (v3 v4 v5 : Option V) (G2 H2 : Hp), Gw [] G1 H1 G2 H2 → readS deedP ns p = none → tRet (tTup (tCons (tVar 1) (tCons (tVar 2) tNil))) { nx := fun _ H' => Q .non H', rt := Q } [some (.ref a), some (.ref dl), some (.int (p : Nat)), v3, v4, v5] H2 := fun v3 v4 v5 G2 H2 g2 hz => by
    refine ⟨_, rfl, _, rfl, by show 2 ≤ sizeLine; exact szOf (by decide), fun t ht => ?_⟩
    have w2 := g1.trans g2.nil
    have hdl2 := g2.same _ _ hdl1
    have wc : Gw [] G H (upd G2 dl (.lst vs)) H2 := Gw.close s0 hdl w2 hdl2
    have sD : Same G2 (upd G2 dl (.lst vs)) := same_upd (w2.none upd_ne_none hdlG)
    have gt : Gw [] _ H2 _ _ := Gw.alloc (o := HO.tup [V.ref dl, V.int (p : Nat)]) wc.gh ht
    refine q _ _ _ (wc.trans gt) ?_
    rw [hread]
    have e : readA deedP ns (F' + 1) p = ([], p) := by unfold readA; rw [hz]
    rw [e, List.append_nil]
    exact .tup upd_same (.cons (.lst (gt.gg _ _ upd_same) ((rvs.same (g2.gg.trans sD)).same gt.gg)) (.cons (.int _) .nil))
  refine ⟨_, rfl, _, _, rfl, rfl, _, rfl, a, _, rfl, SqL.of ha1, _, _, rfl, rfl, _, rfl, iteD (fun hlt => ?_) (fun hge => ?_)⟩
  · rw [List.length_map] at hlt
    have hp1 : p + 1 < ns.length := by omega
    refine ⟨fun σ' H' => ∃ m', m' < ns.length - p ∧ Wl m' σ' H', fun _ _ z => z, ?_⟩
    have hat0 : atI (iv ns) (p : Int) = some (V.int ((ns.getD p 0 : Nat) : Int)) := at_iv (getD_some (by omega))
    have hat1 : atI (iv ns) ((p : Int) + 1) = some (V.int ((ns.getD (p + 1) 0 : Nat) : Int)) := at_iv (i := p + 1) (getD_some hp1)
    refine ⟨_, rfl, _, rfl, _, rfl, a, _, _, _, rfl, rfl, SqL.of ha1, hat0, _, _, rfl, rfl, .inr ⟨by decide, by decide⟩, _, _, rfl, rfl, _, rfl, _, rfl, _, _, rfl, rfl, a, _, _, _, rfl, rfl, SqL.of ha1, hat1, _, _, rfl, rfl, _, _, rfl, rfl, ?_⟩
    have hS : readS deedP ns p = if ns.length < p + ns.getD p 0 * 256 + ns.getD (p + 1) 0 + 4 then none
      else if ns.getD (p + ns.getD p 0 * 256 + ns.getD (p + 1) 0 + 3) 0 ≠ 170 ∨ ns.getD (p + ns.getD p 0 * 256 + ns.getD (p + 1) 0 + 2) 0 ≠ ((ns.drop (p + 2)).take (ns.getD p 0 * 256 + ns.getD (p + 1) 0)).sum % 256 then none
      else (deedP ((ns.drop (p + 2)).take (ns.getD p 0 * 256 + ns.getD (p + 1) 0))).map fun d => (d, p + ns.getD p 0 * 256 + ns.getD (p + 1) 0 + 4) := by unfold readS; rw [if_pos hp1]
    generalize ns.getD p 0 = x0 at hS hat0 ⊢
    generalize ns.getD (p + 1) 0 = x1 at hS hat1 ⊢
    refine ⟨_, rfl, _, rfl, a, _, rfl, SqL.of ha1, _, _, rfl, rfl, _, rfl, iteD (fun hbig => ?_) (fun hsm => ?_)⟩
    · rw [List.length_map] at hbig
      rw [if_pos (by omega)] at hS
      exact fin _ _ _ G1 H1 (Gw.refl g1.gh) hS
    · rw [List.length_map] at hsm
      have hle : p + x0 * 256 + x1 + 4 ≤ ns.length := by omega
      rw [if_neg (by omega)] at hS
      have hat2 : atI (iv ns) ((p : Int) + (x0 : Int) * 256 + (x1 : Int) + 4 - 1) = some (V.int ((ns.getD (p + x0 * 256 + x1 + 3) 0 : Nat) : Int)) := by
        have e : ((p : Int) + (x0 : Int) * 256 + (x1 : Int) + 4 - 1) = ((p + x0 * 256 + x1 + 3 : Nat) : Int) := by push_cast; omega
        rw [e]; exact at_iv (getD_some (by omega))
      have hat3 : atI (iv ns) ((p : Int) + (x0 : Int) * 256 + (x1 : Int) + 4 - 2) = some (V.int ((ns.getD (p + x0 * 256 + x1 + 2) 0 : Nat) : Int)) := by
        have e : ((p : Int) + (x0 : Int) * 256 + (x1 : Int) + 4 - 2) = ((p + x0 * 256 + x1 + 2 : Nat) : Int) := by push_cast; omega
        rw [e]; exact at_iv (getD_some (by omega))
      have ecut : cutL (iv ns) (some (p + 2)) (some (p + x0 * 256 + x1 + 2)) = iv ((ns.drop (p + 2)).take (x0 * 256 + x1)) := by
        rw [cut_iv]
        show iv ((ns.drop (p + 2)).take (p + x0 * 256 + x1 + 2 - (p + 2))) = _
        have : p + x0 * 256 + x1 + 2 - (p + 2) = x0 * 256 + x1 := by omega
        rw [this]
      refine ⟨_, rfl, _, rfl, _, _, rfl, rfl, _, rfl, _, rfl, _, _, rfl, rfl, _, rfl, a, _, some (p + 2), some (p + x0 * 256 + x1 + 2), rfl, SqL.of ha1, rfl, ?_, fun r1 hr1 => ?_⟩
      · show some _ = some _
        congr 1
        show (p : Int) + (x0 : Int) * 256 + (x1 : Int) + 4 - 2 = _
        push_cast; omega
      rw [ecut]
      have hbody : ((ns.drop (p + 2)).take (x0 * 256 + x1)).length ≤ 100000 := by
        rw [List.length_take, List.length_drop]; omega
      have hbd : ∀ j, Dep (((ns.drop (p + 2)).take (x0 * 256 + x1)).drop j) 143 := fun j => dep.body _ _ j
      generalize (ns.drop (p + 2)).take (x0 * 256 + x1) = body at hS hbody hbd ⊢
      have g2 : Gw [] G1 H1 G1 _ := Gw.allocM (o := HO.lst (iv body)) g1.gh hr1
      -- the deed's value dv
      have rest : ∀ (dv : V) (G3 H3 : Hp), Gw [] G1 (upd H1 r1 (.lst (iv body))) G3 H3 → ((deedP body = none ∧ dv = .non) ∨ ∃ d, deedP body = some d ∧ Rp G3 dv (encD d)) →
          tSeq (tIfS (tOr (tTest (tOp rNe (tOp (rIxL K) (tVar 0) (tOp (rI0 fun i j => .int (i - j)) (tVar 3) (tC (.int 1)))) (tC (.int 170)))) (tOr (tTest (tOp rNe (tOp (rIxL K) (tVar 0) (tOp (rI0 fun i j => .int (i - j)) (tVar 3) (tC (.int 2)))) (tOp (rI (fun _ j => 0 < j) fun i j => .int (i % j)) (tCB (rSum K) (tCons (tVar 4) tNil)) (tC (.int 256))))) (tB (tIsN (tVar 5))))) tBreak tNext)
            (tSeq (tDrop (tBM K "list" rAppend (tVar 1) (tCons (tVar 5) tNil))) (tAsg (tVar 3) (gName 2)))
          { nx := fun σ' H' => ∃ m', m' < ns.length - p ∧ Wl m' σ' H', rt := Q, bk := tRet (tTup (tCons (tVar 1) (tCons (tVar 2) tNil))) { nx := fun _ H' => Q .non H', rt := Q }, ct := fun σ' H' => ∃ m', m' < ns.length - p ∧ Wl m' σ' H' }
          [some (.ref a), some (.ref dl), some (.int (p : Nat)), some (.int ((p : Int) + (x0 : Int) * 256 + (x1 : Int) + 4)), some (.ref r1), some dv] H3 := by
        intro dv G3 H3 g3 hdv
        have w3 := g2.trans g3
        have ha3 := w3.same _ _ ha1
        refine ⟨_, rfl, _, rfl, _, _, rfl, rfl, a, _, _, _, rfl, rfl, SqL.of ha3, hat2, rfl, _, rfl, iteIN (fun hm => ?_) (fun hm => ?_)⟩
        · rw [if_pos (.inl (fun z => hm (by rw [z]; rfl)))] at hS
          exact iteT (fin _ _ _ G3 H3 w3 hS)
        · refine ⟨_, rfl, _, rfl, _, _, rfl, rfl, a, _, _, _, rfl, rfl, SqL.of ha3, hat3, _, rfl, r1, body.map (fun n : Nat => (n : Int)), rfl, by rw [← iv_eq]; exact SqL.of (g3.same _ _ upd_same), _, _, rfl, rfl, by show (0 : Int) < 256; decide, rfl, _, rfl, ?_⟩
          rw [sum_cast]
          refine iteIN (fun hs => ?_) (fun hs => ?_)
          · rw [if_pos (.inr (fun z => hs (by rw [z]; push_cast; rfl)))] at hS
            exact iteT (fin _ _ _ G3 H3 w3 hS)
          · have hc : ¬ (ns.getD (p + x0 * 256 + x1 + 3) 0 ≠ 170 ∨ ns.getD (p + x0 * 256 + x1 + 2) 0 ≠ body.sum % 256) := by
              rintro (z | z)
              · exact z (by omega)
              · exact z (by omega)
            rw [if_neg hc] at hS
            rcases hdv with ⟨hn, rfl⟩ | ⟨d, hd, rd⟩
            · rw [hn] at hS
              exact ⟨_, rfl, _, rfl, iteD (fun _ => fin _ _ _ G3 H3 w3 hS) (fun z => absurd rfl z)⟩
            · rw [hd] at hS
              have hnn : dv ≠ .non := by
                obtain ⟨b, rfl, _⟩ := deed_inv rd
                intro z; cases z
              refine ⟨_, rfl, _, rfl, iteD (fun z => absurd z hnn) (fun _ => ?_)⟩
              have hdl3 := w3.same _ _ hdl1
              have ww := g1.trans w3.nil
              refine ⟨_, rfl, .inl ⟨rfl, vs, SqL.of hdl3⟩, _, rfl, dl, vs, _, rfl, rfl, hdl3, by rw [hvl, sizeLine_eq]; omega, ?_⟩
              have gw : Gw [dl] G3 H3 G3 _ := Gw.write (M := [dl]) (o := HO.lst (vs ++ [dv])) w3.gh (ww.none upd_ne_none hdlG) (List.mem_singleton.mpr rfl)
              have e4 : ((p : Int) + (x0 : Int) * 256 + (x1 : Int) + 4) = ((p + x0 * 256 + x1 + 4 : Nat) : Int) := by push_cast; omega
              rw [e4]
              refine ⟨_, rfl, ns.length - (p + x0 * 256 + x1 + 4), by omega, G3, p + x0 * 256 + x1 + 4, acc ++ [d], vs ++ [dv], F', _, _, _, rfl, ww.trans gw, upd_same, ?_, hle, by rw [List.length_append]; show acc.length + 1 ≤ _; omega, by omega, ?_, rfl⟩
              · rw [List.map_append]
                exact (rvs.same w3.gg).snoc rd
              · rw [hread]
                have e5 : readA deedP ns (F' + 1) p = (d :: (readA deedP ns F' (p + x0 * 256 + x1 + 4)).1, (readA deedP ns F' (p + x0 * 256 + x1 + 4)).2) := by
                  conv => lhs; unfold readA
                  rw [hS]; rfl
                rw [e5]; simp
      refine ⟨_, rfl, G1, r1, body, rfl, g2.gh, upd_same, hbody, hbd, fun hn G3 H3 g3 => rest .non G3 H3 g3 (.inl ⟨hn, rfl⟩), fun d hd G3 H3 v g3 rd => rest v G3 H3 g3 (.inr ⟨d, hd, rd⟩)⟩
  · rw [List.length_map] at hge
    refine fin _ _ _ G1 H1 (Gw.refl g1.gh) ?_
    unfold readS
    rw [if_neg (by omega)]
end
end Mw

set_option Elab.async false
set_option linter.all false
set_option maxRecDepth 100000
set_option maxHeartbeats 4000000
/-! MwL1: the law's signs, word, key_at. -/
namespace Mw
open PySem PySem.Spec L2
open SX (S S_cat S_len S_inj)
abbrev lsg : List Nat := [32, 33, 34, 35, 36] ++ [63, 38, 39, 40, 41, 42, 43, 44, 45, 46, 47, 48, 49, 50, 51, 52, 53, 54, 55, 56, 57, 58, 59, 60, 61, 62, 63, 64, 65, 66, 67, 68, 69, 70, 71, 72, 73, 74, 75, 76, 77, 78, 79, 80, 81, 82, 83, 84, 85, 86, 87, 88, 89, 90, 91, 92, 93, 94, 95, 96, 97, 98, 99, 100, 101, 102, 103, 104, 105, 106, 107, 108, 109, 110, 111, 112, 113, 114, 115, 116, 117, 118, 119, 120, 121, 122, 123, 124, 125, 126]
theorem lsg1 : ∀ c, c < 127 → 32 ≤ c → c ≠ 37 → lsg[c - 32]? = some c := by decide +kernel
theorem takeWhile_of {f : Nat → Bool} : ∀ {r : List Nat} {i c : Nat}, (r.take i).all f = true → r[i]? = some c → f c = false → r.takeWhile f = r.take i ∧ r.dropWhile f = r.drop i
  | [], i, c, _, h, _ => by simp at h
  | x :: r, 0, c, _, h, hc => by
    have : x = c := by simpa using h
    subst this
    simp [List.takeWhile_cons, List.dropWhile_cons, hc]
  | x :: r, i + 1, c, ha, h, hc => by
    rw [List.take_succ_cons, List.all_cons, Bool.and_eq_true] at ha
    obtain ⟨h1, h2⟩ := takeWhile_of (r := r) (i := i) ha.2 (by simpa using h) hc
    rw [List.takeWhile_cons, List.dropWhile_cons, if_pos ha.1, if_pos ha.1, h1, h2]
    exact ⟨rfl, rfl⟩
theorem takeWhile_full {f : Nat → Bool} {r : List Nat} (ha : r.all f = true) : r.takeWhile f = r ∧ r.dropWhile f = [] := by
  induction r with
  | nil => exact ⟨rfl, rfl⟩
  | cons x r ih =>
    rw [List.all_cons, Bool.and_eq_true] at ha
    obtain ⟨h1, h2⟩ := ih ha.2
    rw [List.takeWhile_cons, List.dropWhile_cons, if_pos ha.1, if_pos ha.1, h1, h2]
    exact ⟨rfl, rfl⟩
theorem all_snoc {f : Nat → Bool} {r : List Nat} {c : Nat} (h : r.all f = true) (hc : f c = true) : (r ++ [c]).all f = true := by
  rw [List.all_append, h]; simp [hc]
section
variable {P : Program} {w : World} {K : PySem.W.Frag} {mg : Str → Option Value} {base : Heap}
theorem ok_law_signs (T : Tx K mg) : C8.Cal P w K mg base 1 "_law_signs" (spText K) [] := by
  refine cal_of T.d_law_signs T.g_law_signs (fun _ _ _ _ _ _ us hl => match us, hl with | [_], _ => rfl) sc_law_signs (fun vs H Q E h => ?_) (fun cdv A outer s H vs Q E hr h => ?_)
  · obtain ⟨a, ns, rfl, _⟩ := h; rfl
  obtain ⟨a, ns, rfl, ha, hl, q0, q1⟩ := h
  refine ⟨_, (pss_cons (ps_set (i := 1) sc_law_signs.nd rfl (Or.inl rfl) (pe_op op_addS (pe_s [32, 33, 34, 35, 36]) (pe_s [63, 38, 39, 40, 41, 42, 43, 44, 45, 46, 47, 48, 49, 50, 51, 52, 53, 54, 55, 56, 57, 58, 59, 60, 61, 62, 63, 64, 65, 66, 67, 68, 69, 70, 71, 72, 73, 74, 75, 76, 77, 78, 79, 80, 81, 82, 83, 84, 85, 86, 87, 88, 89, 90, 91, 92, 93, 94, 95, 96, 97, 98, 99, 100, 101, 102, 103, 104, 105, 106, 107, 108, 109, 110, 111, 112, 113, 114, 115, 116, 117, 118, 119, 120, 121, 122, 123, 124, 125, 126])))
    (pss_cons (ps_set (i := 2) sc_law_signs.nd rfl (Or.inl rfl) (pe_s []))
    (pss_cons (ps_for PassesOwn.never rfl (pi_list (pv 0)) (pg_name (i := 3) sc_law_signs.nd rfl (Or.inl rfl))
      (pss_one (ps_if (pt_cmpR op_eq (pv 3) pe_int (nomark _))
        (pss_one (ps_set (i := 2) sc_law_signs.nd rfl (Or.inl rfl) (pe_op op_addS (pv 2) (pe_s [10]))))
        (pss_one (ps_if (PW.pt (pw_and (pt_chain op_le op_le pe_int (pv 3) pe_int) (pw_and1 (pt_cmpR op_ne (pv 3) pe_int (nomark _)))))
          (pss_one (ps_set (i := 2) sc_law_signs.nd rfl (Or.inl rfl) (pe_op op_addS (pv 2) (pe_ix ix_S (pv 1) (pe_op op_sub (pv 3) pe_int) (fun _ _ => rfl)))))
          (pss_one (ps_ret pe_non)))))))
    (pss_one (ps_ret (pv 2)))))), ?_⟩
  refine ⟨_, _, rfl, rfl, by decide, ?_⟩
  refine ⟨_, rfl, a, rfl, ⟨_, ha⟩, for_over (runs_l (xs := iv ns)) (fun i σ H' => H' = H ∧ allO (ns.take i) ∧ ∃ v, σ = [some (.ref a), some (.str (S lsg)), some (.str (S (ns.take i))), v]) (fun i σ H' h => by rw [h.1]; exact ha) ⟨rfl, by rw [List.take_zero]; exact ⟨fun c hc => (by cases hc), none, rfl⟩⟩ (fun i xv σ H' hx h => ?_) (fun σ H' h => ?_)⟩
  · obtain ⟨rfl, hall, v, rfl⟩ := h
    obtain ⟨c, hc, rfl⟩ := iv_get hx
    have hil : i < ns.length := (List.getElem?_eq_some_iff.mp hc).1
    have hz : (ns.take i).length + 1 ≤ big := by
      rw [List.length_take]; unfold big; omega
    have key : okO c → H' = H' ∧ allO (ns.take (i + 1)) ∧ ∃ v, [some (V.ref a), some (V.str (S lsg)), some (V.str (S (ns.take i ++ [c]))), some (V.int (c : Nat))] = [some (V.ref a), some (V.str (S lsg)), some (V.str (S (ns.take (i + 1)))), v] := fun ho => by
      rw [take_snoc hc]
      refine ⟨rfl, fun d hd => ?_, _, rfl⟩
      rcases List.mem_append.mp hd with hd | hd
      · exact hall d hd
      · have : d = c := by simpa using hd
        rw [this]; exact ho
    have bad : ¬ okO c → Q .non H' := fun ho => q1 fun z => ho (z c (List.mem_of_getElem? hc))
    refine ⟨_, rfl, rfl, _, rfl, iteI (fun e => ?_) (fun e => ?_)⟩
    · have e : c = 10 := by omega
      subst e
      exact ⟨_, rfl, _, _, rfl, rfl, hz, key (.inl rfl)⟩
    · have n10 : c ≠ 10 := fun z => e (by omega)
      refine ⟨_, rfl, _, _, rfl, rfl, _, rfl, iteD (fun h2 => ?_) (fun h2 => ?_)⟩
      · refine ⟨_, _, rfl, rfl, _, rfl, iteD (fun h3 => ?_) (fun h3 => ?_)⟩
        · refine ⟨_, rfl, rfl, _, rfl, iteIN (fun h4 => ?_) (fun h4 => ?_)⟩
          · exact ⟨_, rfl, _, rfl, _, rfl, _, _, rfl, rfl, lsg, _, c - 32, c, rfl, rfl, by omega, by decide, lsg1 c (by omega) (by omega) (by omega), _, _, rfl, rfl, hz, key (.inr (by omega))⟩
          · exact bad (by unfold okO; omega)
        · exact iteF (bad (by unfold okO; omega))
      · exact ⟨_, rfl, iteF (iteF (bad (by unfold okO; omega)))⟩
  · obtain ⟨rfl, hall, v, rfl⟩ := h
    rw [List.length_map, List.take_length] at hall ⊢
    exact ⟨_, rfl, q0 hall⟩
def spLWord : Sp := fun vs H Q _ => ∃ (l : List Nat) (p : Nat), vs = [.str (S l), .int (p : Nat)] ∧ l.length ≤ 100000 ∧ Q (.str (S ((l.drop p).takeWhile isLet))) H
theorem ok_law_word (T : Tx K mg) : C8.Cal P w K mg base 1 "_law_word" spLWord [] := by
  refine cal_of T.d_law_word T.g_law_word (fun _ _ _ _ _ _ us hl => match us, hl with | [_, _], _ => rfl) sc_law_word (fun vs H Q E h => ?_) (fun cdv A outer s H vs Q E hr h => ?_)
  · obtain ⟨a, ns, rfl, _⟩ := h; rfl
  obtain ⟨l, p, rfl, hl, q⟩ := h
  refine ⟨_, (pss_cons (ps_set (i := 2) sc_law_word.nd rfl (Or.inl rfl) (pe_s []))
    (pss_cons (ps_for PassesOwn.never rfl (pi_str (pe_slice sl_S (pv 0) (po_some (pv 1)) po_none)) (pg_name (i := 3) sc_law_word.nd rfl (Or.inl rfl))
      (pss_cons (ps_if (pt_cmpR op_ninS (pv 3) (pe_s [97, 98, 99, 100, 101, 102, 103, 104, 105, 106, 107, 108, 109, 110, 111, 112, 113, 114, 115, 116, 117, 118, 119, 120, 121, 122]) rfl)
        (pss_one (ps_ret (pv 2)))
        pss_nil)
      (pss_one (ps_set (i := 2) sc_law_word.nd rfl (Or.inl rfl) (pe_op op_addS (pv 2) (pv 3))))))
    (pss_one (ps_ret (pv 2))))), ?_⟩
  have hrl : (l.drop p).length ≤ 100000 := by rw [List.length_drop]; omega
  refine ⟨_, rfl, _, rfl, _, rfl, l, some p, none, rfl, rfl, rfl, Nat.le_trans hl (by decide), _, rfl, ?_⟩
  rw [cut_lo]
  generalize l.drop p = r at hrl q ⊢
  refine for_over (runs_s (l := r)) (fun i σ H' => H' = H ∧ (r.take i).all isLet = true ∧ ∃ v, σ = [some (.str (S l)), some (.int (p : Nat)), some (.str (S (r.take i))), v]) (fun i σ H' h => trivial) ⟨rfl, by rw [List.take_zero]; exact ⟨rfl, none, rfl⟩⟩ (fun i xv σ H' hx h => ?_) (fun σ H' h => ?_)
  · obtain ⟨rfl, hall, v, rfl⟩ := h
    rw [List.getElem?_map] at hx
    cases hq : r[i]? with
    | none => rw [hq] at hx; cases hx
    | some c =>
      rw [hq] at hx
      cases hx
      have hil : i < r.length := (List.getElem?_eq_some_iff.mp hq).1
      refine ⟨_, rfl, _, _, rfl, rfl, _, rfl, iteDN (fun hc => ?_) (fun hc => ?_)⟩
      · have hc' : isLet c = false := by
          cases z : isLet c with
          | false => rfl
          | true => exact absurd ((mem_let c).mpr z) hc
        rw [(takeWhile_of hall hq hc').1] at q
        exact ⟨_, rfl, q⟩
      · refine ⟨_, rfl, _, rfl, _, _, rfl, rfl, by rw [List.length_take]; show _ + 1 ≤ big; unfold big; omega, rfl, ?_⟩
        rw [take_snoc hq]
        exact ⟨all_snoc hall ((mem_let c).mp hc), _, rfl⟩
  · obtain ⟨rfl, hall, v, rfl⟩ := h
    rw [List.length_map, List.take_length] at hall ⊢
    rw [(takeWhile_full hall).1] at q
    exact ⟨_, rfl, q⟩
def spLKey : Sp := fun vs H Q _ => ∃ G l, ∃ (p : Nat) (pl : Bool), vs = [.str (S l), .int (p : Nat), .str (S (tKind pl))] ∧ Same G H ∧ l.length ≤ 100000 ∧ (∀ k t, lKey pl (l.drop p) = some (k, t) → ∀ a H' (p' : Nat), Gw [] G H G H' → l.drop p' = t → p' ≤ l.length → H' a = some (.lst [encV k, .int (p' : Nat)]) → Q (.ref a) H') ∧
  (lKey pl (l.drop p) = none → ∀ H', Gw [] G H G H' → Q .non H')
theorem take_one (r : List Nat) (c : Nat) : r.take 1 = [c] ↔ r.head? = some c := by
  cases r with
  | nil => simp
  | cons x r => simp
theorem ok_law_key_at (T : Tx K mg) : C8.Cal P w K mg base 2 "_law_key_at" spLKey [] := by
  refine cal_of T.d_law_key_at T.g_law_key_at (fun _ _ _ _ _ _ us hl => match us, hl with | [_, _, _], _ => rfl) sc_law_key_at (fun vs H Q E h => ?_) (fun cdv A outer s H vs Q E hr h => ?_)
  · obtain ⟨G, l, p, pl, rfl, _⟩ := h; rfl
  obtain ⟨G, l, p, pl, rfl, s0, hl, q0, q1⟩ := h
  have c_law_word : C8.Cal P w K mg base 1 "_law_word" spLWord [] := ok_law_word T
  refine ⟨_, (pss_cons (ps_if (PW.pt (pw_and (pt_cmpR op_eq (pv 2) (pe_s [112, 108, 117, 114, 97, 108]) (nomark _)) (pw_and1 (pt_cmpR op_eq (pe_slice sl_S (pv 0) (po_some (pv 1)) (po_some (pe_op op_add (pv 1) pe_int))) (pe_s [61]) (nomark _)))))
      (pss_cons (ps_set (i := 3) sc_law_key_at.nd rfl (Or.inl rfl) (pe_s []))
      (pss_cons (ps_for PassesOwn.never rfl (pi_str (pe_slice sl_S (pv 0) (po_some (pe_op op_add (pv 1) pe_int)) po_none)) (pg_name (i := 4) sc_law_key_at.nd rfl (Or.inl rfl))
        (pss_cons (ps_if (pt_cmpR op_ninS (pv 4) (pe_s [48, 49, 50, 51, 52, 53, 54, 55, 56, 57]) rfl)
          (pss_one ps_break)
          pss_nil)
        (pss_one (ps_set (i := 3) sc_law_key_at.nd rfl (Or.inl rfl) (pe_op op_addS (pv 3) (pv 4))))))
      (pss_cons (ps_if (PW.pt (pw_or (pt_cmpR op_eq (pv 3) (pe_s []) (nomark _)) (pw_or (pt_cmpR op_gt (pe_callB call_lenS (by rfl) T.f_len (by decide +kernel) (pa_cons (pv 3) pa_nil)) pe_int (nomark _)) (pw_or1 (PW.pt (pw_and (pt_cmpR op_eq (pe_ix ix_S (pv 3) pe_int (fun _ _ => rfl)) (pe_s [48]) (nomark _)) (pw_and1 (pt_cmpR op_gt (pe_callB call_lenS (by rfl) T.f_len (by decide +kernel) (pa_cons (pv 3) pa_nil)) pe_int (nomark _)))))))))
        (pss_one (ps_ret pe_non))
        pss_nil)
      (pss_one (ps_ret (pe_lst (pa_cons (pe_callTy call_intS (by rfl) T.f_int (by decide +kernel) (pa_cons (pv 3) pa_nil)) (pa_cons (pe_op op_add (pe_op op_add (pv 1) pe_int) (pe_callB call_lenS (by rfl) T.f_len (by decide +kernel) (pa_cons (pv 3) pa_nil))) pa_nil))))))))
      pss_nil)
    (pss_cons (ps_set (i := 5) sc_law_key_at.nd rfl (Or.inl rfl) (C8.pe_c c_law_word hr (by omega) rfl (pa_cons (pv 0) (pa_cons (pv 1) pa_nil))))
    (pss_cons (ps_if (PW.pt (pw_or (pt_cmpR op_eq (pv 5) (pe_s []) (nomark _)) (pw_or (pt_cmpR op_gt (pe_callB call_lenS (by rfl) T.f_len (by decide +kernel) (pa_cons (pv 5) pa_nil)) pe_int (nomark _)) (pw_or1 (PW.pt (pw_and (pt_cmpR op_eq (pv 2) (pe_s [112, 108, 117, 114, 97, 108]) (nomark _)) (pw_and1 (pt_cmpR op_notIn_seq (pv 5) (pe_lst (pa_cons (pe_s [122, 101, 114, 111]) (pa_cons (pe_s [111, 110, 101]) (pa_cons (pe_s [116, 119, 111]) (pa_cons (pe_s [102, 101, 119]) (pa_cons (pe_s [109, 97, 110, 121]) (pa_cons (pe_s [111, 116, 104, 101, 114]) pa_nil))))))) rfl))))))))
      (pss_one (ps_ret pe_non))
      pss_nil)
    (pss_one (ps_ret (pe_lst (pa_cons (pv 5) (pa_cons (pe_op op_add (pv 1) (pe_callB call_lenS (by rfl) T.f_len (by decide +kernel) (pa_cons (pv 5) pa_nil))) pa_nil)))))))), ?_⟩
  have hb : l.length ≤ big := Nat.le_trans hl (by decide)
  have hwl : ((l.drop p).takeWhile isLet).length ≤ (l.drop p).length := takeWhile_le _ _
  rw [List.length_drop] at hwl
  have e2 : l.drop (p + ((l.drop p).takeWhile isLet).length) = (l.drop p).dropWhile isLet := by rw [← List.drop_drop, drop_takeWhile]
  -- the word
  have word : ¬ (pl = true ∧ (l.drop p).head? = some 61) → tSeq (tAsg (tCall spLWord [] C8.E0 (tCons (tVar 0) (tCons (tVar 1) tNil))) (gName 5)) (tSeq (tIfS (tOr (tTest (tOp rEq (tVar 5) (tC (.str (S []))))) (tOr (tTest (tOp (rI0 fun i j => V.bl (decide (j < i))) (tCB (fun xs H Q => ∃ l : List Nat, xs = [.str (S l)] ∧ l.length ≤ big ∧ Q (.int l.length) H) (tCons (tVar 5) tNil)) (tC (.int 8)))) (tAnd (tTest (tOp rEq (tVar 2) (tC (.str (S tPlu))))) (tTest (tOp (rIn K true) (tVar 5) (tLst (tCons (tC (.str (S [122, 101, 114, 111]))) (tCons (tC (.str (S [111, 110, 101]))) (tCons (tC (.str (S [116, 119, 111]))) (tCons (tC (.str (S [102, 101, 119]))) (tCons (tC (.str (S [109, 97, 110, 121]))) (tCons (tC (.str (S tOth))) tNil))))))))))))
      (tRet (tC .non)) tNext) (tRet (tLst (tCons (tVar 5) (tCons (tOp (rI0 fun i j => .int (i + j)) (tVar 1) (tCB (fun xs H Q => ∃ l : List Nat, xs = [.str (S l)] ∧ l.length ≤ big ∧ Q (.int l.length) H) (tCons (tVar 5) tNil))) tNil))))) { nx := fun _ H' => Q .non H', rt := Q } [some (.str (S l)), some (.int (p : Nat)), some (.str (S (tKind pl))), none, none, none] H := fun hno => by
    have hk : lKey pl (l.drop p) = if (l.drop p).takeWhile isLet = [] ∨ 8 < ((l.drop p).takeWhile isLet).length ∨ (pl = true ∧ (l.drop p).takeWhile isLet ∉ cats ++ [tOth]) then none
        else some (.wd ((l.drop p).takeWhile isLet), (l.drop p).dropWhile isLet) := by
      unfold lKey; rw [if_neg hno]
    refine ⟨_, rfl, _, rfl, l, p, rfl, hl, ?_⟩
    generalize (l.drop p).takeWhile isLet = W at hk e2 hwl ⊢
    have hWb : W.length ≤ big := by unfold big; omega
    have done : ∀ H', Gw [] G H G H' → ¬ (W = [] ∨ 8 < W.length ∨ (pl = true ∧ W ∉ cats ++ [tOth])) → tRet (tLst (tCons (tVar 5) (tCons (tOp (rI0 fun i j => .int (i + j)) (tVar 1) (tCB (fun xs H Q => ∃ l : List Nat, xs = [.str (S l)] ∧ l.length ≤ big ∧ Q (.int l.length) H) (tCons (tVar 5) tNil))) tNil))) { nx := fun _ H' => Q .non H', rt := Q } [some (.str (S l)), some (.int (p : Nat)), some (.str (S (tKind pl))), none, none, some (.str (S W))] H' := fun H' g z => by
      refine ⟨_, rfl, _, rfl, _, rfl, W, rfl, hWb, _, _, rfl, rfl, by show 2 ≤ sizeLine; exact szOf (by decide), fun a ha => ?_⟩
      refine q0 (.wd W) _ (by rw [hk, if_neg z]) a _ (p + W.length) (g.trans (Gw.allocM g.gh ha)) e2 ?_ upd_same
      by_cases hpl : p ≤ l.length
      · omega
      · exfalso
        have h0 : W.length = 0 := by omega
        exact z (.inl (List.length_eq_zero_iff.mp h0))
    refine ⟨_, rfl, rfl, _, rfl, iteS (fun e => iteT (q1 (by rw [hk, if_pos (.inl e)]) H (Gw.refl s0))) (fun e => ?_)⟩
    refine ⟨_, rfl, W, rfl, hWb, _, _, rfl, rfl, _, rfl, iteD (fun h8 => iteT (q1 (by rw [hk, if_pos (.inr (.inl (by omega)))]) H (Gw.refl s0))) (fun h8 => ?_)⟩
    cases pl with
    | false => exact ⟨_, rfl, rfl, _, rfl, iteS (fun z => absurd z (by decide)) (fun _ => iteF (done H (Gw.refl s0) (by rintro (z | z | z); exact e z; omega; exact absurd z.1 (by decide))))⟩
    | true =>
      refine ⟨_, rfl, rfl, _, rfl, iteS (fun _ => ?_) (fun z => absurd rfl z)⟩
      refine ⟨_, rfl, by show 6 ≤ sizeLine; exact szOf (by decide), fun tt htt => ?_⟩
      have g1 : Gw [] G H G _ := Gw.allocM (o := HO.lst ((cats ++ [tOth]).map fun c => V.str (S c))) s0 htt
      refine ⟨tt, (cats ++ [tOth]).map fun c => V.str (S c), rfl, .inl (SqL.of upd_same), rfl, all_strs _, _, rfl, ?_⟩
      rw [in_strs]
      refine iteDN (fun hc => q1 (by rw [hk, if_pos (.inr (.inr ⟨rfl, hc⟩))]) _ g1) (fun hc => done _ g1 ?_)
      rintro (z | z | z)
      · exact e z
      · omega
      · exact z.2 hc
  cases pl with
  | false => exact ⟨_, rfl, rfl, _, rfl, iteS (fun z => absurd z (by decide)) (fun _ => iteF (word (by simp)))⟩
  | true =>
    refine ⟨_, rfl, rfl, _, rfl, iteS (fun _ => ?_) (fun z => absurd rfl z)⟩
    refine ⟨_, rfl, _, rfl, _, rfl, _, rfl, _, _, rfl, rfl, _, rfl, l, some p, some (p + 1), rfl, rfl, rfl, hb, ?_⟩
    have ec : cutL l (some p) (some (p + 1)) = (l.drop p).take 1 := by
      show (l.drop p).take (p + 1 - p) = _
      rw [Nat.add_sub_cancel_left]
    rw [ec]
    refine ⟨rfl, _, rfl, iteS (fun h61 => ?_) (fun h61 => word (fun z => h61 ((take_one _ _).mpr z.2)))⟩
    have h61' := (take_one _ _).mp h61
    have hlt : p < l.length := by
      apply Classical.byContradiction
      intro z
      rw [List.drop_eq_nil_of_le (by omega)] at h61'
      cases h61'
    refine ⟨_, rfl, _, rfl, _, _, rfl, rfl, _, rfl, l, some (p + 1), none, rfl, rfl, rfl, hb, _, rfl, ?_⟩
    rw [cut_lo]
    have htail : (l.drop p).tail = l.drop (p + 1) := by rw [List.tail_drop]
    have hk : lKey true (l.drop p) = if (l.drop (p + 1)).takeWhile isDig = [] ∨ 3 < ((l.drop (p + 1)).takeWhile isDig).length ∨ (((l.drop (p + 1)).takeWhile isDig).head? = some 48 ∧ 1 < ((l.drop (p + 1)).takeWhile isDig).length) then none
        else some (.ix (NumText.digitsVal ((l.drop (p + 1)).takeWhile isDig)), (l.drop (p + 1)).dropWhile isDig) := by
      unfold lKey; rw [if_pos ⟨rfl, h61'⟩, htail]
    have e3 : l.drop (p + 1 + ((l.drop (p + 1)).takeWhile isDig).length) = (l.drop (p + 1)).dropWhile isDig := by rw [← List.drop_drop, drop_takeWhile]
    have hwl2 : ((l.drop (p + 1)).takeWhile isDig).length ≤ (l.drop (p + 1)).length := takeWhile_le _ _
    have hall2 := takeWhile_all isDig (l.drop (p + 1))
    rw [List.length_drop] at hwl2
    have hrl : (l.drop (p + 1)).length ≤ 100000 := by rw [List.length_drop]; omega
    -- behind the loop
    have fin : ∀ v4 : Option V, tSeq (tIfS (tOr (tTest (tOp rEq (tVar 3) (tC (.str (S []))))) (tOr (tTest (tOp (rI0 fun i j => V.bl (decide (j < i))) (tCB (fun xs H Q => ∃ l : List Nat, xs = [.str (S l)] ∧ l.length ≤ big ∧ Q (.int l.length) H) (tCons (tVar 3) tNil)) (tC (.int 3)))) (tAnd (tTest (tOp rEq (tOp (fun x y H Q => ∃ (l : List Nat) (i : Int) (n c : Nat), x = .str (S l) ∧ y = .int i ∧ i = (n : Int) ∧ l.length ≤ big ∧ l[n]? = some c ∧ Q (.str (S [c])) H) (tVar 3) (tC (.int 0))) (tC (.str (S [48]))))) (tTest (tOp (rI0 fun i j => V.bl (decide (j < i))) (tCB (fun xs H Q => ∃ l : List Nat, xs = [.str (S l)] ∧ l.length ≤ big ∧ Q (.int l.length) H) (tCons (tVar 3) tNil)) (tC (.int 1)))))))
          (tRet (tC .non)) tNext)
        (tRet (tLst (tCons (tCB (fun xs H Q => ∃ l : List Nat, xs = [.str (S l)] ∧ l.all isDig = true ∧ l ≠ [] ∧ l.length ≤ 600 ∧ Q (.int (NumText.digitsVal l : Nat)) H) (tCons (tVar 3) tNil)) (tCons (tOp (rI0 fun i j => .int (i + j)) (tOp (rI0 fun i j => .int (i + j)) (tVar 1) (tC (.int 1))) (tCB (fun xs H Q => ∃ l : List Nat, xs = [.str (S l)] ∧ l.length ≤ big ∧ Q (.int l.length) H) (tCons (tVar 3) tNil))) tNil))))
        { nx := fun _ H' => Q .non H', rt := Q } [some (.str (S l)), some (.int (p : Nat)), some (.str (S (tKind true))), some (.str (S ((l.drop (p + 1)).takeWhile isDig))), v4, none] H := fun v4 => by
      generalize (l.drop (p + 1)).takeWhile isDig = W at hk e3 hwl2 hall2 ⊢
      have hWb : W.length ≤ big := by unfold big; omega
      have done : ¬ (W = [] ∨ 3 < W.length ∨ (W.head? = some 48 ∧ 1 < W.length)) → tRet (tLst (tCons (tCB (fun xs H Q => ∃ l : List Nat, xs = [.str (S l)] ∧ l.all isDig = true ∧ l ≠ [] ∧ l.length ≤ 600 ∧ Q (.int (NumText.digitsVal l : Nat)) H) (tCons (tVar 3) tNil)) (tCons (tOp (rI0 fun i j => .int (i + j)) (tOp (rI0 fun i j => .int (i + j)) (tVar 1) (tC (.int 1))) (tCB (fun xs H Q => ∃ l : List Nat, xs = [.str (S l)] ∧ l.length ≤ big ∧ Q (.int l.length) H) (tCons (tVar 3) tNil))) tNil)))
          { nx := fun _ H' => Q .non H', rt := Q } [some (.str (S l)), some (.int (p : Nat)), some (.str (S (tKind true))), some (.str (S W)), v4, none] H := fun z => by
        refine ⟨_, rfl, W, rfl, hall2, fun y => z (.inl y), by have : ¬ 3 < W.length := fun y => z (.inr (.inl y)); omega, _, rfl, _, _, rfl, rfl, _, rfl, W, rfl, hWb, _, _, rfl, rfl, by show 2 ≤ sizeLine; exact szOf (by decide), fun a ha => ?_⟩
        exact q0 (.ix (NumText.digitsVal W)) _ (by rw [hk, if_neg z]) a _ (p + 1 + W.length) (Gw.allocM s0 ha) e3 (by omega) upd_same
      refine ⟨_, rfl, rfl, _, rfl, iteS (fun e => iteT (q1 (by rw [hk, if_pos (.inl e)]) H (Gw.refl s0))) (fun e => ?_)⟩
      refine ⟨_, rfl, W, rfl, hWb, _, _, rfl, rfl, _, rfl, iteD (fun h3 => iteT (q1 (by rw [hk, if_pos (.inr (.inl (by omega)))]) H (Gw.refl s0))) (fun h3 => ?_)⟩
      have hpos : 0 < W.length := List.length_pos_iff.mpr e
      have hhead : W.head? = some W[0] := by rw [List.head?_eq_getElem?, List.getElem?_eq_getElem hpos]
      refine ⟨_, rfl, W, _, 0, W[0], rfl, rfl, rfl, hWb, List.getElem?_eq_getElem hpos, rfl, _, rfl, iteS (fun e5 => ?_) (fun e5 => ?_)⟩
      · have e6 : W[0] = 48 := (List.cons.inj e5).1
        refine ⟨_, rfl, W, rfl, hWb, _, _, rfl, rfl, _, rfl, iteD (fun h1 => ?_) (fun h1 => done ?_)⟩
        · exact q1 (by rw [hk, if_pos (.inr (.inr ⟨by rw [hhead, e6], by omega⟩))]) H (Gw.refl s0)
        · rintro (z | z | z)
          · exact e z
          · omega
          · have := z.2; omega
      · refine iteF (done ?_)
        rintro (z | z | z)
        · exact e z
        · omega
        · have h7 := z.1
          rw [hhead] at h7
          exact e5 (by rw [Option.some.inj h7])
    have hgen : ∀ r, r = l.drop (p + 1) → r.length ≤ 100000 → True := fun _ _ _ => trivial
    refine for_over (runs_s (l := l.drop (p + 1))) (fun i σ H' => H' = H ∧ ((l.drop (p + 1)).take i).all isDig = true ∧ ∃ v, σ = [some (.str (S l)), some (.int (p : Nat)), some (.str (S (tKind true))), some (.str (S ((l.drop (p + 1)).take i))), v, none]) (fun i σ H' h => trivial) ⟨rfl, by rw [List.take_zero]; exact ⟨rfl, none, rfl⟩⟩ (fun i xv σ H' hx h => ?_) (fun σ H' h => ?_)
    · obtain ⟨rfl, hall, v, rfl⟩ := h
      rw [List.getElem?_map] at hx
      cases hq : (l.drop (p + 1))[i]? with
      | none => rw [hq] at hx; cases hx
      | some c =>
        rw [hq] at hx
        cases hx
        have hil : i < (l.drop (p + 1)).length := (List.getElem?_eq_some_iff.mp hq).1
        have hmem : c ∈ [48, 49, 50, 51, 52, 53, 54, 55, 56, 57] ↔ isDig c = true := by
          unfold isDig; simp; omega
        refine ⟨_, rfl, _, _, rfl, rfl, _, rfl, iteDN (fun hc => ?_) (fun hc => ?_)⟩
        · have hc' : isDig c = false := by
            cases z : isDig c with
            | false => rfl
            | true => exact absurd (hmem.mpr z) hc
          rw [← (takeWhile_of hall hq hc').1]
          exact fin _
        · refine ⟨_, rfl, _, rfl, _, _, rfl, rfl, by rw [List.length_take]; show _ + 1 ≤ big; unfold big; omega, rfl, ?_⟩
          rw [take_snoc hq]
          exact ⟨all_snoc hall (hmem.mp hc), _, rfl⟩
    · obtain ⟨rfl, hall, v, rfl⟩ := h
      rw [List.length_map, List.take_length] at hall ⊢
      have := fin v
      rw [(takeWhile_full hall).1] at this
      exact this
end
end Mw

set_option Elab.async false
set_option linter.all false
set_option maxRecDepth 100000
set_option maxHeartbeats 4000000
/-! MwL2: list(text); the law's choice. -/
namespace Mw
open PySem PySem.Spec L2
open SX (S S_cat S_len S_inj)
theorem call_listS {X : Cx} (hc : X.calm = true) : CallR X (.type "list") (fun xs H Q => ∃ l : List Nat, xs = [.str (S l)] ∧ l.length ≤ big ∧ ∀ q, H q = none → Q (.ref q) (upd H q (.lst (l.map fun c => .str (S [c]))))) := by
  intro pins s σ H xs us Q I r h
  obtain ⟨l, rfl, hz, q⟩ := h
  obtain ⟨u, rfl, t, rfl⟩ := vals1 r
  have hz' : (S l).cps.size ≤ sizeLine := by
    show (S l).length ≤ sizeLine
    rw [S_len]; exact szl hz
  refine call_list_str (hn := hz') (I.ok.hd hc) (S l) t fun h' tk acc c' hk e hi => ?_
  refine ⟨.ref s.heap.objs.size, upd H s.heap.objs.size (.lst (l.map fun c => .str (S [c]))), I.laid hk (Nat.le_refl _) ⟨by rw [List.length_map]; exact szl hz, acc.toList, c', ?_, by rw [Array.toArray_toList]; exact e⟩, rfl, q _ (I.hok.fresh (Nat.le_refl _))⟩
  refine vals_of_idx _ _ (by rw [List.length_map, Array.length_toList, hi.1]; exact S_len l) fun j u hj => ?_
  have hs := hi.2 j u (by rw [← Array.getElem?_toList]; exact hj)
  obtain ⟨c, u', hcc, rfl⟩ := hs
  have e2 : l[j]? = some c := by simpa using hcc
  exact ⟨.str (S [c]), by rw [List.getElem?_map, e2]; rfl, ⟨u', rfl⟩⟩
theorem lMsg_facts {i : Bool} {r : List Nat} {m : List Nd} {t : List Nat} (hok : allOk r) (h : lMsg i [] r = some (m, t)) : Eats 0 r t ∧ (t = [] ∨ ∃ s, t = 125 :: s) ∧ szM m + 50 * t.length ≤ 50 * r.length := by
  obtain ⟨m', h1, h2, h3⟩ := (law_read r.length).1 _ _ _ _ _ (Nat.le_refl _) hok h
  have p1 := parsed_msg h1
  have p2 := parsed_sz h1
  have p3 := szM_plain m'
  refine ⟨p1.1, p1.2.2, ?_⟩
  have := p2.1
  have e : szM m = szM (plainM m') := by rw [h2]; rfl
  omega
theorem lNode_facts {i : Bool} {r : List Nat} {x : Nd} {t : List Nat} (hok : allOk r) (h125 : ∀ s, r ≠ 125 :: s) (h : lNode i r = some (x, t)) : Eats 0 r t ∧ t.length < r.length ∧ szN x + 50 * t.length ≤ 50 * r.length := by
  obtain ⟨x', h1, h2, h3⟩ := (law_read r.length).2.1 _ _ _ _ (Nat.le_refl _) hok h125 h
  have p1 := parsed_node h1
  have p2 := ((parsed2 r.length).2.1 _ _ _ _ (Nat.le_refl _) h1).1
  have p3 := szN_plain x'
  rw [h2]
  exact ⟨p1.1, p1.2.2, by omega⟩
theorem lCho_eq {i pl : Bool} {n : List Nat} {off : Nat} {acc : List (Ky × List Nd)} {r : List Nat} (hok : allOk r) : lCho i pl n off acc r = match lKey pl r with
  | none => none
  | some (k, r1) => match starts [32, 123] r1 with
    | none => none
    | some r2 => if k ∈ acc.map (·.1) then none else
      match lMsg (pl || i) [] r2 with
      | none => none
      | some (m, r3) => match starts [125] r3 with
        | none => none
        | some r4 => if k = .wd tOth then (match starts [125] r4 with
            | none => none
            | some r5 => some (.cho pl n off acc m, r5))
          else match starts [32] r4 with
            | none => none
            | some r5 => lCho i pl n off (acc ++ [(k, m)]) r5 := by
  conv => lhs; unfold lCho
  cases h1 : lKey pl r with
  | none => rfl
  | some q =>
    obtain ⟨k, r1⟩ := q
    have k2 := (lp_key h1).2.1
    dsimp only
    cases h2 : starts [32, 123] r1 with
    | none => rfl
    | some r2 =>
      have e2 := of_starts h2
      have hl : r2.length < r.length := by rw [k2, e2]; simp only [List.length_append, List.length_cons]; omega
      have hok2 : allOk r2 := by
        rw [k2, e2] at hok
        exact hok.right.right
      dsimp only
      by_cases hk : k ∈ acc.map (·.1)
      · rw [if_pos hk, if_pos hk]
      · rw [if_neg hk, if_neg hk, dif_pos hl]
        cases h3 : lMsg (pl || i) [] r2 with
        | none => rfl
        | some q =>
          obtain ⟨m, r3⟩ := q
          have k3 := (lMsg_facts hok2 h3).1.le
          dsimp only
          cases h4 : starts [125] r3 with
          | none => rfl
          | some r4 =>
            have e4 := of_starts h4
            dsimp only
            by_cases hw : k = .wd tOth
            · rw [if_pos hw, if_pos hw]; all_goals rfl
            · rw [if_neg hw, if_neg hw]
              cases h5 : starts [32] r4 with
              | none => rfl
              | some r5 =>
                have e5 := of_starts h5
                dsimp only
                rw [dif_pos (by rw [e4, e5] at k3; simp only [List.length_append, List.length_cons] at k3; omega)]
theorem slice_starts {l w : List Nat} {p : Nat} (hp : p ≤ l.length) : (cutL l (some p) (some (p + w.length)) = w ∧ starts w (l.drop p) = some (l.drop (p + w.length)) ∧ p + w.length ≤ l.length) ∨ (cutL l (some p) (some (p + w.length)) ≠ w ∧ starts w (l.drop p) = none) := by
  have e : cutL l (some p) (some (p + w.length)) = (l.drop p).take w.length := by
    show (l.drop p).take (p + w.length - p) = _
    rw [Nat.add_sub_cancel_left]
  rw [e]
  unfold starts
  by_cases h : w <+: l.drop p
  · refine .inl ⟨(List.prefix_iff_eq_take.mp h).symm, by rw [if_pos h, List.drop_drop], ?_⟩
    have := h.length_le
    rw [List.length_drop] at this; omega
  · refine .inr ⟨fun z => h ?_, by rw [if_neg h]⟩
    rw [← z]; exact List.take_prefix _ _
theorem allOk_drop {l : List Nat} (h : allOk l) (p : Nat) : allOk (l.drop p) := fun c hc => h c (List.drop_subset _ _ hc)
section
variable {P : Program} {w : World} {K : PySem.W.Frag} {mg : Str → Option Value} {base : Heap}
def lChoice (i pl : Bool) (n r : List Nat) : Option (Nd × List Nat) :=
  match lOff pl r with
  | none => none
  | some (o, r6) => lCho i pl n o [] r6
def spLMsg (K : PySem.W.Frag) (N : Int) : Sp := fun vs H Q _ => ∃ G l, ∃ (p : Nat) (i : Bool), vs = [.str (S l), .int (p : Nat), .bl i] ∧ Same G H ∧ l.length ≤ 100000 ∧ p ≤ l.length ∧ allOk l ∧ Dep (l.drop p) N ∧
  (∀ m t, lMsg i [] (l.drop p) = some (m, t) → ∀ G' H' a v (p' : Nat), Gw [] G H G' H' → l.drop p' = t → p' ≤ l.length → H' a = some (.lst [v, .int (p' : Nat)]) → Rp G' v (.list (encM m)) → Q (.ref a) H') ∧
  (lMsg i [] (l.drop p) = none → ∀ G' H', Gw [] G H G' H' → Q .non H')
def spLCho (K : PySem.W.Frag) (N : Int) : Sp := fun vs H Q _ => ∃ G l hd n, ∃ (p : Nat) (i pl : Bool), vs = [.str (S l), .int (p : Nat), .bl (pl || i), .ref hd] ∧ Same G H ∧ H hd = some (.tup [.str (S (tKind pl)), .str (S n)]) ∧ l.length ≤ 100000 ∧ p ≤ l.length ∧ allOk l ∧ Dep (l.drop p) N ∧
  (∀ x t, lChoice i pl n (l.drop p) = some (x, t) → ∀ G' H' a v (p' : Nat), Gw [] G H G' H' → l.drop p' = t → p' ≤ l.length → H' a = some (.lst [v, .int (p' : Nat)]) → Rp G' v (encN x) → Q (.ref a) H') ∧
  (lChoice i pl n (l.drop p) = none → ∀ G' H', Gw [] G H G' H' → Q .non H')
theorem keysL_of {c : Addr} {vs : List V} {acc : List (Ky × List Nd)} {G H : Hp} {σ : L2.St} {Q : VK} (s : Same G H) (hc : H c = some (.lst vs)) (rp : RpL G vs (encC acc)) (hl : acc.length ≤ 100000)
    (hσ : ∃ a0 a1 a2 a3 a5 a6 a7 a8 a9, σ = [a0, a1, a2, a3, some (.ref c), a5, a6, a7, a8, a9])
    (q : ∀ D, H D = none → Q (.ref D) (upd H D (.lst ((acc.map (·.1)).map encV)))) :
    tLc (iList K (tVar 4)) (gTup K 2 (gCons (gName 9) (gCons (gName 8) gNil))) tYes (tVar 9) [9, 8] σ H Q := by
  obtain ⟨a0, a1, a2, a3, a5, a6, a7, a8, a9, rfl⟩ := hσ
  refine ⟨_, rfl, c, rfl, ⟨vs, SqL.of hc⟩, lc_over (runs_l (xs := vs)) (fun D i H' => H D = none ∧ H' = upd H D (.lst (((acc.map (·.1)).take i).map encV))) (fun D i H' h => ?_) (fun D hD => ⟨hD, rfl⟩) (fun D i x H' hD hx h => ?_) (fun D H' hD h => ?_)⟩
  · obtain ⟨hD, rfl⟩ := h
    exact SqL.of (by rw [upd_ne (ne_of_none hc hD)]; exact hc)
  · obtain ⟨_, rfl⟩ := h
    obtain ⟨d, hd, rx⟩ := rp.get hx
    rw [encC_get] at hd
    cases hq : acc[i]? with
    | none => rw [hq] at hd; cases hd
    | some km =>
      rw [hq] at hd
      cases hd
      obtain ⟨a, ys, rfl, ha, ry⟩ := rx.tup_inv
      obtain ⟨y1, ys1, rfl, r1, ry1⟩ := ry.cons_inv
      obtain ⟨y2, ys2, rfl, r2, ry2⟩ := ry1.cons_inv
      obtain rfl := ry2.nil_inv
      obtain rfl := r1.key_inv
      have hil : i < acc.length := (List.getElem?_eq_some_iff.mp hq).1
      have ek : (acc.map (·.1))[i]? = some km.1 := by rw [List.getElem?_map, hq]; rfl
      refine ⟨a, _, rfl, SqT.of (by rw [upd_ne (ne_of_none (s _ _ ha) hD)]; exact s _ _ ha), rfl, _, _, rfl, _, _, rfl, rfl, rfl, _, rfl, _, upd_same, ?_, hD, ?_⟩
      · rw [List.length_map, List.length_take, List.length_map, sizeLine_eq]; omega
      · rw [upd_upd, take_snoc ek, List.map_append]; rfl
  · obtain ⟨_, rfl⟩ := h
    have e : vs.length = (acc.map (·.1)).length := by rw [rp.length, encC_len, List.length_map]
    rw [e, List.take_length]
    exact q D hD
end
end Mw

set_option Elab.async false
set_option linter.all false
set_option maxRecDepth 100000
set_option maxHeartbeats 4000000
/-! MwL3: the law's choice, walked. -/
namespace Mw
open PySem PySem.Spec L2
open SX (S S_cat S_len S_inj)
abbrev rSl' : V → Option Int → Option Int → Hp → VK → Prop := fun x lo hi H Q => ∃ (l : List Nat) (a b : Option Nat), x = .str (S l) ∧ lo = a.map (fun (n : Nat) => (n : Int)) ∧ hi = b.map (fun (n : Nat) => (n : Int)) ∧ l.length ≤ big ∧ Q (.str (S (cutL l a b))) H
abbrev rLen' : List V → Hp → VK → Prop := fun xs H Q => ∃ l : List Nat, xs = [.str (S l)] ∧ l.length ≤ big ∧ Q (.int l.length) H
abbrev rAdd' : R2 := rI0 fun i j => .int (i + j)
theorem headV_0 (pl : Bool) (n : List Nat) (o : Nat) : ∃ rest, headV pl n o = .str (S (tKind pl)) :: rest := by
  cases pl
  · exact ⟨_, rfl⟩
  · exact ⟨_, rfl⟩
theorem lKey_nil (pl : Bool) : lKey pl [] = none := by cases pl <;> simp [lKey]
section
variable {P : Program} {w : World} {K : PySem.W.Frag} {mg : Str → Option Value} {base : Heap}
theorem ok_law_choice (T : Tx K mg) {km : Nat} {N : Int} (hkm : 2 ≤ km) (c_law_parsed : C8.Cal P w K mg base km "_law_parsed" (spLMsg K (N - 2)) []) : C8.Cal P w K mg base (km + 1) "_law_choice" (spLCho K N) [] := by
  refine cal_of T.d_law_choice T.g_law_choice (fun _ _ _ _ _ _ us hl => match us, hl with | [_, _, _, _], _ => rfl) sc_law_choice (fun vs H Q E h => ?_) (fun cdv A outer s H vs Q E hr h => ?_)
  · obtain ⟨G, l, hd, n, p, i, pl, rfl, _⟩ := h; rfl
  obtain ⟨G, l, hd, n, p, i, pl, rfl, s0, hhd, hl, hp, hok, dep, q0, q1⟩ := h
  have c_law_key_at : C8.Cal P w K mg base 2 "_law_key_at" spLKey [] := ok_law_key_at T
  refine ⟨_, (pss_cons (ps_set (i := 4) sc_law_choice.nd rfl (Or.inl rfl) (pe_lst pa_nil))
    (pss_cons (ps_if (pt_cmpR op_eq (pe_ix ix_tup (pv 3) pe_int (fun _ _ => rfl)) (pe_s [112, 108, 117, 114, 97, 108]) (nomark _))
      (pss_cons (ps_set (i := 5) sc_law_choice.nd rfl (Or.inl rfl) pe_int)
      (pss_cons (ps_if (pt_cmpR op_eq (pe_slice sl_S (pv 0) (po_some (pv 1)) (po_some (pe_op op_add (pv 1) pe_int))) (pe_s [111, 102, 102, 115, 101, 116, 58]) (nomark _))
        (pss_cons (ps_if (PW.pt (pw_or (pt_cmpR op_notIn_seq (pe_slice sl_S (pv 0) (po_some (pe_op op_add (pv 1) pe_int)) (po_some (pe_op op_add (pv 1) pe_int))) (pe_callTy (call_listS rfl) (by rfl) T.f_list (by decide +kernel) (pa_cons (pe_s [49, 50, 51, 52, 53, 54, 55, 56, 57]) pa_nil)) rfl) (pw_or1 (pt_cmpR op_ne (pe_slice sl_S (pv 0) (po_some (pe_op op_add (pv 1) pe_int)) (po_some (pe_op op_add (pv 1) pe_int))) (pe_s [32]) (nomark _)))))
          (pss_one (ps_ret pe_non))
          pss_nil)
        (pss_cons (ps_set (i := 5) sc_law_choice.nd rfl (Or.inl rfl) (pe_callTy call_intS (by rfl) T.f_int (by decide +kernel) (pa_cons (pe_ix ix_S (pv 0) (pe_op op_add (pv 1) pe_int) (fun _ _ => rfl)) pa_nil)))
        (pss_one (ps_set (i := 1) sc_law_choice.nd rfl (Or.inl rfl) (pe_op op_add (pv 1) pe_int)))))
        pss_nil)
      (pss_one (ps_set (i := 3) sc_law_choice.nd rfl (Or.inl rfl) (pe_op op_catT (pv 3) (pe_tup (pa_cons (pv 5) pa_nil)))))))
      pss_nil)
    (pss_cons (ps_for PassesOwn.never rfl (pi_range1 (by rfl) T.f_range (pa_cons (pe_callB call_lenS (by rfl) T.f_len (by decide +kernel) (pa_cons (pv 0) pa_nil)) pa_nil)) (pg_name (i := 6) sc_law_choice.nd rfl (Or.inl rfl))
      (pss_cons (ps_set (i := 7) sc_law_choice.nd rfl (Or.inl rfl) (C8.pe_c c_law_key_at hr (by omega) rfl (pa_cons (pv 0) (pa_cons (pv 1) (pa_cons (pe_ix ix_tup (pv 3) pe_int (fun _ _ => rfl)) pa_nil)))))
      (pss_cons (ps_if (PW.pt (pw_or (pt_cmp (pc_isN (pv 7))) (pw_or (pt_cmpR op_ne (pe_slice sl_S (pv 0) (po_some (pe_ix ix_list (pv 7) pe_int (fun _ _ => rfl))) (po_some (pe_op op_add (pe_ix ix_list (pv 7) pe_int (fun _ _ => rfl)) pe_int))) (pe_s [32, 123]) (nomark _)) (pw_or1 (pt_cmpR op_in_seq (pe_ix ix_list (pv 7) pe_int (fun _ _ => rfl)) (pe_lc (own := [("_law_other", 9), ("_law_inner", 8)]) (g := gTup K 2 (gCons (gName 9) (gCons (gName 8) (gNil)))) (tt := tYes) rfl sc_law_choice.nd (pi_list (pv 4)) (blkOk_by (own := [("_law_other", 9), ("_law_inner", 8)]) (N := N_law_choice) (sc := defScope s_law_choice) (by decide +kernel)) (fun _ _ _ _ _ => (pg_tup rfl (pgs_cons (pg_name (i := 9) sc_law_choice.nd rfl (Or.inl rfl)) (pgs_cons (pg_name (i := 8) sc_law_choice.nd rfl (Or.inl rfl)) pgs_nil)))) (fun _ _ _ _ _ => pts_nil) (fun _ _ _ _ _ => (pv 9))) rfl)))))
        (pss_one (ps_ret pe_non))
        pss_nil)
      (pss_cons (ps_set (i := 8) sc_law_choice.nd rfl (Or.inl rfl) (C8.pe_c c_law_parsed hr (by omega) rfl (pa_cons (pv 0) (pa_cons (pe_op op_add (pe_ix ix_list (pv 7) pe_int (fun _ _ => rfl)) pe_int) (pa_cons (pv 2) pa_nil)))))
      (pss_cons (ps_if (PW.pt (pw_or (pt_cmp (pc_isN (pv 8))) (pw_or1 (pt_cmpR op_ne (pe_slice sl_S (pv 0) (po_some (pe_ix ix_list (pv 8) pe_int (fun _ _ => rfl))) (po_some (pe_op op_add (pe_ix ix_list (pv 8) pe_int (fun _ _ => rfl)) pe_int))) (pe_s [125]) (nomark _)))))
        (pss_one (ps_ret pe_non))
        pss_nil)
      (pss_cons (ps_set (i := 1) sc_law_choice.nd rfl (Or.inl rfl) (pe_op op_add (pe_ix ix_list (pv 8) pe_int (fun _ _ => rfl)) pe_int))
      (pss_cons (ps_if (pt_cmpR op_eq (pe_ix ix_list (pv 7) pe_int (fun _ _ => rfl)) (pe_s [111, 116, 104, 101, 114]) (nomark _))
        (pss_cons (ps_if (pt_cmpR op_ne (pe_slice sl_S (pv 0) (po_some (pv 1)) (po_some (pe_op op_add (pv 1) pe_int))) (pe_s [125]) (nomark _))
          (pss_one (ps_ret pe_non))
          pss_nil)
        (pss_one (ps_ret (pe_lst (pa_cons (pe_op op_catT (pv 3) (pe_tup (pa_cons (pv 4) (pa_cons (pe_ix ix_list (pv 8) pe_int (fun _ _ => rfl)) pa_nil)))) (pa_cons (pe_op op_add (pv 1) pe_int) pa_nil))))))
        pss_nil)
      (pss_cons (ps_if (pt_cmpR op_ne (pe_slice sl_S (pv 0) (po_some (pv 1)) (po_some (pe_op op_add (pv 1) pe_int))) (pe_s [32]) (nomark _))
        (pss_one (ps_ret pe_non))
        pss_nil)
      (pss_cons (ps_expr (pe_bm PySem.F.plainAttrs_list PySem.F.slot_list_append PySem.F.type_list_append mt_append (pv 4) (pa_cons (pe_tup (pa_cons (pe_ix ix_list (pv 7) pe_int (fun _ _ => rfl)) (pa_cons (pe_ix ix_list (pv 8) pe_int (fun _ _ => rfl)) pa_nil))) pa_nil)))
      (pss_one (ps_set (i := 1) sc_law_choice.nd rfl (Or.inl rfl) (pe_op op_add (pv 1) pe_int))))))))))))
    (pss_one (ps_ret pe_non))))), ?_⟩
  have hb : l.length ≤ big := Nat.le_trans hl (by decide)
  refine ⟨by show 0 ≤ sizeLine; exact Nat.zero_le _, fun c hc => ?_⟩
  have gc0 : Gw [] G H G _ := Gw.allocM (o := HO.lst []) s0 hc
  have hcG := none_of s0 hc
  have hhd0 := gc0.same _ _ hhd
  have hdc : hd ≠ c := ne_of_none hhd hc
  -- the loop
  have loop : ∀ (hd2 : Addr) (H1 : Hp) (p1 o : Nat) (v5 : Option V), Gw [c] G (upd H c (.lst [])) G H1 → H1 c = some (.lst []) → H1 hd2 = some (.tup (headV pl n o)) → p1 ≤ l.length → Dep (l.drop p1) N → lChoice i pl n (l.drop p) = lCho i pl n o [] (l.drop p1) →
      tSeq (tFor (iRng1 (tCons (tCB rLen' (tCons (tVar 0) tNil)) tNil)) (gName 6)
        (tSeq (tAsg (tCall spLKey [] C8.E0 (tCons (tVar 0) (tCons (tVar 1) (tCons (tOp (rIxT K) (tVar 3) (tC (.int 0))) tNil)))) (gName 7))
        (tSeq (tIfS (tOr (tB (tIsN (tVar 7))) (tOr (tTest (tOp rNe (tSl rSl' (tVar 0) (tPart (tOp (rIxL K) (tVar 7) (tC (.int 1)))) (tPart (tOp rAdd' (tOp (rIxL K) (tVar 7) (tC (.int 1))) (tC (.int 2))))) (tC (.str (S [32, 123]))))) (tTest (tOp (rIn K false) (tOp (rIxL K) (tVar 7) (tC (.int 0))) (tLc (iList K (tVar 4)) (gTup K 2 (gCons (gName 9) (gCons (gName 8) gNil))) tYes (tVar 9) [9, 8]))))) (tRet (tC .non)) tNext)
        (tSeq (tAsg (tCall (spLMsg K (N - 2)) [] C8.E0 (tCons (tVar 0) (tCons (tOp rAdd' (tOp (rIxL K) (tVar 7) (tC (.int 1))) (tC (.int 2))) (tCons (tVar 2) tNil)))) (gName 8))
        (tSeq (tIfS (tOr (tB (tIsN (tVar 8))) (tTest (tOp rNe (tSl rSl' (tVar 0) (tPart (tOp (rIxL K) (tVar 8) (tC (.int 1)))) (tPart (tOp rAdd' (tOp (rIxL K) (tVar 8) (tC (.int 1))) (tC (.int 1))))) (tC (.str (S [125])))))) (tRet (tC .non)) tNext)
        (tSeq (tAsg (tOp rAdd' (tOp (rIxL K) (tVar 8) (tC (.int 1))) (tC (.int 1))) (gName 1))
        (tSeq (tIfS (tTest (tOp rEq (tOp (rIxL K) (tVar 7) (tC (.int 0))) (tC (.str (S tOth))))) (tSeq (tIfS (tTest (tOp rNe (tSl rSl' (tVar 0) (tPart (tVar 1)) (tPart (tOp rAdd' (tVar 1) (tC (.int 1))))) (tC (.str (S [125]))))) (tRet (tC .non)) tNext) (tRet (tLst (tCons (tOp (rCatT K) (tVar 3) (tTup (tCons (tVar 4) (tCons (tOp (rIxL K) (tVar 8) (tC (.int 0))) tNil)))) (tCons (tOp rAdd' (tVar 1) (tC (.int 1))) tNil))))) tNext)
        (tSeq (tIfS (tTest (tOp rNe (tSl rSl' (tVar 0) (tPart (tVar 1)) (tPart (tOp rAdd' (tVar 1) (tC (.int 1))))) (tC (.str (S [32]))))) (tRet (tC .non)) tNext)
        (tSeq (tDrop (tBM K "list" rAppend (tVar 4) (tCons (tTup (tCons (tOp (rIxL K) (tVar 7) (tC (.int 0))) (tCons (tOp (rIxL K) (tVar 8) (tC (.int 0))) tNil))) tNil)))
        (tAsg (tOp rAdd' (tVar 1) (tC (.int 1))) (gName 1))))))))))) (tRet (tC .non))
      { nx := fun _ H' => Q .non H', rt := Q } [some (.str (S l)), some (.int (p1 : Nat)), some (.bl (pl || i)), some (.ref hd2), some (.ref c), v5, none, none, none, none] H1 := by
    intro hd2 H1 p1 o v5 g1 hc1 hhd1 hp1 dep1 hch
    obtain ⟨hrest, hhr⟩ := headV_0 pl n o
    have h2c : hd2 ∉ [c] := by
      intro z
      have z' : hd2 = c := by simpa using z
      rw [z', hc1] at hhd1; cases hhd1
    have out : ∀ {G' H'}, Gw [c] G (upd H c (.lst [])) G' H' → lChoice i pl n (l.drop p) = none → Q .non H' := fun g z => q1 z _ _ (Gw.drop s0 hc g)
    refine ⟨_, rfl, l, rfl, hb, _, rfl, by omega, by omega, for_over (runs_r (lo := 0) (n := ((l.length : Nat) : Int).toNat)) (fun j σ H' => ∃ G' p' acc vs v6 v7 v8 v9, σ = [some (.str (S l)), some (.int (p' : Nat)), some (.bl (pl || i)), some (.ref hd2), some (.ref c), v5, v6, v7, v8, v9] ∧
      Gw [c] G (upd H c (.lst [])) G' H' ∧ H' c = some (.lst vs) ∧ RpL G' vs (encC acc) ∧ H' hd2 = some (.tup (headV pl n o)) ∧ p' ≤ l.length ∧ Dep (l.drop p') N ∧ lChoice i pl n (l.drop p) = lCho i pl n o acc (l.drop p') ∧ acc.length ≤ p' ∧ j ≤ p') (fun _ _ _ _ => trivial)
      ⟨G, p1, [], [], none, none, none, none, rfl, g1, hc1, .nil, hhd1, hp1, dep1, hch, Nat.zero_le _, Nat.zero_le _⟩ (fun j xv σ H4 hx h => ?_) (fun σ H4 h => ?_)⟩
    · obtain ⟨G4, p4, acc, vs, v6, v7, v8, v9, rfl, g4, hc4, rv, hhd4, hp4, dep4, hch4, hacc, hj⟩ := h
      have hok4 := allOk_drop hok p4
      rw [lCho_eq hok4] at hch4
      have sqh := SqT.of (K := K) hhd4
      rw [hhr] at sqh
      refine ⟨_, rfl, _, rfl, _, rfl, hd2, _, _, _, rfl, rfl, sqh, atI_zero _ _, G4, l, p4, pl, rfl, g4.gh, hl, fun k t e5 ka H5 p5 g5 e5' hp5 hka => ?_, fun e5 H5 g5 => ?_⟩
      · subst e5'
        rw [e5] at hch4
        dsimp only at hch4
        have K5 := lp_key e5
        have E5 : Eats 0 (l.drop p4) (l.drop p5) := (eats_key K5.1).1
        have w5 := g4.trans g5.nil
        have sqk := SqL.of (K := K) hka
        refine ⟨_, rfl, _, rfl, iteD (fun z => by cases z) (fun _ => ?_)⟩
        refine ⟨_, rfl, _, rfl, ka, _, _, _, rfl, rfl, sqk, rfl, _, rfl, _, rfl, ka, _, _, _, rfl, rfl, sqk, rfl, _, _, rfl, rfl, _, rfl, l, some p5, some (p5 + 2), rfl, rfl, rfl, hb, rfl, _, rfl, ?_⟩
        rcases slice_starts (w := [32, 123]) hp5 with ⟨s1, s2, s3⟩ | ⟨s1, s2⟩
        · refine iteSN (fun z => absurd s1 z) (fun _ => ?_)
          rw [s2] at hch4
          dsimp only at hch4
          have s3' : p5 + 2 ≤ l.length := s3
          have hl2 : l.drop (p5 + [32, 123].length) = l.drop (p5 + 2) := rfl
          rw [hl2] at hch4
          have hc5 := g5.same _ _ hc4
          refine ⟨_, rfl, ka, _, _, _, rfl, rfl, sqk, rfl, keysL_of g5.gh hc5 rv (by omega) ⟨_, _, _, _, _, _, _, _, _, rfl⟩ (fun D hD => ?_)⟩
          refine ⟨D, _, rfl, .inl (SqL.of upd_same), flat_encV k, all_encV _, _, rfl, ?_⟩
          rw [in_encV]
          have g6 : Gw [] G4 H5 G4 _ := Gw.allocM (o := HO.lst ((acc.map (·.1)).map encV)) g5.gh hD
          have w6 := w5.trans g6.nil
          refine iteD (fun hk => ?_) (fun hk => ?_)
          · rw [if_pos hk] at hch4
            exact out w6 hch4
          · rw [if_neg hk] at hch4
            have hka6 := g6.same _ _ hka
            have hc6 := g6.same _ _ hc5
            have sqk6 := SqL.of (K := K) hka6
            have E7 : Eats 2 (l.drop p4) (l.drop (p5 + 2)) := by
              have z : l.drop p5 = [32, 123] ++ l.drop (p5 + 2) := of_starts s2
              refine (E5.trans (show Eats 2 (l.drop p5) (l.drop (p5 + 2)) from ⟨[32, 123], z, by decide⟩)).mono (by decide)
            have dep7 : Dep (l.drop (p5 + 2)) (N - 2) := dep4.eat E7
            refine ⟨_, rfl, _, rfl, ka, _, _, _, rfl, rfl, sqk6, rfl, _, _, rfl, rfl, _, rfl, G4, l, p5 + 2, pl || i, rfl, g6.gh, hl, s3', hok, dep7, fun m t3 e8 G8 H8 ia mv p8 g8 e8' hp8 hia rm => ?_, fun e8 G8 H8 g8 => ?_⟩
            · subst e8'
              rw [e8] at hch4
              dsimp only at hch4
              have F8 := lMsg_facts (allOk_drop hok (p5 + 2)) e8
              have w8 := w6.trans g8.nil
              have hc8 := g8.same _ _ hc6
              have sqi := SqL.of (K := K) hia
              refine ⟨_, rfl, _, rfl, iteD (fun z => by cases z) (fun _ => ?_)⟩
              refine ⟨_, rfl, _, rfl, ia, _, _, _, rfl, rfl, sqi, rfl, _, rfl, _, rfl, ia, _, _, _, rfl, rfl, sqi, rfl, _, _, rfl, rfl, _, rfl, l, some p8, some (p8 + 1), rfl, rfl, rfl, hb, rfl, _, rfl, ?_⟩
              rcases slice_starts (w := [125]) hp8 with ⟨u1, u2, u3⟩ | ⟨u1, u2⟩
              · refine iteSN (fun z => absurd u1 z) (fun _ => ?_)
                rw [u2] at hch4
                dsimp only at hch4
                have u3' : p8 + 1 ≤ l.length := u3
                rw [show l.drop (p8 + [125].length) = l.drop (p8 + 1) from rfl] at hch4
                have hka8 := g8.same _ _ hka6
                have sqk8 := SqL.of (K := K) hka8
                refine ⟨_, rfl, ia, _, _, _, rfl, rfl, sqi, rfl, _, _, rfl, rfl, ?_⟩
                refine ⟨_, rfl, ka, _, _, _, rfl, rfl, sqk8, rfl, scal_key k _, _, rfl, iteD (fun ho => ?_) (fun ho => ?_)⟩
                · rw [if_pos ((encV_other k).mp ho)] at hch4
                  refine ⟨_, rfl, _, rfl, _, rfl, _, rfl, _, _, rfl, rfl, _, rfl, l, some (p8 + 1), some (p8 + 1 + 1), rfl, rfl, rfl, hb, rfl, _, rfl, ?_⟩
                  rcases slice_starts (w := [125]) u3' with ⟨x1, x2, x3⟩ | ⟨x1, x2⟩
                  · refine iteSN (fun z => absurd x1 z) (fun _ => ?_)
                    rw [x2] at hch4
                    dsimp only at hch4
                    have x3' : p8 + 1 + 1 ≤ l.length := x3
                    have hhd8 := g8.same _ _ (g6.same _ _ (g5.same _ _ hhd4))
                    refine ⟨_, rfl, _, rfl, _, rfl, ia, _, _, _, rfl, rfl, sqi, atI_zero _ _, by show 2 ≤ sizeLine; exact szOf (by decide), fun t2 ht2 => ?_⟩
                    have g8c : G8 c = none := w8.none upd_ne_none hcG
                    have wc : Gw [] G H (upd G8 c (.lst vs)) H8 := Gw.close s0 hc w8 hc8
                    have gt2 : Gw [] _ H8 _ _ := Gw.allocM (o := HO.tup [V.ref c, mv]) wc.gh ht2
                    refine ⟨hd2, t2, headV pl n o, _, rfl, rfl, SqT.of (gt2.same _ _ hhd8), SqT.of upd_same, ?_, ?_, fun z => (by cases z), fun _ pr hpr => ?_⟩
                    · rw [hhr]; simp
                    · refine szOf ?_
                      unfold headV; split
                      · show 5 ≤ 1000; decide
                      · show 4 ≤ 1000; decide
                    · have gp : Gw [] _ _ _ _ := Gw.alloc (o := HO.tup (headV pl n o ++ [V.ref c, mv])) gt2.gh hpr
                      have s8 : Same G8 (upd G8 c (.lst vs)) := same_upd g8c
                      refine ⟨_, rfl, _, _, rfl, rfl, by show 2 ≤ sizeLine; exact szOf (by decide), fun ra hra => ?_⟩
                      have gr : Gw [] _ _ _ _ := Gw.allocM (o := HO.lst [V.ref pr, V.int ((p8 : Int) + 1 + 1)]) gp.gh hra
                      refine q0 _ _ hch4 _ _ ra (.ref pr) (p8 + 1 + 1) (((wc.trans gt2).trans gp).trans gr) rfl x3' upd_same ?_
                      exact enc_cho (gp.gg _ _ (by rw [upd_same])) ((rv.same (g8.gg.trans s8)).same gp.gg) ((rm.same s8).same gp.gg) upd_same
                  · refine iteSN (fun _ => ?_) (fun z => absurd z x1)
                    rw [x2] at hch4
                    exact out w8 hch4
                · rw [if_neg (fun z => ho ((encV_other k).mpr z))] at hch4
                  refine ⟨_, rfl, _, rfl, _, rfl, _, rfl, _, _, rfl, rfl, _, rfl, l, some (p8 + 1), some (p8 + 1 + 1), rfl, rfl, rfl, hb, rfl, _, rfl, ?_⟩
                  rcases slice_starts (w := [32]) u3' with ⟨x1, x2, x3⟩ | ⟨x1, x2⟩
                  · refine iteSN (fun z => absurd x1 z) (fun _ => ?_)
                    rw [x2] at hch4
                    dsimp only at hch4
                    have x3' : p8 + 1 + 1 ≤ l.length := x3
                    refine ⟨_, rfl, .inl ⟨rfl, vs, SqL.of hc8⟩, _, rfl, ka, _, _, _, rfl, rfl, sqk8, rfl, _, rfl, ia, _, _, _, rfl, rfl, sqi, atI_zero _ _, by show 2 ≤ sizeLine; exact szOf (by decide), fun t ht => ?_⟩
                    have gt : Gw [] G8 H8 _ _ := Gw.alloc (o := HO.tup [encV k, mv]) (w8.gh) ht
                    have w10 := w8.trans gt.nil
                    have hc10 := gt.same _ _ hc8
                    have gw : Gw [c] _ _ _ _ := Gw.write (M := [c]) (o := HO.lst (vs ++ [V.ref t])) gt.gh (w10.none upd_ne_none hcG) (List.mem_singleton.mpr rfl)
                    have hvl : vs.length = acc.length := by rw [rv.length, encC_len]
                    refine ⟨c, vs, _, rfl, rfl, hc10, by rw [hvl, sizeLine_eq]; omega, ?_⟩
                    have hlt : (l.drop (p8 + 1 + 1)).length < (l.drop p4).length := by
                      have h1 := E7.le
                      have h2 := F8.1.le
                      rw [List.length_drop, List.length_drop] at h1 h2
                      rw [List.length_drop, List.length_drop]
                      omega
                    rw [List.length_drop, List.length_drop] at hlt
                    have E10 : Eats 0 (l.drop p4) (l.drop (p8 + 1 + 1)) := by
                      have z1 : l.drop p8 = [125] ++ l.drop (p8 + 1) := of_starts u2
                      have z2 : l.drop (p8 + 1) = [32] ++ l.drop (p8 + 1 + 1) := of_starts x2
                      have z3 : Eats (-2) (l.drop p8) (l.drop (p8 + 1 + 1)) := ⟨[125, 32], by rw [z1, z2]; rfl, by decide⟩
                      exact ((E7.trans F8.1).trans z3).mono (by decide)
                    have hhd10 := gt.same _ _ (g8.same _ _ (g6.same _ _ (g5.same _ _ hhd4)))
                    refine ⟨_, rfl, _, _, rfl, rfl, _, p8 + 1 + 1, acc ++ [(k, m)], vs ++ [V.ref t], _, _, _, _, rfl, w10.trans gw, upd_same, ?_, gw.keep hd2 _ h2c hhd10, x3', (dep4.eat E10).mono (by omega), hch4, ?_, by omega⟩
                    · rw [encC_append]
                      exact ((rv.same (g8.gg.trans gt.gg))).snoc (.tup upd_same (.cons (Rp.key k) (.cons (rm.same gt.gg) .nil)))
                    · rw [List.length_append]; show acc.length + 1 ≤ _; omega
                  · refine iteSN (fun _ => ?_) (fun z => absurd z x1)
                    rw [x2] at hch4
                    exact out w8 hch4
              · refine iteSN (fun _ => ?_) (fun z => absurd z u1)
                rw [u2] at hch4
                exact out w8 hch4
            · rw [e8] at hch4
              exact ⟨_, rfl, _, rfl, iteD (fun _ => iteT (out (w6.trans g8.nil) hch4)) (fun z => absurd rfl z)⟩
        · refine iteSN (fun _ => ?_) (fun z => absurd z s1)
          rw [s2] at hch4
          exact iteT (out w5 hch4)
      · rw [e5] at hch4
        exact ⟨_, rfl, _, rfl, iteD (fun _ => iteT (out (g4.trans g5.nil) hch4)) (fun z => absurd rfl z)⟩
    · obtain ⟨G4, p4, acc, vs, v6, v7, v8, v9, rfl, g4, hc4, rv, hhd4, hp4, dep4, hch4, hacc, hj⟩ := h
      rw [List.length_map, List.length_range] at hj
      have : l.drop p4 = [] := List.drop_eq_nil_of_le (by omega)
      rw [this, lCho_eq (by intro c hc; cases hc), lKey_nil] at hch4
      exact out g4 hch4
  refine ⟨_, rfl, hd, _, _, _, rfl, rfl, SqT.of hhd0, rfl, rfl, _, rfl, ?_⟩
  cases pl with
  | false =>
    refine iteS (fun e => absurd e (by decide)) (fun _ => ?_)
    exact loop hd _ p 0 none (Gw.refl gc0.gh) upd_same hhd0 hp dep (by unfold lChoice lOff; rw [if_neg (by simp)])
  | true =>
    refine iteS (fun _ => ?_) (fun e => absurd rfl e)
    have fin : ∀ (D : Ends) (H2 : Hp) (p1 o : Nat), Gw [] G (upd H c (.lst [])) G H2 → (∀ hd2 H3, Gw [] G (upd H c (.lst [])) G H3 → H3 hd2 = some (.tup (headV true n o)) → D.nx [some (.str (S l)), some (.int (p1 : Nat)), some (.bl (true || i)), some (.ref hd2), some (.ref c), some (.int (o : Nat)), none, none, none, none] H3) →
        tAsg (tOp (rCatT K) (tVar 3) (tTup (tCons (tVar 5) tNil))) (gName 3) D [some (.str (S l)), some (.int (p1 : Nat)), some (.bl (true || i)), some (.ref hd), some (.ref c), some (.int (o : Nat)), none, none, none, none] H2 := fun D H2 p1 o g2 hD => by
      refine ⟨_, rfl, _, rfl, by show 1 ≤ sizeLine; exact szOf (by decide), fun t ht => ?_⟩
      have gt : Gw [] G H2 G _ := Gw.allocM (o := HO.tup [V.int (o : Nat)]) g2.gh ht
      refine ⟨hd, t, _, _, rfl, rfl, SqT.of (gt.same _ _ (g2.same _ _ hhd0)), SqT.of upd_same, by simp, by show 3 ≤ sizeLine; exact szOf (by decide), fun z => (by cases z), fun _ pr hpr => ?_⟩
      exact hD pr _ ((g2.trans gt).trans (Gw.allocM gt.gh hpr)) upd_same
    refine ⟨_, rfl, _, rfl, _, rfl, _, rfl, _, _, rfl, rfl, _, rfl, l, some p, some (p + 7), rfl, rfl, rfl, hb, rfl, _, rfl, ?_⟩
    rcases slice_starts (w := tOff) hp with ⟨s1, s2, s3⟩ | ⟨s1, s2⟩
    · refine iteS (fun _ => ?_) (fun z => absurd s1 z)
      have s3' : p + 7 ≤ l.length := s3
      have hpre : tOff <+: l.drop p := by
        rw [of_starts s2]; exact List.prefix_append _ _
      have hlo : lOff true (l.drop p) = match l.drop (p + 7) with
          | d :: e :: t => if (49 ≤ d ∧ d ≤ 57) ∧ e = 32 then some (d - 48, t) else none
          | _ => none := by
        unfold lOff
        rw [if_pos ⟨rfl, hpre⟩, List.drop_drop]
        all_goals rfl
      have e7 : cutL l (some (p + 7)) (some (p + 8)) = (l.drop (p + 7)).take 1 := by
        show (l.drop (p + 7)).take (p + 8 - (p + 7)) = _
        have : p + 8 - (p + 7) = 1 := by omega
        rw [this]
      have e8 : cutL l (some (p + 8)) (some (p + 9)) = (l.drop (p + 8)).take 1 := by
        show (l.drop (p + 8)).take (p + 9 - (p + 8)) = _
        have : p + 9 - (p + 8) = 1 := by omega
        rw [this]
      have bad : lOff true (l.drop p) = none → ∀ H', Gw [] G (upd H c (.lst [])) G H' → Q .non H' := fun z H' g => q1 (by unfold lChoice; rw [z]) _ _ (gc0.trans g)
      refine ⟨_, rfl, _, rfl, _, _, rfl, rfl, _, rfl, _, rfl, _, _, rfl, rfl, _, rfl, l, some (p + 7), some (p + 8), rfl, rfl, rfl, hb, ?_⟩
      rw [e7]
      refine ⟨_, rfl, by decide, fun lt hlt => ?_⟩
      have g1 : Gw [] G _ G _ := Gw.allocM (o := HO.lst ([49, 50, 51, 52, 53, 54, 55, 56, 57].map fun c => V.str (S [c]))) gc0.gh hlt
      refine ⟨lt, ([49, 50, 51, 52, 53, 54, 55, 56, 57].map fun c => [c]).map fun c => V.str (S c), rfl, .inl (SqL.of upd_same), rfl, all_strs _, _, rfl, ?_⟩
      rw [in_strs]
      refine iteDN (fun hd7 => ?_) (fun hd7 => ?_)
      · refine iteT (bad ?_ _ g1)
        rw [hlo]
        split
        · next d e t z =>
          rw [if_neg]
          intro y
          apply hd7
          rw [z]
          have : d = 49 ∨ d = 50 ∨ d = 51 ∨ d = 52 ∨ d = 53 ∨ d = 54 ∨ d = 55 ∨ d = 56 ∨ d = 57 := by omega
          simp
          omega
        · rfl
      · cases hz : l.drop (p + 7) with
        | nil => rw [hz] at hd7; exact absurd hd7 (by decide)
        | cons d r =>
          rw [hz] at hd7
          have hd49 : 49 ≤ d ∧ d ≤ 57 := by
            simp at hd7
            omega
          obtain ⟨y1, y2, y3⟩ := drop_cons hz
          have y3' : l.drop (p + 8) = r := y3
          refine ⟨_, rfl, _, rfl, _, _, rfl, rfl, _, rfl, _, rfl, _, _, rfl, rfl, _, rfl, l, some (p + 8), some (p + 9), rfl, rfl, rfl, hb, ?_⟩
          rw [e8, y3']
          refine ⟨rfl, _, rfl, iteSN (fun hne => ?_) (fun he => ?_)⟩
          · refine bad ?_ _ g1
            rw [hlo, hz]
            cases r with
            | nil => rfl
            | cons e t =>
              dsimp only
              rw [if_neg]
              intro y
              exact hne (by rw [y.2]; rfl)
          · cases r with
            | nil => cases he
            | cons e t =>
              have he32 : e = 32 := by simpa using he
              subst he32
              obtain ⟨z1, z2, z3⟩ := drop_cons y3'
              have z3' : l.drop (p + 9) = t := z3
              rw [hz] at hlo
              dsimp only at hlo
              rw [if_pos ⟨hd49, rfl⟩] at hlo
              have hdg : [d].all isDig = true := by
                unfold isDig; simp; omega
              have hv : NumText.digitsVal [d] = d - 48 := by simp [NumText.digitsVal]
              refine ⟨_, rfl, _, rfl, _, _, rfl, rfl, l, _, p + 7, d, rfl, rfl, rfl, hb, y1, [d], rfl, hdg, by simp, by show 1 ≤ 600; decide, ?_⟩
              refine ⟨_, rfl, _, _, rfl, rfl, ?_⟩
              rw [hv]
              refine fin _ _ (p + 9) (d - 48) g1 (fun hd2 H3 g3 hh => ?_)
              refine loop hd2 H3 (p + 9) (d - 48) (some (V.int ((d - 48 : Nat) : Int))) g3.nil (g3.same _ _ upd_same) hh (by omega) ?_ ?_
              · rw [z3']
                have E : Eats 0 (l.drop p) t := by
                  refine ⟨tOff ++ [d, 32], ?_, ?_⟩
                  · have := of_starts s2
                    rw [this, show l.drop (p + tOff.length) = l.drop (p + 7) from rfl, hz]; simp
                  · have : wt d = 0 := by unfold wt; rw [if_neg (by omega), if_neg (by omega), if_neg (by omega), if_neg (by omega)]
                    show 0 ≤ wS (tOff ++ [d, 32])
                    rw [wS_append]
                    have e1 : wS tOff = 0 := by decide
                    have e2 : wS [d, 32] = wt d + (wt 32 + 0) := rfl
                    have e3 : wt 32 = 0 := by decide
                    rw [e1, e2, this, e3]; decide
                exact (dep.eat E).mono (by omega)
              · unfold lChoice
                rw [hlo, z3']
    · refine iteS (fun z => absurd z s1) (fun _ => ?_)
      have hnp : ¬ (true = true ∧ tOff <+: l.drop p) := by
        intro z
        unfold starts at s2
        rw [if_pos z.2] at s2
        cases s2
      refine fin _ _ p 0 (Gw.refl gc0.gh) (fun hd2 H3 g3 hh => ?_)
      exact loop hd2 H3 p 0 (some (V.int ((0 : Nat) : Int))) g3.nil (g3.same _ _ upd_same) hh hp dep (by unfold lChoice lOff; rw [if_neg hnp])
end
end Mw

set_option Elab.async false
set_option linter.all false
set_option maxRecDepth 100000
set_option maxHeartbeats 4000000
/-! MwL4: the law's node and parsed. -/
namespace Mw
open PySem PySem.Spec L2
open SX (S S_cat S_len S_inj)
theorem lOff_le {pl : Bool} {r t : List Nat} {o : Nat} (h : lOff pl r = some (o, t)) : t.length ≤ r.length := by
  unfold lOff at h
  split at h
  · next hp =>
    have e : (r.drop 7).length ≤ r.length := by rw [List.length_drop]; omega
    split at h
    · next d e' t' hz =>
      split at h
      · cases h
        rw [hz] at e
        simp only [List.length_cons] at e
        omega
      · cases h
    · cases h
  · cases h; exact Nat.le_refl _
theorem lNode_brace (i : Bool) (s : List Nat) : lNode i (123 :: s) = if s.takeWhile isLet = [] ∨ 8 < (s.takeWhile isLet).length then none else
    match starts [125] (s.dropWhile isLet) with
    | some r3 => some (.shw (s.takeWhile isLet), r3)
    | none => match starts ([44, 32] ++ tSel ++ [44, 32]) (s.dropWhile isLet) with
      | some r5 => lChoice i false (s.takeWhile isLet) r5
      | none => match starts ([44, 32] ++ tPlu ++ [44, 32]) (s.dropWhile isLet) with
        | some r5 => lChoice i true (s.takeWhile isLet) r5
        | none => none := by
  conv => lhs; unfold lNode
  rw [if_neg (by decide), if_neg (by decide), if_neg (by decide)]
  have hd : (s.dropWhile isLet).length ≤ s.length := (List.dropWhile_sublist _).length_le
  generalize s.takeWhile isLet = nm
  generalize s.dropWhile isLet = r2 at hd ⊢
  by_cases hn : nm = [] ∨ 8 < nm.length
  · rw [if_pos hn, if_pos hn]
  · rw [if_neg hn, if_neg hn]
    cases r2 with
    | nil => rfl
    | cons d r3 =>
      dsimp only
      by_cases h125 : d = 125
      · subst h125
        rw [if_pos rfl, show starts [125] (125 :: r3) = some r3 from starts_app [125] r3]
      · rw [if_neg h125, show starts [125] (d :: r3) = none by
          unfold starts; rw [if_neg]; rintro ⟨u, z⟩; exact h125 (List.cons.inj z).1.symm]
        dsimp only
        cases h1 : starts ([44, 32] ++ tSel ++ [44, 32]) (d :: r3) with
        | some r5 =>
          have e := of_starts h1
          dsimp only
          have hl : r5.length < (123 :: s).length := by
            rw [e] at hd
            simp only [List.length_append, List.length_cons] at hd ⊢
            omega
          rw [dif_pos hl]
          unfold lChoice lOff
          rw [if_neg (by simp)]
        | none =>
          dsimp only
          cases h2 : starts ([44, 32] ++ tPlu ++ [44, 32]) (d :: r3) with
          | none => rfl
          | some r5 =>
            have e := of_starts h2
            dsimp only
            unfold lChoice
            cases h3 : lOff true r5 with
            | none => rfl
            | some q =>
              obtain ⟨o, r6⟩ := q
              have e2 := lOff_le h3
              dsimp only
              rw [dif_pos (by rw [e] at hd; simp only [List.length_append, List.length_cons] at hd ⊢; omega)]
theorem lMsg_cons {i : Bool} {acc : List Nd} {c : Nat} {t : List Nat} (hok : allOk (c :: t)) (h : c ≠ 125) : lMsg i acc (c :: t) = match lNode i (c :: t) with
    | none => none
    | some (x, u) => lMsg i (pushN acc x) u := by
  conv => lhs; unfold lMsg
  rw [if_neg h]
  cases h1 : lNode i (c :: t) with
  | none => rfl
  | some q =>
    obtain ⟨x, u⟩ := q
    have := (lNode_facts hok (fun s z => h (List.cons.inj z).1) h1).2.1
    dsimp only
    rw [dif_pos this]
theorem lNode_txt {i : Bool} {r : List Nat} {s : List Nat} {t : List Nat} (hok : allOk r) (h125 : ∀ s, r ≠ 125 :: s) (h : lNode i r = some (.txt s, t)) : s ≠ [] := by
  obtain ⟨x', h1, h2, h3⟩ := (law_read r.length).2.1 _ _ _ _ (Nat.le_refl _) hok h125 h
  have p1 := (parsed_node h1).2.1
  cases x' with
  | txt s' =>
    rw [plainN] at h2
    cases h2
    unfold wfN at p1
    exact p1.1
  | shw n => rw [plainN] at h2; cases h2
  | num => rw [plainN] at h2; cases h2
  | cho pl n off cs ot => rw [plainN] at h2; cases h2
theorem push_len (acc : List Nd) (x : Nd) : (pushN acc x).length ≤ acc.length + 1 := by
  cases x with
  | txt s =>
    by_cases z : ∃ b t, acc = b ++ [.txt t]
    · obtain ⟨b, t, rfl⟩ := z
      rw [pushN_merge]; simp
    · rw [pushN_new acc s (fun b t e => z ⟨b, t, e⟩)]
      split
      · omega
      · simp
  | shw n => rw [pushN_other _ _ rfl]; simp
  | num => rw [pushN_other _ _ rfl]; simp
  | cho pl n off cs ot => rw [pushN_other _ _ rfl]; simp
section
variable {P : Program} {w : World} {K : PySem.W.Frag} {mg : Str → Option Value} {base : Heap}
def spLNode (K : PySem.W.Frag) (N : Int) : Sp := fun vs H Q _ => ∃ G l, ∃ (p : Nat) (i : Bool), vs = [.str (S l), .int (p : Nat), .bl i] ∧ Same G H ∧ l.length ≤ 100000 ∧ p < l.length ∧ allOk l ∧ Dep (l.drop p) N ∧
  (∀ x t, lNode i (l.drop p) = some (x, t) → ∀ G' H' a v (p' : Nat), Gw [] G H G' H' → l.drop p' = t → p' ≤ l.length → H' a = some (.lst [v, .int (p' : Nat)]) → Rp G' v (encN x) → Q (.ref a) H') ∧
  (lNode i (l.drop p) = none → ∀ G' H', Gw [] G H G' H' → Q .non H')
theorem ok_law_node (T : Tx K mg) {km : Nat} {N : Int} (hkm : 2 ≤ km) (c_law_choice : C8.Cal P w K mg base km "_law_choice" (spLCho K (N - 2)) []) : C8.Cal P w K mg base (km + 1) "_law_node" (spLNode K N) [] := by
  refine cal_of T.d_law_node T.g_law_node (fun _ _ _ _ _ _ us hl => match us, hl with | [_, _, _], _ => rfl) sc_law_node (fun vs H Q E h => ?_) (fun cdv A outer s H vs Q E hr h => ?_)
  · obtain ⟨G, l, p, i, rfl, _⟩ := h; rfl
  obtain ⟨G, l, p, i, rfl, s0, hl, hp, hok, dep, q0, q1⟩ := h
  have c_law_word : C8.Cal P w K mg base 1 "_law_word" spLWord [] := ok_law_word T
  refine ⟨_, (pss_cons (ps_set (i := 3) sc_law_node.nd rfl (Or.inl rfl) (pe_ix ix_S (pv 0) (pv 1) (fun _ _ => rfl)))
    (pss_cons (ps_if (pt_cmpR op_eq (pv 3) (pe_s [39]) (nomark _))
      (pss_cons (ps_for PassesOwn.never rfl (pi_list (pe_lst (pa_cons (pe_tup (pa_cons (pe_s [39, 39]) (pa_cons (pe_s [39]) pa_nil))) (pa_cons (pe_tup (pa_cons (pe_s [39, 123, 39]) (pa_cons (pe_s [123]) pa_nil))) (pa_cons (pe_tup (pa_cons (pe_s [39, 125, 39]) (pa_cons (pe_s [125]) pa_nil))) (pa_cons (pe_tup (pa_cons (pe_s [39, 35, 39]) (pa_cons (pe_s [35]) pa_nil))) pa_nil)))))) (pg_tup rfl (pgs_cons (pg_name (i := 4) sc_law_node.nd rfl (Or.inl rfl)) (pgs_cons (pg_name (i := 5) sc_law_node.nd rfl (Or.inl rfl)) pgs_nil)))
        (pss_one (ps_if (pt_cmpR op_eq (pe_slice sl_S (pv 0) (po_some (pv 1)) (po_some (pe_op op_add (pv 1) (pe_callB call_lenS (by rfl) T.f_len (by decide +kernel) (pa_cons (pv 4) pa_nil))))) (pv 4) (nomark _))
          (pss_one (ps_ret (pe_lst (pa_cons (pe_tup (pa_cons (pe_s [116, 101, 120, 116]) (pa_cons (pv 5) pa_nil))) (pa_cons (pe_op op_add (pv 1) (pe_callB call_lenS (by rfl) T.f_len (by decide +kernel) (pa_cons (pv 4) pa_nil))) pa_nil)))))
          pss_nil)))
      (pss_one (ps_ret pe_non)))
      pss_nil)
    (pss_cons (ps_if (pt_cmpR op_eq (pv 3) (pe_s [35]) (nomark _))
      (pss_one (ps_ret (pe_ix ix_list (pe_lst (pa_cons (pe_lst (pa_cons (pe_tup (pa_cons (pe_s [110, 117, 109, 98, 101, 114]) pa_nil)) (pa_cons (pe_op op_add (pv 1) pe_int) pa_nil))) (pa_cons pe_non pa_nil))) (pe_callTy call_int1 (by rfl) T.f_int (by decide +kernel) (pa_cons (pe_not (pv 2)) pa_nil)) (fun _ _ => rfl))))
      pss_nil)
    (pss_cons (ps_if (pt_cmpR op_ne (pv 3) (pe_s [123]) (nomark _))
      (pss_one (ps_ret (pe_lst (pa_cons (pe_tup (pa_cons (pe_s [116, 101, 120, 116]) (pa_cons (pv 3) pa_nil))) (pa_cons (pe_op op_add (pv 1) pe_int) pa_nil)))))
      pss_nil)
    (pss_cons (ps_set (i := 6) sc_law_node.nd rfl (Or.inl rfl) (C8.pe_c c_law_word hr (by omega) rfl (pa_cons (pv 0) (pa_cons (pe_op op_add (pv 1) pe_int) pa_nil))))
    (pss_cons (ps_set (i := 1) sc_law_node.nd rfl (Or.inl rfl) (pe_op op_add (pe_op op_add (pv 1) pe_int) (pe_callB call_lenS (by rfl) T.f_len (by decide +kernel) (pa_cons (pv 6) pa_nil))))
    (pss_cons (ps_if (PW.pt (pw_or (pt_cmpR op_eq (pv 6) (pe_s []) (nomark _)) (pw_or1 (pt_cmpR op_gt (pe_callB call_lenS (by rfl) T.f_len (by decide +kernel) (pa_cons (pv 6) pa_nil)) pe_int (nomark _)))))
      (pss_one (ps_ret pe_non))
      pss_nil)
    (pss_cons (ps_if (pt_cmpR op_eq (pe_slice sl_S (pv 0) (po_some (pv 1)) (po_some (pe_op op_add (pv 1) pe_int))) (pe_s [125]) (nomark _))
      (pss_one (ps_ret (pe_lst (pa_cons (pe_tup (pa_cons (pe_s [115, 104, 111, 119]) (pa_cons (pv 6) pa_nil))) (pa_cons (pe_op op_add (pv 1) pe_int) pa_nil)))))
      pss_nil)
    (pss_cons (ps_if (pt_cmpR op_eq (pe_slice sl_S (pv 0) (po_some (pv 1)) (po_some (pe_op op_add (pv 1) pe_int))) (pe_s [44, 32, 115, 101, 108, 101, 99, 116, 44, 32]) (nomark _))
      (pss_one (ps_ret (C8.pe_c c_law_choice hr (by omega) rfl (pa_cons (pv 0) (pa_cons (pe_op op_add (pv 1) pe_int) (pa_cons (pv 2) (pa_cons (pe_tup (pa_cons (pe_s [115, 101, 108, 101, 99, 116]) (pa_cons (pv 6) pa_nil))) pa_nil)))))))
      pss_nil)
    (pss_cons (ps_if (pt_cmpR op_eq (pe_slice sl_S (pv 0) (po_some (pv 1)) (po_some (pe_op op_add (pv 1) pe_int))) (pe_s [44, 32, 112, 108, 117, 114, 97, 108, 44, 32]) (nomark _))
      (pss_one (ps_ret (C8.pe_c c_law_choice hr (by omega) rfl (pa_cons (pv 0) (pa_cons (pe_op op_add (pv 1) pe_int) (pa_cons pe_bl (pa_cons (pe_tup (pa_cons (pe_s [112, 108, 117, 114, 97, 108]) (pa_cons (pv 6) pa_nil))) pa_nil)))))))
      pss_nil)
    (pss_one (ps_ret pe_non)))))))))))), ?_⟩
  have hb : l.length ≤ big := Nat.le_trans hl (by decide)
  have hget := List.getElem?_eq_getElem hp
  have hdr := drop_some hget
  refine ⟨_, rfl, _, rfl, l, _, p, l[p], rfl, rfl, rfl, hb, hget, ?_⟩
  generalize l[p] = c at hget hdr
  have h2 : l.drop (p + 1) = (l.drop p).tail := by rw [List.tail_drop]
  refine ⟨_, rfl, rfl, _, rfl, iteS (fun e => ?_) (fun e => ?_)⟩
  · obtain rfl : c = 39 := (List.cons.inj e).1
    have hn : lNode i (l.drop p) = (lEsc lEscs (l.drop p)).map fun p => (.txt [p.1], p.2) := by
      rw [hdr]; unfold lNode; rfl
    rw [hn] at q0 q1
    refine ⟨by show 2 ≤ sizeLine; exact szOf (by decide), fun t1 ht1 => ?_⟩
    have g1 : Gw [] G H G _ := Gw.allocM (o := HO.tup [V.str (S [39, 39]), V.str (S [39])]) s0 ht1
    refine ⟨by show 2 ≤ sizeLine; exact szOf (by decide), fun t2 ht2 => ?_⟩
    have g2 : Gw [] G _ G _ := Gw.allocM (o := HO.tup [V.str (S [39, 123, 39]), V.str (S [123])]) g1.gh ht2
    refine ⟨by show 2 ≤ sizeLine; exact szOf (by decide), fun t3 ht3 => ?_⟩
    have g3 : Gw [] G _ G _ := Gw.allocM (o := HO.tup [V.str (S [39, 125, 39]), V.str (S [125])]) g2.gh ht3
    refine ⟨by show 2 ≤ sizeLine; exact szOf (by decide), fun t4 ht4 => ?_⟩
    have g4 : Gw [] G _ G _ := Gw.allocM (o := HO.tup [V.str (S [39, 35, 39]), V.str (S [35])]) g3.gh ht4
    refine ⟨by show 4 ≤ sizeLine; exact szOf (by decide), fun lt hlt => ?_⟩
    have g5 : Gw [] G _ G _ := Gw.allocM (o := HO.lst [V.ref t1, V.ref t2, V.ref t3, V.ref t4]) g4.gh hlt
    have w5 := (((g1.trans g2).trans g3).trans g4).trans g5
    have m1 := g5.same _ _ (g4.same _ _ (g3.same _ _ (g2.same _ _ (upd_same (H := H) (a := t1) (o := HO.tup [V.str (S [39, 39]), V.str (S [39])])))))
    have m2 := g5.same _ _ (g4.same _ _ (g3.same _ _ (upd_same (a := t2) (o := HO.tup [V.str (S [39, 123, 39]), V.str (S [123])]))))
    have m3 := g5.same _ _ (g4.same _ _ (upd_same (a := t3) (o := HO.tup [V.str (S [39, 125, 39]), V.str (S [125])])))
    have m4 := g5.same _ _ (upd_same (a := t4) (o := HO.tup [V.str (S [39, 35, 39]), V.str (S [35])]))
    have hlt5 : _ = some (HO.lst [V.ref t1, V.ref t2, V.ref t3, V.ref t4]) := upd_same (H := upd (upd (upd (upd H t1 (HO.tup [V.str (S [39, 39]), V.str (S [39])])) t2 (HO.tup [V.str (S [39, 123, 39]), V.str (S [123])])) t3 (HO.tup [V.str (S [39, 125, 39]), V.str (S [125])])) t4 (HO.tup [V.str (S [39, 35, 39]), V.str (S [35])])) (a := lt)
    generalize upd (upd (upd (upd (upd H t1 (HO.tup [V.str (S [39, 39]), V.str (S [39])])) t2 (HO.tup [V.str (S [39, 123, 39]), V.str (S [123])])) t3 (HO.tup [V.str (S [39, 125, 39]), V.str (S [125])])) t4 (HO.tup [V.str (S [39, 35, 39]), V.str (S [35])])) lt (HO.lst [V.ref t1, V.ref t2, V.ref t3, V.ref t4]) = H5 at g5 w5 m1 m2 m3 m4 hlt5 ⊢
    have items : ∀ (j : Nat) (v : V), [V.ref t1, V.ref t2, V.ref t3, V.ref t4][j]? = some v → ∃ (wd : List Nat) (d : Nat) (t : Addr), lEscs[j]? = some (wd, d) ∧ v = .ref t ∧ H5 t = some (.tup [.str (S wd), .str (S [d])]) := by
      intro j v hv
      match j, hv with
      | 0, hv => cases hv; exact ⟨_, _, t1, rfl, rfl, m1⟩
      | 1, hv => cases hv; exact ⟨_, _, t2, rfl, rfl, m2⟩
      | 2, hv => cases hv; exact ⟨_, _, t3, rfl, rfl, m3⟩
      | 3, hv => cases hv; exact ⟨_, _, t4, rfl, rfl, m4⟩
      | j + 4, hv => simp at hv
    refine ⟨lt, rfl, ⟨_, SqL.of hlt5⟩, for_over (runs_l (xs := [V.ref t1, V.ref t2, V.ref t3, V.ref t4])) (fun j σ H' => H' = H5 ∧ ∃ v4 v5, σ = [some (.str (S l)), some (.int (p : Nat)), some (.bl i), some (.str (S [39])), v4, v5, none] ∧ lEsc lEscs (l.drop p) = lEsc (lEscs.drop j) (l.drop p)) (fun j σ H' h => by rw [h.1]; exact SqL.of hlt5)
      ⟨rfl, none, none, rfl, rfl⟩ (fun j xv σ H' hx h => ?_) (fun σ H' h => ?_)⟩
    · obtain ⟨rfl, v4, v5, rfl, he⟩ := h
      obtain ⟨wd, d, t, hq, rfl, ht⟩ := items j xv hx
      have hdd : lEscs.drop j = (wd, d) :: lEscs.drop (j + 1) := by
        obtain ⟨h1, h2⟩ := List.getElem?_eq_some_iff.mp hq
        rw [List.drop_eq_getElem_cons h1, h2]
      have hwl : wd.length ≤ 3 := by
        have := List.mem_of_getElem? hq
        simp [lEscs] at this
        rcases this with h | h | h | h <;> rw [h.1] <;> decide
      rw [hdd] at he
      refine ⟨t, _, rfl, SqT.of ht, rfl, _, _, rfl, _, _, rfl, rfl, ?_⟩
      refine ⟨_, rfl, _, rfl, _, rfl, _, rfl, _, rfl, wd, rfl, Nat.le_trans hwl (by decide), _, _, rfl, rfl, _, rfl, l, some p, some (p + wd.length), rfl, rfl, rfl, hb, _, rfl, rfl, _, rfl, ?_⟩
      rcases slice_starts (w := wd) (Nat.le_of_lt hp) with ⟨s1, s2, s3⟩ | ⟨s1, s2⟩
      · refine iteS (fun _ => ?_) (fun z => absurd s1 z)
        have hpre : wd <+: l.drop p := by rw [of_starts s2]; exact List.prefix_append _ _
        have hes : lEsc lEscs (l.drop p) = some (d, l.drop (p + wd.length)) := by
          rw [he]
          show (if wd <+: l.drop p then some (d, (l.drop p).drop wd.length) else _) = _
          rw [if_pos hpre, List.drop_drop]
        refine ⟨_, rfl, by show 2 ≤ sizeLine; exact szOf (by decide), fun tt htt => ?_⟩
        have g6 : Gw [] G _ _ _ := Gw.alloc (o := HO.tup [V.str (S tText), V.str (S [d])]) w5.gh htt
        refine ⟨_, rfl, _, rfl, wd, rfl, Nat.le_trans hwl (by decide), _, _, rfl, rfl, by show 2 ≤ sizeLine; exact szOf (by decide), fun ra hra => ?_⟩
        exact q0 (.txt [d]) _ (by rw [hes]; rfl) _ _ ra _ (p + wd.length) ((w5.trans g6).trans (Gw.allocM g6.gh hra)) rfl s3 upd_same (.tup upd_same (.cons (.str _) (.cons (.str _) .nil)))
      · refine iteS (fun z => absurd z s1) (fun _ => ?_)
        refine ⟨rfl, _, _, rfl, ?_⟩
        rw [he]
        show (if wd <+: l.drop p then some (d, (l.drop p).drop wd.length) else _) = _
        rw [if_neg]
        intro z
        unfold starts at s2
        rw [if_pos z] at s2; cases s2
    · obtain ⟨rfl, v4, v5, rfl, he⟩ := h
      refine q1 ?_ G _ w5
      rw [he]; rfl
  have n39 : c ≠ 39 := fun z => e (by rw [z])
  refine ⟨_, rfl, rfl, _, rfl, iteS (fun e2 => ?_) (fun e2 => ?_)⟩
  · obtain rfl : c = 35 := (List.cons.inj e2).1
    have hn : lNode i (l.drop p) = if i = true then some (.num, l.drop (p + 1)) else none := by
      rw [hdr]; unfold lNode; rfl
    rw [hn] at q0 q1
    refine ⟨by show 1 ≤ sizeLine; exact szOf (by decide), fun tt htt => ?_⟩
    have g1 : Gw [] G H _ _ := Gw.alloc (o := HO.tup [V.str (S tNum)]) s0 htt
    refine ⟨_, rfl, _, _, rfl, rfl, by show 2 ≤ sizeLine; exact szOf (by decide), fun ra hra => ?_⟩
    have g2 : Gw [] _ _ _ _ := Gw.allocM (o := HO.lst [V.ref tt, V.int ((p : Int) + 1)]) g1.gh hra
    refine ⟨by show 2 ≤ sizeLine; exact szOf (by decide), fun la hla => ?_⟩
    have g3 : Gw [] _ _ _ _ := Gw.allocM (o := HO.lst [V.ref ra, V.non]) g2.gh hla
    have w3 := (g1.trans g2).trans g3
    cases i with
    | true =>
      refine ⟨_, rfl, _, rfl, .inr ⟨_, rfl, la, _, _, _, rfl, rfl, SqL.of upd_same, rfl, ?_⟩⟩
      exact q0 .num _ (if_pos rfl) _ _ ra _ (p + 1) w3 rfl hp (g3.same _ _ upd_same) (.tup upd_same (.cons (.str _) .nil))
    | false =>
      refine ⟨_, rfl, _, rfl, .inr ⟨_, rfl, la, _, _, _, rfl, rfl, SqL.of upd_same, rfl, ?_⟩⟩
      exact q1 (if_neg (by decide)) _ _ w3
  have n35 : c ≠ 35 := fun z => e2 (by rw [z])
  refine ⟨_, rfl, rfl, _, rfl, iteSN (fun e3 => ?_) (fun e3 => ?_)⟩
  · have n123 : c ≠ 123 := fun z => e3 (by rw [z])
    have hn : lNode i (l.drop p) = some (.txt [c], l.drop (p + 1)) := by
      rw [hdr]; unfold lNode
      rw [if_neg n39, if_neg n35, if_pos n123]
    refine ⟨_, rfl, by show 2 ≤ sizeLine; exact szOf (by decide), fun tt htt => ?_⟩
    have g1 : Gw [] G H _ _ := Gw.alloc (o := HO.tup [V.str (S tText), V.str (S [c])]) s0 htt
    refine ⟨_, rfl, _, _, rfl, rfl, by show 2 ≤ sizeLine; exact szOf (by decide), fun ra hra => ?_⟩
    exact q0 (.txt [c]) _ hn _ _ ra _ (p + 1) (g1.trans (Gw.allocM g1.gh hra)) rfl hp upd_same (.tup upd_same (.cons (.str _) (.cons (.str _) .nil)))
  · obtain rfl : c = 123 := (List.cons.inj e3).1
    rw [hdr] at q0 q1
    rw [lNode_brace] at q0 q1
    refine ⟨_, rfl, _, rfl, _, _, rfl, rfl, l, p + 1, rfl, hl, ?_⟩
    have hwl : ((l.drop (p + 1)).takeWhile isLet).length ≤ (l.drop (p + 1)).length := takeWhile_le _ _
    rw [List.length_drop] at hwl
    have er2 : l.drop (p + 1 + ((l.drop (p + 1)).takeWhile isLet).length) = (l.drop (p + 1)).dropWhile isLet := by rw [← List.drop_drop, drop_takeWhile]
    rw [← er2] at q0 q1
    have E2 : Eats 2 (l.drop p) (l.drop (p + 1 + ((l.drop (p + 1)).takeWhile isLet).length)) := by
      rw [er2, hdr]
      exact ((Eats.cons 123 _).trans (Eats.while (fun _ h => wt_let h) _)).mono (by decide)
    generalize (l.drop (p + 1)).takeWhile isLet = W at hwl er2 q0 q1 E2 ⊢
    have hWb : W.length ≤ big := by unfold big; omega
    have hp2 : p + 1 + W.length ≤ l.length := by omega
    refine ⟨_, rfl, _, _, rfl, rfl, _, rfl, W, rfl, hWb, _, _, rfl, rfl, ?_⟩
    refine ⟨_, rfl, rfl, _, rfl, iteS (fun ew => iteT (q1 (by rw [if_pos (.inl ew)]) _ _ (Gw.refl s0))) (fun ew => ?_)⟩
    refine ⟨_, rfl, W, rfl, hWb, _, _, rfl, rfl, _, rfl, iteD (fun h8 => q1 (by rw [if_pos (.inr (by omega))]) _ _ (Gw.refl s0)) (fun h8 => ?_)⟩
    have hcond : ¬ (W = [] ∨ 8 < W.length) := by
      rintro (z | z)
      · exact ew z
      · omega
    rw [if_neg hcond] at q0 q1
    refine ⟨_, rfl, _, rfl, _, rfl, _, rfl, _, _, rfl, rfl, _, rfl, l, some (p + 1 + W.length), some (p + 1 + W.length + 1), rfl, rfl, rfl, hb, rfl, _, rfl, ?_⟩
    rcases slice_starts (w := [125]) hp2 with ⟨s1, s2, s3⟩ | ⟨s1, s2⟩
    · refine iteS (fun _ => ?_) (fun z => absurd s1 z)
      rw [s2] at q0
      refine ⟨_, rfl, by show 2 ≤ sizeLine; exact szOf (by decide), fun tt htt => ?_⟩
      have g1 : Gw [] G H _ _ := Gw.alloc (o := HO.tup [V.str (S tShow), V.str (S W)]) s0 htt
      refine ⟨_, rfl, _, _, rfl, rfl, by show 2 ≤ sizeLine; exact szOf (by decide), fun ra hra => ?_⟩
      exact q0 _ _ rfl _ _ ra _ (p + 1 + W.length + 1) (g1.trans (Gw.allocM g1.gh hra)) rfl s3 upd_same (.tup upd_same (.cons (.str _) (.cons (.str _) .nil)))
    · refine iteS (fun z => absurd z s1) (fun _ => ?_)
      rw [s2] at q0 q1
      dsimp only at q0 q1
      refine ⟨_, rfl, _, rfl, _, rfl, _, rfl, _, _, rfl, rfl, _, rfl, l, some (p + 1 + W.length), some (p + 1 + W.length + 10), rfl, rfl, rfl, hb, rfl, _, rfl, ?_⟩
      rcases slice_starts (w := [44, 32] ++ tSel ++ [44, 32]) hp2 with ⟨x1, x2, x3⟩ | ⟨x1, x2⟩
      · refine iteS (fun _ => ?_) (fun z => absurd x1 z)
        rw [x2] at q0 q1
        have e10 : l.drop (p + 1 + W.length + ([44, 32] ++ tSel ++ [44, 32]).length) = l.drop (p + 1 + W.length + 10) := rfl
        rw [e10] at q0 q1
        have x3' : p + 1 + W.length + 10 ≤ l.length := x3
        refine ⟨_, rfl, _, rfl, _, _, rfl, rfl, _, rfl, _, rfl, by show 2 ≤ sizeLine; exact szOf (by decide), fun hd hhd => ?_⟩
        have g1 : Gw [] G H G _ := Gw.allocM (o := HO.tup [V.str (S tSel), V.str (S W)]) s0 hhd
        have E3 : Eats 2 (l.drop p) (l.drop (p + 1 + W.length + 10)) := by
          have z := of_starts x2
          rw [e10] at z
          exact (E2.trans (show Eats 0 (l.drop (p + 1 + W.length)) _ from ⟨_, z, by decide⟩)).mono (by decide)
        refine ⟨G, l, hd, W, p + 1 + W.length + 10, i, false, rfl, g1.gh, upd_same, hl, x3', hok, dep.eat E3, fun x t hx G' H' a v p' g hpt hple ha rv => q0 x t hx G' H' a v p' (g1.trans g) hpt hple ha rv, fun hx G' H' g => q1 hx G' H' (g1.trans g)⟩
      · refine iteS (fun z => absurd z x1) (fun _ => ?_)
        rw [x2] at q0 q1
        dsimp only at q0 q1
        refine ⟨_, rfl, _, rfl, _, rfl, _, rfl, _, _, rfl, rfl, _, rfl, l, some (p + 1 + W.length), some (p + 1 + W.length + 10), rfl, rfl, rfl, hb, rfl, _, rfl, ?_⟩
        rcases slice_starts (w := [44, 32] ++ tPlu ++ [44, 32]) hp2 with ⟨y1, y2, y3⟩ | ⟨y1, y2⟩
        · refine iteS (fun _ => ?_) (fun z => absurd y1 z)
          rw [y2] at q0 q1
          have e10 : l.drop (p + 1 + W.length + ([44, 32] ++ tPlu ++ [44, 32]).length) = l.drop (p + 1 + W.length + 10) := rfl
          rw [e10] at q0 q1
          have y3' : p + 1 + W.length + 10 ≤ l.length := y3
          refine ⟨_, rfl, _, rfl, _, _, rfl, rfl, _, rfl, by show 2 ≤ sizeLine; exact szOf (by decide), fun hd hhd => ?_⟩
          have g1 : Gw [] G H G _ := Gw.allocM (o := HO.tup [V.str (S tPlu), V.str (S W)]) s0 hhd
          have E3 : Eats 2 (l.drop p) (l.drop (p + 1 + W.length + 10)) := by
            have z := of_starts y2
            rw [e10] at z
            exact (E2.trans (show Eats 0 (l.drop (p + 1 + W.length)) _ from ⟨_, z, by decide⟩)).mono (by decide)
          refine ⟨G, l, hd, W, p + 1 + W.length + 10, i, true, rfl, g1.gh, upd_same, hl, y3', hok, dep.eat E3, fun x t hx G' H' a v p' g hpt hple ha rv => q0 x t hx G' H' a v p' (g1.trans g) hpt hple ha rv, fun hx G' H' g => q1 hx G' H' (g1.trans g)⟩
        · refine iteS (fun z => absurd z y1) (fun _ => ?_)
          rw [y2] at q1
          exact q1 rfl _ _ (Gw.refl s0)
end
end Mw

set_option Elab.async false
set_option linter.all false
set_option maxRecDepth 100000
set_option maxHeartbeats 4000000
/-! MwL5: the law's parsed; the law's reader whole. -/
namespace Mw
open PySem PySem.Spec L2
open SX (S S_cat S_len S_inj)
section
variable {P : Program} {w : World} {K : PySem.W.Frag} {mg : Str → Option Value} {base : Heap}
theorem ok_law_parsed (T : Tx K mg) {km : Nat} {N : Int} (hkm : 2 ≤ km) (c_law_node : C8.Cal P w K mg base km "_law_node" (spLNode K N) []) : C8.Cal P w K mg base (km + 1) "_law_parsed" (spLMsg K N) [] := by
  refine cal_of T.d_law_parsed T.g_law_parsed (fun _ _ _ _ _ _ us hl => match us, hl with | [_, _, _], _ => rfl) sc_law_parsed (fun vs H Q E h => ?_) (fun cdv A outer s H vs Q E hr h => ?_)
  · obtain ⟨G, l, p, i, rfl, _⟩ := h; rfl
  obtain ⟨G, l, p, i, rfl, s0, hl, hp, hok, dep, q0, q1⟩ := h
  refine ⟨_, (pss_cons (ps_set (i := 3) sc_law_parsed.nd rfl (Or.inl rfl) (pe_lst pa_nil))
    (pss_cons (ps_for PassesOwn.never rfl (pi_range1 (by rfl) T.f_range (pa_cons (pe_op op_add (pe_callB call_lenS (by rfl) T.f_len (by decide +kernel) (pa_cons (pv 0) pa_nil)) pe_int) pa_nil)) (pg_name (i := 4) sc_law_parsed.nd rfl (Or.inl rfl))
      (pss_cons (ps_if (PW.pt (pw_or (pt_cmpR op_ge (pv 1) (pe_callB call_lenS (by rfl) T.f_len (by decide +kernel) (pa_cons (pv 0) pa_nil)) (nomark _)) (pw_or1 (pt_cmpR op_eq (pe_ix ix_S (pv 0) (pv 1) (fun _ _ => rfl)) (pe_s [125]) (nomark _)))))
        (pss_one (ps_ret (pe_lst (pa_cons (pv 3) (pa_cons (pv 1) pa_nil)))))
        pss_nil)
      (pss_cons (ps_set (i := 5) sc_law_parsed.nd rfl (Or.inl rfl) (C8.pe_c c_law_node hr (by omega) rfl (pa_cons (pv 0) (pa_cons (pv 1) (pa_cons (pv 2) pa_nil)))))
      (pss_cons (ps_if (pt_cmp (pc_isN (pv 5)))
        (pss_one (ps_ret pe_non))
        pss_nil)
      (pss_cons (ps_set (i := 1) sc_law_parsed.nd rfl (Or.inl rfl) (pe_ix ix_list (pv 5) pe_int (fun _ _ => rfl)))
      (pss_one (ps_if (PW.pt (pw_and (pt_cmpR op_eq (pe_ix ix_tup (pe_ix ix_list (pv 5) pe_int (fun _ _ => rfl)) pe_int (fun _ _ => rfl)) (pe_s [116, 101, 120, 116]) (nomark _)) (pw_and (pt_cmpR op_gt (pe_callB call_lenL (by rfl) T.f_len (by decide +kernel) (pa_cons (pv 3) pa_nil)) pe_int (nomark _)) (pw_and1 (pt_cmpR op_eq (pe_ix ix_tup (pe_ix ix_list (pv 3) (pe_un un_neg pe_int) (fun _ _ => rfl)) pe_int (fun _ _ => rfl)) (pe_s [116, 101, 120, 116]) (nomark _))))))
        (pss_one (ps_asg (pe_tup (pa_cons (pe_s [116, 101, 120, 116]) (pa_cons (pe_op op_addS (pe_ix ix_tup (pe_ix ix_list (pv 3) (pe_un un_neg pe_int) (fun _ _ => rfl)) pe_int (fun _ _ => rfl)) (pe_ix ix_tup (pe_ix ix_list (pv 5) pe_int (fun _ _ => rfl)) pe_int (fun _ _ => rfl))) pa_nil))) (pg_sub (pv 3) (pe_un un_neg pe_int) set_list)))
        (pss_one (ps_expr (pe_bm PySem.F.plainAttrs_list PySem.F.slot_list_append PySem.F.type_list_append mt_append (pv 3) (pa_cons (pe_ix ix_list (pv 5) pe_int (fun _ _ => rfl)) pa_nil)))))))))))
    (pss_one (ps_ret pe_non)))), ?_⟩
  have hb : l.length ≤ big := Nat.le_trans hl (by decide)
  refine ⟨by show 0 ≤ sizeLine; exact Nat.zero_le _, fun c hc => ?_⟩
  have gc0 : Gw [] G H G _ := Gw.allocM (o := HO.lst []) s0 hc
  have hcG := none_of s0 hc
  have out : ∀ {G' H'}, Gw [c] G (upd H c (.lst [])) G' H' → lMsg i [] (l.drop p) = none → Q .non H' := fun g z => q1 z _ _ (Gw.drop s0 hc g)
  let Pv : Nat → L2.St → Hp → Prop := fun j σ H' => ∃ G' p' acc vs v4 v5, σ = [some (.str (S l)), some (.int (p' : Nat)), some (.bl i), some (.ref c), v4, v5] ∧
    Gw [c] G (upd H c (.lst [])) G' H' ∧ H' c = some (.lst vs) ∧ RpL G' vs (encM acc) ∧ p' ≤ l.length ∧ Dep (l.drop p') N ∧ lMsg i [] (l.drop p) = lMsg i acc (l.drop p') ∧ j ≤ p' ∧ szM acc + 50 * (l.length - p') ≤ 50 * l.length
  refine ⟨_, rfl, l, rfl, hb, _, _, rfl, rfl, _, rfl, by omega, by omega, for_over (runs_r (lo := 0) (n := (((l.length : Nat) : Int) + 1).toNat)) Pv (fun _ _ _ _ => trivial)
    ⟨G, p, [], [], none, none, rfl, Gw.refl gc0.gh, upd_same, by rw [encM]; exact .nil, hp, dep, rfl, Nat.zero_le _, by simp only [szM]; omega⟩ (fun j xv σ H4 hx h => ?_) (fun σ H4 h => ?_)⟩
  · obtain ⟨G4, p4, acc, vs, v4, v5, rfl, g4, hc4, rv, hp4, dep4, hm4, hj, hsz⟩ := h
    have hvl : vs.length = acc.length := by rw [rv.length, encM_len]
    have hal := len_szM acc
    have fin : (l.drop p4 = [] ∨ ∃ s, l.drop p4 = 125 :: s) → ∀ D : Ends, D.rt = Q → tRet (tLst (tCons (tVar 3) (tCons (tVar 1) tNil))) D [some (.str (S l)), some (.int (p4 : Nat)), some (.bl i), some (.ref c), some xv, v5] H4 := fun hz D hD => by
      rw [lMsg_end hz] at hm4
      have wc : Gw [] G H (upd G4 c (.lst vs)) H4 := Gw.close s0 hc g4 hc4
      refine ⟨_, rfl, _, rfl, by show 2 ≤ sizeLine; exact szOf (by decide), fun a ha => ?_⟩
      rw [hD]
      exact q0 acc _ hm4 _ _ a _ p4 (wc.trans (Gw.allocM wc.gh ha)) rfl hp4 upd_same (.lst upd_same (rv.same (same_upd (g4.none upd_ne_none hcG))))
    refine ⟨_, rfl, _, rfl, l, rfl, hb, _, _, rfl, rfl, _, rfl, iteD (fun hge => ?_) (fun hlt => ?_)⟩
    · exact iteT (fin (.inl (List.drop_eq_nil_of_le (by omega))) _ rfl)
    · have lt : p4 < l.length := by omega
      have hget := List.getElem?_eq_getElem lt
      have hdr := drop_some hget
      refine ⟨_, rfl, _, rfl, l, _, p4, l[p4], rfl, rfl, rfl, hb, hget, rfl, _, rfl, iteS (fun he => fin (.inr ⟨_, by rw [hdr, (List.cons.inj he).1]⟩) _ rfl) (fun hne => ?_)⟩
      have n125 : l[p4] ≠ 125 := fun z => hne (by rw [z])
      have hok4 := allOk_drop hok p4
      have h125 : ∀ s, l.drop p4 ≠ 125 :: s := fun s z => n125 (by rw [hdr] at z; exact (List.cons.inj z).1)
      have hm5 : lMsg i [] (l.drop p) = match lNode i (l.drop p4) with
          | none => none
          | some (x, u) => lMsg i (pushN acc x) u := by
        rw [hm4, hdr]
        exact lMsg_cons (by rw [← hdr]; exact hok4) n125
      refine ⟨_, rfl, _, rfl, _, rfl, G4, l, p4, i, rfl, g4.gh, hl, lt, hok, dep4, fun x t e5 G5 H5 na nv p5 g5 e5' hp5 hna rx => ?_, fun e5 G5 H5 g5 => ?_⟩
      · subst e5'
        rw [e5] at hm5
        dsimp only at hm5
        have F := lNode_facts hok4 h125 e5
        have w5 := g4.trans g5.nil
        have hc5 := g5.same _ _ hc4
        have sqn := SqL.of (K := K) hna
        rw [List.length_drop, List.length_drop] at F
        have hps := szM_push acc x
        have hpl := push_len acc x
        have hsz5 : szM (pushN acc x) + 50 * (l.length - p5) ≤ 50 * l.length := by
          have := F.2.2; omega
        have next : ∀ (G6 H6 : Hp) (vs' : List V), Gw [] G5 H5 G6 H6 → RpL G6 vs' (encM (pushN acc x)) → Pv (j + 1) [some (.str (S l)), some (.int (p5 : Nat)), some (.bl i), some (.ref c), some xv, some (.ref na)] (upd H6 c (.lst vs')) := fun G6 H6 vs' g6 rv6 => by
          have w6 := w5.trans g6.nil
          have gw : Gw [c] G6 H6 G6 _ := Gw.write (M := [c]) (o := HO.lst vs') g6.gh (w6.none upd_ne_none hcG) (List.mem_singleton.mpr rfl)
          exact ⟨G6, p5, _, vs', _, _, rfl, w6.trans gw, upd_same, rv6, hp5, (dep4.eat F.1).mono (by omega), hm5, by have := F.2.1; omega, hsz5⟩
        refine ⟨_, rfl, _, rfl, iteD (fun z => by cases z) (fun _ => ?_)⟩
        refine ⟨_, rfl, na, _, _, _, rfl, rfl, sqn, rfl, ?_⟩
        obtain ⟨a, rest, rfl, ha, hrest⟩ := node_inv rx
        have haH := g5.gh _ _ ha
        have app : pushN acc x = acc ++ [x] → ∀ D : Ends, D.nx = Pv (j + 1) → tDrop (tBM K "list" rAppend (tVar 3) (tCons (tOp (rIxL K) (tVar 5) (tC (.int 0))) tNil)) D [some (.str (S l)), some (.int (p5 : Nat)), some (.bl i), some (.ref c), some xv, some (.ref na)] H5 := fun hpu D hD => by
          refine ⟨_, rfl, .inl ⟨rfl, vs, SqL.of hc5⟩, _, rfl, na, _, _, _, rfl, rfl, sqn, atI_zero _ _, c, vs, _, rfl, rfl, hc5, by rw [hvl, sizeLine_eq]; omega, ?_⟩
          rw [hD]
          refine next G5 H5 (vs ++ [V.ref a]) (Gw.refl g5.gh) ?_
          rw [hpu, encM_append]
          exact (rv.same g5.gg).snoc rx
        refine ⟨_, rfl, na, _, _, _, rfl, rfl, sqn, atI_zero _ _, a, _, _, _, rfl, rfl, SqT.of haH, atI_zero _ _, rfl, _, rfl, iteS (fun ht => ?_) (fun ht => ?_)⟩
        · cases x with
          | txt s =>
            have hsne := lNode_txt hok4 h125 e5
            refine ⟨_, rfl, c, _, rfl, SqL.of hc5, _, _, rfl, rfl, _, rfl, iteD (fun hpos => ?_) (fun hz => ?_)⟩
            · rcases List.eq_nil_or_concat acc with rfl | ⟨b, y, rfl⟩
              · rw [hvl] at hpos; exact absurd hpos (by decide)
              · rw [List.concat_eq_append] at *
                obtain ⟨ws, lv, rfl, rws, rl⟩ := rv.snoc_inv
                obtain ⟨la, lrest, rfl, hla, hlr⟩ := node_inv rl
                have hlaH := g5.sh _ _ hla
                refine ⟨_, rfl, _, rfl, c, _, _, _, rfl, rfl, SqL.of hc5, atI_last _ _, la, _, _, _, rfl, rfl, SqT.of hlaH, atI_zero _ _, rfl, _, rfl, iteS (fun hy => ?_) (fun hy => ?_)⟩
                · cases y with
                  | txt t =>
                    rw [show lrest = _ from hlr] at hlaH
                    rw [show rest = _ from hrest] at haH
                    have hts : t.length + s.length ≤ big := by
                      rw [szM_append] at hsz
                      have := F.2.2
                      simp only [szM, szN] at hsz this
                      unfold big; omega
                    refine ⟨_, rfl, _, rfl, c, _, _, _, rfl, rfl, SqL.of hc5, atI_last _ _, la, _, _, _, rfl, rfl, SqT.of hlaH, rfl, _, rfl, na, _, _, _, rfl, rfl, sqn, atI_zero _ _, a, _, _, _, rfl, rfl, SqT.of haH, rfl, t, s, rfl, rfl, hts, ?_⟩
                    refine ⟨by show 2 ≤ sizeLine; exact szOf (by decide), fun t2 ht2 => ?_⟩
                    have g6 : Gw [] G5 H5 _ _ := Gw.alloc (o := HO.tup [V.str (S tText), V.str (S (t ++ s))]) g5.gh ht2
                    have eset : (ws ++ [V.ref la]).set ws.length (V.ref t2) = ws ++ [V.ref t2] := by simp
                    refine ⟨_, rfl, _, rfl, c, _, _, ws.length, rfl, rfl, g6.same _ _ hc5, by rw [List.length_append]; exact ixN_last _, ?_⟩
                    rw [eset]
                    refine next _ _ (ws ++ [V.ref t2]) g6 ?_
                    rw [pushN_merge, encM_append]
                    exact (rws.same (g5.gg.trans g6.gg)).snoc (.tup upd_same (.cons (.str _) (.cons (.str _) .nil)))
                  | shw n => exact absurd hy (by show tShow ≠ tText; decide)
                  | num => exact absurd hy (by show tNum ≠ tText; decide)
                  | cho pl n off cs ot => exact absurd hy (tag_text (x := .cho pl n off cs ot) rfl)
                · refine app ?_ _ rfl
                  rw [pushN_new, if_neg hsne]
                  intro b' t z
                  have z' : y = .txt t := by
                    have := congrArg List.getLast? z
                    simpa using this
                  exact hy (by rw [z']; rfl)
            · refine iteF (app ?_ _ rfl)
              have ha0 : acc = [] := by
                rw [hvl] at hz
                exact List.length_eq_zero_iff.mp (by omega)
              rw [ha0, pushN_new _ _ (by intro b t z; simp at z), if_neg hsne]
          | shw n => exact absurd ht (by show tShow ≠ tText; decide)
          | num => exact absurd ht (by show tNum ≠ tText; decide)
          | cho pl n off cs ot => exact absurd ht (tag_text (x := .cho pl n off cs ot) rfl)
        · refine iteF (app ?_ _ rfl)
          have hx' : isTxt x = false := by
            cases x with
            | txt s => exact absurd rfl ht
            | shw n => rfl
            | num => rfl
            | cho pl n off cs ot => rfl
          exact pushN_other _ _ hx'
      · rw [e5] at hm5
        exact ⟨_, rfl, _, rfl, iteD (fun _ => out (g4.trans g5.nil) hm5) (fun z => absurd rfl z)⟩
  · obtain ⟨G4, p4, acc, vs, v4, v5, rfl, g4, hc4, rv, hp4, dep4, hm4, hj, hsz⟩ := h
    rw [List.length_map, List.length_range] at hj
    omega
/-- the law's reader to nests that weigh no more than 4 * d - 1 -/
theorem lreader (T : Tx K mg) : ∀ d : Nat, C8.Cal P w K mg base (3 * d + 2) "_law_parsed" (spLMsg K (4 * d - 1)) []
  | 0 => by
    refine cal_of (k := 1) T.d_law_parsed T.g_law_parsed (fun _ _ _ _ _ _ us hl => match us, hl with | [_, _, _], _ => rfl) sc_law_parsed (fun vs H Q E h => ?_) (fun cdv A outer s H vs Q E hr h => ?_)
    · obtain ⟨G, l, p, i, rfl, _⟩ := h; rfl
    · obtain ⟨G, l, p, i, rfl, s0, hl, hp, hok, dep, _⟩ := h
      exact absurd dep.nonneg (by omega)
  | d + 1 => by
    have h0 := lreader T d
    have h1 : C8.Cal P w K mg base (3 * d + 3) "_law_choice" (spLCho K (((4 * (d + 1 : Nat) : Int) - 1) - 2)) [] := ok_law_choice T (by omega) (by
      have e2 : ((4 * (d + 1 : Nat) : Int) - 1) - 2 - 2 = 4 * d - 1 := by push_cast; omega
      rw [e2]; exact h0)
    exact ok_law_parsed T (by omega) (ok_law_node T (by omega) h1)
end
end Mw

set_option Elab.async false
set_option linter.all false
set_option maxRecDepth 100000
set_option maxHeartbeats 4000000
/-! MwL6: the law's plain. -/
namespace Mw
open PySem PySem.Spec L2
open SX (S S_cat S_len S_inj)
abbrev rLenL (K : PySem.W.Frag) : List V → Hp → VK → Prop := fun xs H Q => ∃ (p : Addr) (ys : List V), xs = [.ref p] ∧ SqL K H p ys ∧ Q (.int ys.length) H
abbrev rAddS : R2 := fun x y H Q => ∃ a b : List Nat, x = .str (S a) ∧ y = .str (S b) ∧ a.length + b.length ≤ big ∧ Q (.str (S (a ++ b))) H
theorem lcases {K : PySem.W.Frag} {d : Nat} {G H : Hp} {ca : Addr} {cvs : List V} {cs : List (Ky × List Nd)} {tl : TE} {σ : L2.St} {Q : VK} (s0 : Same G H) (hca : G ca = some (.lst cvs)) (rcv : RpL G cvs (encC cs)) (hdp : dpC cs < d) (hsz : szC cs ≤ 15000000)
    (hσ : ∃ a0 a1 a2 a3 a4, σ = [a0, a1, a2, a3, a4]) (htl : ∀ Q' : VK, Q' (.ref ca) H → tl σ H Q') (q : ∀ D G' H', Gw [] G H G' H' → Rp G' (.ref D) (.list (encC (plainC cs))) → Q (.ref D) H') :
    tLc (iList K tl) (gTup K 2 (gCons (gName 3) (gCons (gName 4) gNil))) tYes (tTup (tCons (tVar 3) (tCons (tCall (spPlain K d) [] C8.E0 (tCons (tVar 4) tNil)) tNil))) [3, 4] σ H Q := by
  obtain ⟨a0, a1, a2, a3, a4, rfl⟩ := hσ
  refine htl _ ⟨ca, rfl, ⟨cvs, SqL.of (s0 _ _ hca)⟩, lc_over (runs_l (xs := cvs))
      (fun D i H' => H D = none ∧ ∃ G' ws, Gw [D] G (upd H D (.lst [])) G' H' ∧ H' D = some (.lst ws) ∧ ws.length = i ∧ RpL G' ws (encC (plainC (cs.take i)))) (fun D i H' h => ?_) (fun D hD => ?_) (fun D i x H' hD hx h => ?_) (fun D H' hD h => ?_)⟩
  · obtain ⟨hD, G', ws, g, _⟩ := h
    exact SqL.of (g.sh _ _ hca)
  · have g0 : Gw [] G H G _ := Gw.allocM (o := HO.lst []) s0 hD
    exact ⟨hD, G, [], Gw.refl g0.gh, upd_same, rfl, by rw [List.take_zero]; exact .nil⟩
  · obtain ⟨_, G', ws, g, hDl, hwl, rws⟩ := h
    obtain ⟨dd, hdd, rx⟩ := rcv.get hx
    rw [encC_get] at hdd
    cases hq : cs[i]? with
    | none => rw [hq] at hdd; cases hdd
    | some km =>
      obtain ⟨k, m⟩ := km
      rw [hq] at hdd
      cases hdd
      obtain ⟨xa, ys, rfl, hxa, ry⟩ := rx.tup_inv
      obtain ⟨y1, ys1, rfl, r1, ry1⟩ := ry.cons_inv
      obtain ⟨y2, ys2, rfl, r2, ry2⟩ := ry1.cons_inv
      obtain rfl := ry2.nil_inv
      obtain rfl := r1.key_inv
      have hmem : (k, m) ∈ cs := List.mem_of_getElem? hq
      have hm1 := mem_dpC hmem
      have hm2 := mem_szC hmem
      refine ⟨xa, _, rfl, SqT.of (g.sh _ _ hxa), rfl, _, _, rfl, _, _, rfl, rfl, rfl, _, rfl, _, rfl, G', y2, m, rfl, g.gh, r2.same g.gg, by omega, by omega, fun G2 H2 v2 g2 rv2 => ?_⟩
      refine ⟨by show 2 ≤ sizeLine; exact szOf (by decide), fun t ht => ?_⟩
      have gt : Gw [] G2 H2 _ _ := Gw.alloc (o := HO.tup [encV k, v2]) g2.gh ht
      have w2 := (g.trans g2.nil).trans gt.nil
      have hDl2 : _ = some (HO.lst ws) := gt.same _ _ (g2.same _ _ hDl)
      have gD : (upd G2 t (.tup [encV k, v2])) D = none := w2.none upd_ne_none (none_of s0 hD)
      have gw : Gw [D] _ _ _ _ := Gw.write (M := [D]) (o := HO.lst (ws ++ [V.ref t])) gt.gh gD (List.mem_singleton.mpr rfl)
      have hil : i < cs.length := (List.getElem?_eq_some_iff.mp hq).1
      have hcl := len_szC cs
      refine ⟨ws, hDl2, by rw [hwl, sizeLine_eq]; omega, hD, _, ws ++ [V.ref t], w2.trans gw, upd_same, by rw [List.length_append, hwl]; rfl, ?_⟩
      rw [take_snoc hq, plainC_eq, List.map_append, encC_append, ← plainC_eq]
      exact (rws.same (g2.gg.trans gt.gg)).snoc (.tup upd_same (.cons (Rp.key k) (.cons (rv2.same gt.gg) .nil)))
  · obtain ⟨_, G', ws, g, hDl, hwl, rws⟩ := h
    have e : cvs.length = cs.length := by rw [rcv.length, encC_len]
    rw [e, List.take_length] at rws
    have hGD : G' D = none := g.none upd_ne_none (none_of s0 hD)
    have wc : Gw [] G H (upd G' D (.lst ws)) H' := Gw.close s0 hD g hDl
    exact q D _ _ wc (.lst upd_same (rws.same (same_upd hGD)))
section
variable {P : Program} {w : World} {K : PySem.W.Frag} {mg : Str → Option Value} {base : Heap}
theorem ok_law_plain (T : Tx K mg) {km d : Nat} (hkm : 1 ≤ km) (c_law_plain : C8.Cal P w K mg base km "_law_plain" (spPlain K d) []) : C8.Cal P w K mg base (km + 1) "_law_plain" (spPlain K (d + 1)) [] := by
  refine cal_of T.d_law_plain T.g_law_plain (fun _ _ _ _ _ _ us hl => match us, hl with | [_], _ => rfl) sc_law_plain (fun vs H Q E h => ?_) (fun cdv A outer s H vs Q E hr h => ?_)
  · obtain ⟨G, v, x, rfl, _⟩ := h; rfl
  obtain ⟨G, v, m, rfl, s0, rv, hd, hz, q⟩ := h
  refine ⟨_, (pss_cons (ps_set (i := 1) sc_law_plain.nd rfl (Or.inl rfl) (pe_lst pa_nil))
    (pss_cons (ps_for PassesOwn.never rfl (pi_list (pv 0)) (pg_name (i := 2) sc_law_plain.nd rfl (Or.inl rfl))
      (pss_cons (ps_if (pt_cmpR op_eq (pe_ix ix_tup (pv 2) pe_int (fun _ _ => rfl)) (pe_s [115, 101, 108, 101, 99, 116]) (nomark _))
        (pss_one (ps_set (i := 2) sc_law_plain.nd rfl (Or.inl rfl) (pe_tup (pa_cons (pe_s [115, 101, 108, 101, 99, 116]) (pa_cons (pe_ix ix_tup (pv 2) pe_int (fun _ _ => rfl)) (pa_cons (pe_lc (own := [("_law_key", 3), ("_law_inner", 4)]) (g := gTup K 2 (gCons (gName 3) (gCons (gName 4) (gNil)))) (tt := tYes) rfl sc_law_plain.nd (pi_list (pe_ix ix_tup (pv 2) pe_int (fun _ _ => rfl))) (blkOk_by (own := [("_law_key", 3), ("_law_inner", 4)]) (N := N_law_plain) (sc := defScope s_law_plain) (by decide +kernel)) (fun _ _ _ _ _ => (pg_tup rfl (pgs_cons (pg_name (i := 3) sc_law_plain.nd rfl (Or.inl rfl)) (pgs_cons (pg_name (i := 4) sc_law_plain.nd rfl (Or.inl rfl)) pgs_nil)))) (fun _ _ _ _ _ => pts_nil) (fun _ _ _ _ _ => (pe_tup (pa_cons (pv 3) (pa_cons (C8.pe_c c_law_plain hr (by omega) rfl (pa_cons (pv 4) pa_nil)) pa_nil))))) (pa_cons (C8.pe_c c_law_plain hr (by omega) rfl (pa_cons (pe_ix ix_tup (pv 2) pe_int (fun _ _ => rfl)) pa_nil)) pa_nil)))))))
        pss_nil)
      (pss_cons (ps_if (pt_cmpR op_eq (pe_ix ix_tup (pv 2) pe_int (fun _ _ => rfl)) (pe_s [112, 108, 117, 114, 97, 108]) (nomark _))
        (pss_one (ps_set (i := 2) sc_law_plain.nd rfl (Or.inl rfl) (pe_tup (pa_cons (pe_s [112, 108, 117, 114, 97, 108]) (pa_cons (pe_ix ix_tup (pv 2) pe_int (fun _ _ => rfl)) (pa_cons (pe_ix ix_tup (pv 2) pe_int (fun _ _ => rfl)) (pa_cons (pe_lc (own := [("_law_key", 3), ("_law_inner", 4)]) (g := gTup K 2 (gCons (gName 3) (gCons (gName 4) (gNil)))) (tt := tYes) rfl sc_law_plain.nd (pi_list (pe_ix ix_tup (pv 2) pe_int (fun _ _ => rfl))) (blkOk_by (own := [("_law_key", 3), ("_law_inner", 4)]) (N := N_law_plain) (sc := defScope s_law_plain) (by decide +kernel)) (fun _ _ _ _ _ => (pg_tup rfl (pgs_cons (pg_name (i := 3) sc_law_plain.nd rfl (Or.inl rfl)) (pgs_cons (pg_name (i := 4) sc_law_plain.nd rfl (Or.inl rfl)) pgs_nil)))) (fun _ _ _ _ _ => pts_nil) (fun _ _ _ _ _ => (pe_tup (pa_cons (pv 3) (pa_cons (C8.pe_c c_law_plain hr (by omega) rfl (pa_cons (pv 4) pa_nil)) pa_nil))))) (pa_cons (C8.pe_c c_law_plain hr (by omega) rfl (pa_cons (pe_ix ix_tup (pv 2) pe_int (fun _ _ => rfl)) pa_nil)) pa_nil))))))))
        pss_nil)
      (pss_one (ps_if (PW.pt (pw_and (pt_cmpR op_eq (pe_ix ix_tup (pv 2) pe_int (fun _ _ => rfl)) (pe_s [116, 101, 120, 116]) (nomark _)) (pw_and (pt_cmpR op_gt (pe_callB call_lenL (by rfl) T.f_len (by decide +kernel) (pa_cons (pv 1) pa_nil)) pe_int (nomark _)) (pw_and1 (pt_cmpR op_eq (pe_ix ix_tup (pe_ix ix_list (pv 1) (pe_un un_neg pe_int) (fun _ _ => rfl)) pe_int (fun _ _ => rfl)) (pe_s [116, 101, 120, 116]) (nomark _))))))
        (pss_one (ps_asg (pe_tup (pa_cons (pe_s [116, 101, 120, 116]) (pa_cons (pe_op op_addS (pe_ix ix_tup (pe_ix ix_list (pv 1) (pe_un un_neg pe_int) (fun _ _ => rfl)) pe_int (fun _ _ => rfl)) (pe_ix ix_tup (pv 2) pe_int (fun _ _ => rfl))) pa_nil))) (pg_sub (pv 1) (pe_un un_neg pe_int) set_list)))
        (pss_one (ps_if (pt_cmpR (op_ne2 hr.units0) (pv 2) (pe_tup (pa_cons (pe_s [116, 101, 120, 116]) (pa_cons (pe_s []) pa_nil))) (nomark _))
          (pss_one (ps_expr (pe_bm PySem.F.plainAttrs_list PySem.F.slot_list_append PySem.F.type_list_append mt_append (pv 1) (pa_cons (pv 2) pa_nil))))
          pss_nil)))))))
    (pss_one (ps_ret (pv 1))))), ?_⟩
  obtain ⟨ma, mvs, rfl, hma, rm⟩ := rv.lst_inv
  refine ⟨by show 0 ≤ sizeLine; exact Nat.zero_le _, fun c hc => ?_⟩
  have gc0 : Gw [] G H G _ := Gw.allocM (o := HO.lst []) s0 hc
  have hcG : G c = none := none_of s0 hc
  let Pv : Nat → L2.St → Hp → Prop := fun i σ H' => ∃ G' vs v2, σ = [some (.ref ma), some (.ref c), v2, none, none] ∧ Gw [c] G (upd H c (.lst [])) G' H' ∧ H' c = some (.lst vs) ∧ RpL G' vs (encM (plainA [] (m.take i)))
  refine ⟨_, rfl, ma, rfl, ⟨mvs, SqL.of (gc0.gh _ _ hma)⟩, for_over (runs_l (xs := mvs)) Pv (fun i σ H' h => ?_) ⟨G, [], none, rfl, Gw.refl gc0.gh, upd_same, by rw [List.take_zero, plainA, encM]; exact .nil⟩ (fun i xv σ H' hx h => ?_) (fun σ H' h => ?_)⟩
  · obtain ⟨G', vs, v2, rfl, g, _⟩ := h
    exact SqL.of (g.sh _ _ hma)
  · obtain ⟨G', vs, v2, rfl, g, hcl, rvs⟩ := h
    obtain ⟨dd, hdd, rx⟩ := rm.get hx
    rw [encM_get] at hdd
    cases hq : m[i]? with
    | none => rw [hq] at hdd; cases hdd
    | some x =>
      rw [hq] at hdd
      cases hdd
      have hmem : x ∈ m := List.mem_of_getElem? hq
      have hm1 := mem_dp hmem
      have hm2 := mem_sz hmem
      have hst := sz_take hq
      have hpl : szM (plainA [] (m.take i)) ≤ szM (m.take i) := szM_plain _
      have hsn := plainA_snoc hq
      generalize hacc : plainA [] (m.take i) = acc at rvs hpl hsn
      have hvl : vs.length = acc.length := by rw [rvs.length, encM_len]
      have hal := len_szM acc
      obtain ⟨a, rest, rfl, ha, hrest⟩ := node_inv rx
      have ha' := g.gg _ _ ha
      have hpx := szN_plain x
      -- the node, made plain, goes to the end
      have push : ∀ (b : Addr) (G2 H2 : Hp), Gw [] G' H' G2 H2 → Rp G2 (.ref b) (encN (plainN x)) → ∀ D : Ends, D.nx = Pv (i + 1) →
          tIfS (tAnd (tTest (tOp rEq (tOp (rIxT K) (tVar 2) (tC (.int 0))) (tC (.str (S tText))))) (tAnd (tTest (tOp (rI0 fun i j => V.bl (decide (j < i))) (tCB (rLenL K) (tCons (tVar 1) tNil)) (tC (.int 0)))) (tTest (tOp rEq (tOp (rIxT K) (tOp (rIxL K) (tVar 1) (tUn (rU fun i => .int (-i)) (tC (.int 1)))) (tC (.int 0))) (tC (.str (S tText)))))))
            (tAsg (tTup (tCons (tC (.str (S tText))) (tCons (tOp rAddS (tOp (rIxT K) (tOp (rIxL K) (tVar 1) (tUn (rU fun i => .int (-i)) (tC (.int 1)))) (tC (.int 1))) (tOp (rIxT K) (tVar 2) (tC (.int 1)))) tNil))) (gSub (tVar 1) (tUn (rU fun i => .int (-i)) (tC (.int 1))) rSetL))
            (tIfS (tTest (tOp (rNe2 K) (tVar 2) (tTup (tCons (tC (.str (S tText))) (tCons (tC (.str (S []))) tNil))))) (tDrop (tBM K "list" rAppend (tVar 1) (tCons (tVar 2) tNil))) tNext) D [some (.ref ma), some (.ref c), some (.ref b), none, none] H2 := fun b G2 H2 g2 rb D hD => by
        have hc2 := g2.same _ _ hcl
        have wg := g.trans g2.nil
        obtain ⟨b', brest, eb, hb, hbr⟩ := node_inv rb
        obtain rfl : b = b' := V.ref.inj eb
        have hbH := g2.gh _ _ hb
        have rvs2 := rvs.same g2.gg
        have next : ∀ (G3 H3 : Hp) (vs' : List V), Gw [] G2 H2 G3 H3 → RpL G3 vs' (encM (pushN acc (plainN x))) → D.nx [some (.ref ma), some (.ref c), some (.ref b), none, none] (upd H3 c (.lst vs')) := fun G3 H3 vs' g3 r3 => by
          have w3 := wg.trans g3.nil
          rw [hD]
          refine ⟨G3, vs', _, rfl, w3.trans (Gw.write (M := [c]) w3.gh (w3.none upd_ne_none hcG) (List.mem_singleton.mpr rfl)), upd_same, ?_⟩
          rw [hsn]; exact r3
        have els : pushN acc (plainN x) = (if emptyT (plainN x) = true then acc else acc ++ [plainN x]) → tIfS (tTest (tOp (rNe2 K) (tVar 2) (tTup (tCons (tC (.str (S tText))) (tCons (tC (.str (S []))) tNil))))) (tDrop (tBM K "list" rAppend (tVar 1) (tCons (tVar 2) tNil))) tNext D [some (.ref ma), some (.ref c), some (.ref b), none, none] H2 := fun hpu => by
          refine ⟨_, rfl, by show 2 ≤ sizeLine; exact szOf (by decide), fun t ht => ?_⟩
          have g3 : Gw [] G2 H2 G2 _ := Gw.allocM (o := HO.tup [V.str (S tText), V.str (S [])]) g2.gh ht
          have hc3 := g3.same _ _ hc2
          refine ⟨b, t, S (tagN (plainN x)), S tText, S [], brest, rfl, rfl, SqT.of (g3.gh _ _ hb), SqT.of upd_same, rest_str hbr, ?_⟩
          have app : pushN acc (plainN x) = acc ++ [plainN x] → tDrop (tBM K "list" rAppend (tVar 1) (tCons (tVar 2) tNil)) D [some (.ref ma), some (.ref c), some (.ref b), none, none] (upd H2 t (.tup [V.str (S tText), V.str (S [])])) := fun hp2 => by
            refine ⟨_, rfl, .inl ⟨rfl, vs, SqL.of hc3⟩, _, rfl, c, vs, _, rfl, rfl, hc3, by rw [hvl, sizeLine_eq]; omega, next G2 _ _ g3 ?_⟩
            rw [hp2, encM_append]
            exact rvs2.snoc rb
          by_cases hxt : isTxt (plainN x) = true
          · cases hpn : plainN x with
            | txt s =>
              rw [hpn] at hbr hpu
              refine .inr ⟨rfl, S s, by rw [show brest = _ from hbr], _, rfl, iteDN (fun hs => ?_) (fun hs => ?_)⟩
              · refine app ?_
                rw [hpn, hpu, emptyT_txt, if_neg (by simpa using fun z => hs (by rw [z]))]
              · have hs' : s = [] := S_inj hs
                subst hs'
                rw [emptyT_txt, if_pos (by decide)] at hpu
                show D.nx _ _
                rw [hD]
                refine ⟨G2, vs, _, rfl, wg.trans g3.nil, hc3, ?_⟩
                rw [hsn, hpn, hpu]; exact rvs2
            | shw n => rw [hpn] at hxt; cases hxt
            | num => rw [hpn] at hxt; cases hxt
            | cho pl n off cs ot => rw [hpn] at hxt; cases hxt
          · have hx' : isTxt (plainN x) = false := by simpa using hxt
            refine .inl ⟨fun z => tag_text hx' (S_inj z), _, rfl, iteT (app ?_)⟩
            rw [hpu, emptyT_other hx']; rfl
        refine ⟨_, rfl, b, _, _, _, rfl, rfl, SqT.of hbH, atI_zero _ _, rfl, _, rfl, iteS (fun ht => ?_) (fun ht => ?_)⟩
        · cases hpn : plainN x with
          | txt s =>
            rw [hpn] at hbr hb hbH hpx next els
            refine ⟨_, rfl, c, _, rfl, SqL.of hc2, _, _, rfl, rfl, _, rfl, iteD (fun hpos => ?_) (fun hz0 => ?_)⟩
            · rcases List.eq_nil_or_concat acc with hnil | ⟨b0, y, hcat⟩
              · rw [hnil] at hvl
                rw [hvl] at hpos; exact absurd hpos (by decide)
              · rw [List.concat_eq_append] at hcat
                rw [hcat] at rvs2 hpl next els
                obtain ⟨ws, lv, rfl, rws, rl⟩ := rvs2.snoc_inv
                obtain ⟨la, lrest, rfl, hla, hlr⟩ := node_inv rl
                have hlaH := g2.gh _ _ hla
                refine ⟨_, rfl, _, rfl, c, _, _, _, rfl, rfl, SqL.of hc2, atI_last _ _, la, _, _, _, rfl, rfl, SqT.of hlaH, atI_zero _ _, rfl, _, rfl, iteS (fun hy => ?_) (fun hy => ?_)⟩
                · cases y with
                  | txt t =>
                    rw [show lrest = _ from hlr] at hlaH
                    rw [show brest = _ from hbr] at hbH
                    have hts : t.length + s.length ≤ big := by
                      rw [szM_append] at hpl
                      simp only [szM, szN] at hpl hst hpx
                      unfold big; omega
                    refine ⟨_, rfl, _, rfl, c, _, _, _, rfl, rfl, SqL.of hc2, atI_last _ _, la, _, _, _, rfl, rfl, SqT.of hlaH, rfl, _, rfl, b, _, _, _, rfl, rfl, SqT.of hbH, rfl, t, s, rfl, rfl, hts, ?_⟩
                    refine ⟨by show 2 ≤ sizeLine; exact szOf (by decide), fun t2 ht2 => ?_⟩
                    have g3 : Gw [] G2 H2 _ _ := Gw.alloc (o := HO.tup [V.str (S tText), V.str (S (t ++ s))]) g2.gh ht2
                    have eset : (ws ++ [V.ref la]).set ws.length (V.ref t2) = ws ++ [V.ref t2] := by simp
                    refine ⟨_, rfl, _, rfl, c, _, _, ws.length, rfl, rfl, g3.same _ _ hc2, by rw [List.length_append]; exact ixN_last _, ?_⟩
                    rw [eset]
                    refine next _ _ (ws ++ [V.ref t2]) g3 ?_
                    rw [pushN_merge, encM_append]
                    exact (rws.same g3.gg).snoc (.tup upd_same (.cons (.str _) (.cons (.str _) .nil)))
                  | shw n => exact absurd hy (by show tShow ≠ tText; decide)
                  | num => exact absurd hy (by show tNum ≠ tText; decide)
                  | cho pl n off cs ot => exact absurd hy (tag_text (x := .cho pl n off cs ot) rfl)
                · refine els ?_
                  rw [pushN_new]
                  · rw [emptyT_txt]
                    by_cases hs : s = []
                    · rw [if_pos hs, if_pos (decide_eq_true hs)]
                    · rw [if_neg hs, if_neg (by simpa using hs)]
                  · intro b' t z
                    have z' : y = .txt t := by
                      have := congrArg List.getLast? z
                      simpa using this
                    exact hy (by rw [z']; rfl)
            · refine iteF (els ?_)
              have ha0 : acc = [] := by
                rw [hvl] at hz0
                exact List.length_eq_zero_iff.mp (by omega)
              rw [ha0, pushN_new _ _ (by intro b t z; simp at z), emptyT_txt]
              by_cases hs : s = []
              · rw [if_pos hs, if_pos (decide_eq_true hs)]
              · rw [if_neg hs, if_neg (by simpa using hs)]
          | shw n => rw [hpn] at ht; exact absurd ht (by show tShow ≠ tText; decide)
          | num => rw [hpn] at ht; exact absurd ht (by show tNum ≠ tText; decide)
          | cho pl n off cs ot => rw [hpn] at ht; exact absurd ht (tag_text (x := .cho pl n off cs ot) rfl)
        · refine iteF (els ?_)
          have hx' : isTxt (plainN x) = false := by
            cases hpn : plainN x with
            | txt s => rw [hpn] at ht; exact absurd rfl ht
            | shw n => rfl
            | num => rfl
            | cho pl n off cs ot => rfl
          rw [pushN_other _ _ hx', emptyT_other hx']; rfl
      have haH := g.gh _ _ ha'
      refine ⟨_, rfl, a, _, _, _, rfl, rfl, SqT.of haH, atI_zero _ _, rfl, _, rfl, ?_⟩
      cases x with
      | txt s => exact iteS (fun e => absurd e (by show tText ≠ tSel; decide)) (fun _ => ⟨_, rfl, a, _, _, _, rfl, rfl, SqT.of haH, atI_zero _ _, rfl, _, rfl, iteS (fun e => absurd e (by show tText ≠ tPlu; decide)) (fun _ => push a G' H' (Gw.refl g.gh) (rx.same g.gg) _ rfl)⟩)
      | shw s => exact iteS (fun e => absurd e (by show tShow ≠ tSel; decide)) (fun _ => ⟨_, rfl, a, _, _, _, rfl, rfl, SqT.of haH, atI_zero _ _, rfl, _, rfl, iteS (fun e => absurd e (by show tShow ≠ tPlu; decide)) (fun _ => push a G' H' (Gw.refl g.gh) (rx.same g.gg) _ rfl)⟩)
      | num => exact iteS (fun e => absurd e (by show tNum ≠ tSel; decide)) (fun _ => ⟨_, rfl, a, _, _, _, rfl, rfl, SqT.of haH, atI_zero _ _, rfl, _, rfl, iteS (fun e => absurd e (by show tNum ≠ tPlu; decide)) (fun _ => push a G' H' (Gw.refl g.gh) (rx.same g.gg) _ rfl)⟩)
      | cho pl n off cs ot =>
        obtain ⟨cv, ov, hrest, rc, ro⟩ := hrest
        obtain ⟨ca, cvs, rfl, hca, rcv⟩ := rc.lst_inv
        have hca' := g.gg _ _ hca
        have rcv' := rcv.same g.gg
        simp only [dpN] at hm1
        simp only [szN] at hm2
        cases pl with
        | false =>
          rw [show rest = _ from hrest] at haH
          refine iteS (fun _ => ?_) (fun e => absurd rfl e)
          refine ⟨_, rfl, a, _, _, _, rfl, rfl, SqT.of haH, rfl, lcases (d := d) g.gh hca' rcv' (by omega) (by omega) ⟨_, _, _, _, _, rfl⟩ (fun Q' q' => ⟨_, rfl, a, _, _, _, rfl, rfl, SqT.of haH, rfl, q'⟩) (fun D G2 H2 g2 rD => ?_)⟩
          refine ⟨_, rfl, a, _, _, _, rfl, rfl, SqT.of (g2.same _ _ haH), rfl, G2, ov, ot, rfl, g2.gh, (ro.same g.gg).same g2.gg, by omega, by omega, fun G3 H3 v3 g3 rv3 => ?_⟩
          refine ⟨by show 4 ≤ sizeLine; exact szOf (by decide), fun t ht => ?_⟩
          have gt : Gw [] G3 H3 _ _ := Gw.alloc (o := HO.tup (headV false n off ++ [V.ref D, v3])) g3.gh ht
          have rn : Rp (upd G3 t (.tup (headV false n off ++ [V.ref D, v3]))) (.ref t) (encN (plainN (.cho false n off cs ot))) := by
            rw [plainN]
            cases rD with
            | lst hD1 hD2 => exact enc_cho (gt.gg _ _ (g3.gg _ _ hD1)) ((hD2.same g3.gg).same gt.gg) (rv3.same gt.gg) upd_same
          refine ⟨_, rfl, t, _, _, _, rfl, rfl, SqT.of upd_same, rfl, rfl, _, rfl, iteS (fun e => absurd e (by decide)) (fun _ => ?_)⟩
          exact push t _ _ ((g2.trans g3).trans gt) rn _ rfl
        | true =>
          refine iteS (fun e => absurd e (by show tPlu ≠ tSel; decide)) (fun _ => ?_)
          rw [show rest = _ from hrest] at haH
          refine ⟨_, rfl, a, _, _, _, rfl, rfl, SqT.of haH, rfl, rfl, _, rfl, iteS (fun _ => ?_) (fun e => absurd rfl e)⟩
          refine ⟨_, rfl, a, _, _, _, rfl, rfl, SqT.of haH, rfl, _, rfl, a, _, _, _, rfl, rfl, SqT.of haH, rfl, lcases (d := d) g.gh hca' rcv' (by omega) (by omega) ⟨_, _, _, _, _, rfl⟩ (fun Q' q' => ⟨_, rfl, a, _, _, _, rfl, rfl, SqT.of haH, rfl, q'⟩) (fun D G2 H2 g2 rD => ?_)⟩
          refine ⟨_, rfl, a, _, _, _, rfl, rfl, SqT.of (g2.same _ _ haH), rfl, G2, ov, ot, rfl, g2.gh, (ro.same g.gg).same g2.gg, by omega, by omega, fun G3 H3 v3 g3 rv3 => ?_⟩
          refine ⟨by show 5 ≤ sizeLine; exact szOf (by decide), fun t ht => ?_⟩
          have gt : Gw [] G3 H3 _ _ := Gw.alloc (o := HO.tup (headV true n off ++ [V.ref D, v3])) g3.gh ht
          have rn : Rp (upd G3 t (.tup (headV true n off ++ [V.ref D, v3]))) (.ref t) (encN (plainN (.cho true n off cs ot))) := by
            rw [plainN]
            cases rD with
            | lst hD1 hD2 => exact enc_cho (gt.gg _ _ (g3.gg _ _ hD1)) ((hD2.same g3.gg).same gt.gg) (rv3.same gt.gg) upd_same
          exact push t _ _ ((g2.trans g3).trans gt) rn _ rfl
  · obtain ⟨G', vs, v2, rfl, g, hcl, rvs⟩ := h
    have e : mvs.length = m.length := by rw [rm.length, encM_len]
    rw [e, List.take_length] at rvs
    have wc : Gw [] G H (upd G' c (.lst vs)) H' := Gw.close s0 hc g hcl
    exact ⟨_, rfl, q _ _ _ wc (.lst upd_same (rvs.same (same_upd (g.none upd_ne_none hcG))))⟩
theorem lplains (T : Tx K mg) : ∀ d : Nat, C8.Cal P w K mg base (d + 1) "_law_plain" (spPlain K d) []
  | 0 => by
    refine cal_of (k := 0) T.d_law_plain T.g_law_plain (fun _ _ _ _ _ _ us hl => match us, hl with | [_], _ => rfl) sc_law_plain (fun vs H Q E h => ?_) (fun cdv A outer s H vs Q E hr h => ?_)
    · obtain ⟨G, v, m, rfl, _⟩ := h; rfl
    · obtain ⟨G, v, m, rfl, s0, rv, hd, _⟩ := h
      exact absurd hd (by omega)
  | d + 1 => ok_law_plain T (by omega) (lplains T d)
end
end Mw

set_option Elab.async false
set_option linter.all false
set_option maxRecDepth 100000
set_option maxHeartbeats 4000000
/-! MwL7: the law's notation. -/
namespace Mw
open PySem PySem.Spec L2
open SX (S S_cat S_len S_inj)
theorem fmtM_snoc {m : List Nd} {i : Nat} {x : Nd} (h : m[i]? = some x) : fmtM (m.take (i + 1)) = fmtM (m.take i) ++ fmtN x := by
  rw [take_snoc h, fmtM_append]; simp [fmtM]
theorem fmtM_take_le (m : List Nd) (i : Nat) : (fmtM (m.take i)).length ≤ (fmtM m).length := by
  have h : fmtM m = fmtM (m.take i) ++ fmtM (m.drop i) := by rw [← fmtM_append, List.take_append_drop]
  rw [h, List.length_append]; omega
theorem fmtCs_append : ∀ a b : List (Ky × List Nd), fmtCs (a ++ b) = fmtCs a ++ fmtCs b
  | [], b => rfl
  | (k, m) :: r, b => by simp [fmtCs, fmtCs_append r b]
theorem fmtCs_snoc {cs : List (Ky × List Nd)} {i : Nat} {k : Ky} {m : List Nd} (h : cs[i]? = some (k, m)) : fmtCs (cs.take (i + 1)) = fmtCs (cs.take i) ++ (fmtK k ++ ([32, 123] ++ (fmtM m ++ [125, 32]))) := by
  rw [take_snoc h, fmtCs_append]; simp [fmtCs]
theorem fmtCs_take_le (cs : List (Ky × List Nd)) (i : Nat) : (fmtCs (cs.take i)).length ≤ (fmtCs cs).length := by
  have h : fmtCs cs = fmtCs (cs.take i) ++ fmtCs (cs.drop i) := by rw [← fmtCs_append, List.take_append_drop]
  rw [h, List.length_append]; omega
section
variable {P : Program} {w : World} {K : PySem.W.Frag} {mg : Str → Option Value} {base : Heap}
theorem ok_law_notation (T : Tx K mg) {km d : Nat} (hkm : 1 ≤ km) (c_law_notation : C8.Cal P w K mg base km "_law_notation" (spFmt K d) []) : C8.Cal P w K mg base (km + 1) "_law_notation" (spFmt K (d + 1)) [] := by
  refine cal_of T.d_law_notation T.g_law_notation (fun _ _ _ _ _ _ us hl => match us, hl with | [_], _ => rfl) sc_law_notation (fun vs H Q E h => ?_) (fun cdv A outer s H vs Q E hr h => ?_)
  · obtain ⟨G, v, x, rfl, _⟩ := h; rfl
  obtain ⟨G, v, m, rfl, s0, rv, hd, hz, hn, q⟩ := h
  refine ⟨_, (pss_cons (ps_set (i := 1) sc_law_notation.nd rfl (Or.inl rfl) (pe_s []))
    (pss_cons (ps_for PassesOwn.never rfl (pi_list (pv 0)) (pg_name (i := 2) sc_law_notation.nd rfl (Or.inl rfl))
      (pss_one (ps_if (pt_cmpR op_eq (pe_ix ix_tup (pv 2) pe_int (fun _ _ => rfl)) (pe_s [116, 101, 120, 116]) (nomark _))
        (pss_one (ps_for PassesOwn.never rfl (pi_str (pe_ix ix_tup (pv 2) pe_int (fun _ _ => rfl))) (pg_name (i := 3) sc_law_notation.nd rfl (Or.inl rfl))
          (pss_one (ps_if (pt_cmpR op_eq (pv 3) (pe_s [39]) (nomark _))
            (pss_one (ps_set (i := 1) sc_law_notation.nd rfl (Or.inl rfl) (pe_op op_addS (pv 1) (pe_s [39, 39]))))
            (pss_one (ps_if (pt_cmpR op_inS (pv 3) (pe_s [123, 125, 35]) rfl)
              (pss_one (ps_set (i := 1) sc_law_notation.nd rfl (Or.inl rfl) (pe_op op_addS (pe_op op_addS (pe_op op_addS (pv 1) (pe_s [39])) (pv 3)) (pe_s [39]))))
              (pss_one (ps_set (i := 1) sc_law_notation.nd rfl (Or.inl rfl) (pe_op op_addS (pv 1) (pv 3))))))))))
        (pss_one (ps_if (pt_cmpR op_eq (pe_ix ix_tup (pv 2) pe_int (fun _ _ => rfl)) (pe_s [115, 104, 111, 119]) (nomark _))
          (pss_one (ps_set (i := 1) sc_law_notation.nd rfl (Or.inl rfl) (pe_op op_addS (pe_op op_addS (pe_op op_addS (pv 1) (pe_s [123])) (pe_ix ix_tup (pv 2) pe_int (fun _ _ => rfl))) (pe_s [125]))))
          (pss_one (ps_if (pt_cmpR op_eq (pe_ix ix_tup (pv 2) pe_int (fun _ _ => rfl)) (pe_s [110, 117, 109, 98, 101, 114]) (nomark _))
            (pss_one (ps_set (i := 1) sc_law_notation.nd rfl (Or.inl rfl) (pe_op op_addS (pv 1) (pe_s [35]))))
            (pss_cons (ps_set (i := 1) sc_law_notation.nd rfl (Or.inl rfl) (pe_op op_addS (pe_op op_addS (pe_op op_addS (pe_op op_addS (pe_op op_addS (pv 1) (pe_s [123])) (pe_ix ix_tup (pv 2) pe_int (fun _ _ => rfl))) (pe_s [44, 32])) (pe_ix ix_tup (pv 2) pe_int (fun _ _ => rfl))) (pe_s [44, 32])))
            (pss_cons (ps_if (PW.pt (pw_and (pt_cmpR op_eq (pe_ix ix_tup (pv 2) pe_int (fun _ _ => rfl)) (pe_s [112, 108, 117, 114, 97, 108]) (nomark _)) (pw_and1 (pt_cmpR op_gt (pe_ix ix_tup (pv 2) pe_int (fun _ _ => rfl)) pe_int (nomark _)))))
              (pss_one (ps_set (i := 1) sc_law_notation.nd rfl (Or.inl rfl) (pe_op op_addS (pe_op op_addS (pe_op op_addS (pv 1) (pe_s [111, 102, 102, 115, 101, 116, 58])) (pe_callTy call_strS (by rfl) T.f_str (by decide +kernel) (pa_cons (pe_ix ix_tup (pv 2) pe_int (fun _ _ => rfl)) pa_nil))) (pe_s [32]))))
              pss_nil)
            (pss_cons (ps_for PassesOwn.never rfl (pi_list (pe_ix ix_tup (pv 2) (pe_un un_neg pe_int) (fun _ _ => rfl))) (pg_tup rfl (pgs_cons (pg_name (i := 4) sc_law_notation.nd rfl (Or.inl rfl)) (pgs_cons (pg_name (i := 5) sc_law_notation.nd rfl (Or.inl rfl)) pgs_nil)))
              (pss_one (ps_set (i := 1) sc_law_notation.nd rfl (Or.inl rfl) (pe_op op_addS (pe_op op_addS (pe_op op_addS (pe_op op_addS (pe_op op_addS (pv 1) (pe_ix ix_list (pe_lst (pa_cons (pe_s []) (pa_cons (pe_s [61]) pa_nil))) (pe_callTy call_int1 (by rfl) T.f_int (by decide +kernel) (pa_cons (pe_callB call_isi (by rfl) T.f_isinstance (by decide +kernel) (pa_cons (pv 4) (pa_cons (pe_bltn (v := .ty "int") rfl T.f_int (by decide +kernel) rfl) pa_nil))) pa_nil)) (fun _ _ => rfl))) (pe_callTy call_strS (by rfl) T.f_str (by decide +kernel) (pa_cons (pv 4) pa_nil))) (pe_s [32, 123])) (C8.pe_c c_law_notation hr (by omega) rfl (pa_cons (pv 5) pa_nil))) (pe_s [125, 32])))))
            (pss_one (ps_set (i := 1) sc_law_notation.nd rfl (Or.inl rfl) (pe_op op_addS (pe_op op_addS (pe_op op_addS (pv 1) (pe_s [111, 116, 104, 101, 114, 32, 123])) (C8.pe_c c_law_notation hr (by omega) rfl (pa_cons (pe_ix ix_tup (pv 2) (pe_un un_neg pe_int) (fun _ _ => rfl)) pa_nil))) (pe_s [125, 125]))))))))))))))
    (pss_one (ps_ret (pv 1))))), ?_⟩
  obtain ⟨ma, mvs, rfl, hma, rm⟩ := rv.lst_inv
  have htot := fmtM_len m hn
  refine ⟨_, rfl, ma, rfl, ⟨mvs, SqL.of (s0 _ _ hma)⟩, for_over (runs_l (xs := mvs)) (fun i σ H' => ∃ v2 v3 v4 v5, σ = [some (.ref ma), some (.str (S (fmtM (m.take i)))), v2, v3, v4, v5] ∧ Gw [] G H G H') (fun i σ H' h => ?_) ⟨none, none, none, none, by rw [List.take_zero]; rfl, Gw.refl s0⟩ (fun i xv σ H' hx h => ?_) (fun σ H' h => ?_)⟩
  · obtain ⟨v2, v3, v4, v5, rfl, g⟩ := h
    exact SqL.of (g.gh _ _ hma)
  · obtain ⟨v2, v3, v4, v5, rfl, g⟩ := h
    obtain ⟨dd, hdd, rx⟩ := rm.get hx
    rw [encM_get] at hdd
    cases hq : m[i]? with
    | none => rw [hq] at hdd; cases hdd
    | some x =>
      rw [hq] at hdd
      cases hdd
      have hmem : x ∈ m := List.mem_of_getElem? hq
      have hm1 := mem_dp hmem
      have hm2 := mem_sz hmem
      have hnx := mem_num hn hmem
      have hsn := fmtM_snoc hq
      have hle := fmtM_take_le m (i + 1)
      rw [hsn, List.length_append] at hle
      rw [hsn]
      generalize fmtM (m.take i) = B at hle ⊢
      have hB : B.length + (fmtN x).length ≤ 15000000 := by omega
      obtain ⟨a, rest, rfl, ha, hrest⟩ := node_inv rx
      have sq := SqT.of (K := K) (g.gh _ _ ha)
      refine ⟨_, rfl, a, _, _, _, rfl, rfl, sq, atI_zero _ _, rfl, _, rfl, ?_⟩
      cases x with
      | txt s =>
        refine iteS (fun _ => ?_) (fun e => absurd rfl e)
        rw [show rest = _ from hrest] at sq
        rw [fmtN] at hB ⊢
        refine ⟨_, rfl, a, _, _, _, rfl, rfl, sq, rfl, _, rfl, for_over (runs_s (l := s)) (fun j σ H'' => H'' = H' ∧ ∃ v3, σ = [some (.ref ma), some (.str (S (B ++ fmtT (s.take j)))), some (.ref a), v3, v4, v5]) (fun _ _ _ _ => trivial) ⟨rfl, v3, by rw [List.take_zero]; simp [fmtT]⟩ (fun j cv σ H'' hx2 h2 => ?_) (fun σ H'' h2 => ?_)⟩
        · obtain ⟨rfl, v3', rfl⟩ := h2
          rw [List.getElem?_map] at hx2
          cases hq2 : s[j]? with
          | none => rw [hq2] at hx2; cases hx2
          | some c =>
            rw [hq2] at hx2
            cases hx2
            have z := fmtT_take_le s (j + 1)
            rw [take_snoc hq2, fmtT_snoc, List.length_append] at z
            have key : ∀ y : List Nat, y = fmtC c → H'' = H'' ∧ ∃ v3, [some (V.ref ma), some (V.str (S (B ++ fmtT (s.take j) ++ y))), some (V.ref a), some (V.str (S [c])), v4, v5] = [some (V.ref ma), some (V.str (S (B ++ fmtT (s.take (j + 1))))), some (V.ref a), v3, v4, v5] := fun y e => ⟨rfl, some (V.str (S [c])), by rw [take_snoc hq2, fmtT_snoc, e, List.append_assoc]⟩
            refine ⟨_, rfl, rfl, _, rfl, iteS (fun e => ?_) (fun e => ?_)⟩
            · obtain rfl : c = 39 := (List.cons.inj e).1
              have e2 : (fmtC 39).length = 2 := rfl
              exact ⟨_, rfl, _, _, rfl, rfl, by rw [List.length_append]; show _ + 2 ≤ big; unfold big; omega, key _ rfl⟩
            · have n39 : c ≠ 39 := fun z => e (by rw [z])
              refine ⟨_, rfl, _, _, rfl, rfl, _, rfl, iteD (fun e2 => ?_) (fun e2 => ?_)⟩
              · have e3 : c = 123 ∨ c = 125 ∨ c = 35 := by simpa using e2
                have ef : fmtC c = [39, c, 39] := by unfold fmtC; rw [if_neg n39, if_pos e3]
                rw [ef] at z
                have e4 : [39, c, 39].length = 3 := rfl
                refine ⟨_, rfl, _, _, rfl, rfl, by rw [List.length_append]; show _ + 1 ≤ big; unfold big; omega, _, rfl, _, _, rfl, rfl, by simp only [List.length_append, List.length_cons, List.length_nil]; unfold big; omega, _, _, rfl, rfl, by simp only [List.length_append, List.length_cons, List.length_nil]; unfold big; omega, ?_⟩
                refine ⟨rfl, some (V.str (S [c])), ?_⟩
                exact congrArg (fun y => [some (V.ref ma), some (V.str (S y)), some (V.ref a), some (V.str (S [c])), v4, v5]) (show B ++ fmtT (s.take j) ++ [39] ++ [c] ++ [39] = B ++ fmtT (s.take (j + 1)) by rw [take_snoc hq2, fmtT_snoc, ef]; simp)
              · have e3 : ¬ (c = 123 ∨ c = 125 ∨ c = 35) := fun z => e2 (by simpa using z)
                have ef : fmtC c = [c] := by unfold fmtC; rw [if_neg n39, if_neg e3]
                exact ⟨_, rfl, _, rfl, _, _, rfl, rfl, by rw [List.length_append]; show _ + 1 ≤ big; rw [ef] at z; have e4 : [c].length = 1 := rfl; unfold big; omega, key _ ef.symm⟩
        · obtain ⟨rfl, v3', rfl⟩ := h2
          rw [List.length_map, List.take_length]
          exact ⟨_, _, _, _, rfl, g⟩
      | shw n =>
        refine iteS (fun e => absurd e (by show tShow ≠ tText; decide)) (fun _ => ?_)
        refine ⟨_, rfl, a, _, _, _, rfl, rfl, sq, atI_zero _ _, rfl, _, rfl, iteS (fun _ => ?_) (fun e => absurd rfl e)⟩
        rw [show rest = _ from hrest] at sq
        rw [fmtN] at hB ⊢
        simp only [List.length_append, List.length_cons, List.length_nil] at hB
        refine ⟨_, rfl, _, _, rfl, rfl, by show _ + 1 ≤ big; unfold big; omega, _, rfl, a, _, _, _, rfl, rfl, sq, rfl, _, n, rfl, rfl, by simp only [List.length_append, List.length_cons, List.length_nil]; unfold big; omega, _, _, rfl, rfl, by simp only [List.length_append, List.length_cons, List.length_nil]; unfold big; omega, ?_⟩
        exact ⟨some (.ref a), v3, v4, v5, by simp, g⟩
      | num =>
        refine iteS (fun e => absurd e (by show tNum ≠ tText; decide)) (fun _ => ?_)
        refine ⟨_, rfl, a, _, _, _, rfl, rfl, sq, atI_zero _ _, rfl, _, rfl, iteS (fun e => absurd e (by show tNum ≠ tShow; decide)) (fun _ => ?_)⟩
        refine ⟨_, rfl, a, _, _, _, rfl, rfl, sq, atI_zero _ _, rfl, _, rfl, iteS (fun _ => ?_) (fun e => absurd rfl e)⟩
        exact ⟨_, rfl, _, _, rfl, rfl, by show _ + 1 ≤ big; unfold big; omega, some (.ref a), v3, v4, v5, rfl, g⟩
      | cho pl n off cs ot =>
        obtain ⟨cv, ov, hrest, rc, ro⟩ := hrest
        obtain ⟨ca, cvs, rfl, hca, rcv⟩ := rc.lst_inv
        have hlen2 : atI (V.str (S (tagN (.cho pl n off cs ot))) :: rest) (-2) = some (V.ref ca) := by
          cases pl with
          | true => rw [show rest = _ from hrest]; rfl
          | false => rw [show rest = _ from hrest]; rfl
        have hlen1 : atI (V.str (S (tagN (.cho pl n off cs ot))) :: rest) (-1) = some ov := by
          cases pl with
          | true => rw [show rest = _ from hrest]; rfl
          | false => rw [show rest = _ from hrest]; rfl
        have hname : atI (V.str (S (tagN (.cho pl n off cs ot))) :: rest) 1 = some (V.str (S n)) := by
          cases pl with
          | true => rw [show rest = _ from hrest]; rfl
          | false => rw [show rest = _ from hrest]; rfl
        simp only [dpN] at hm1
        simp only [szN] at hm2
        unfold numN at hnx
        obtain ⟨hoff, hnc, hno⟩ := hnx
        have htl : (tagN (.cho pl n off cs ot)).length = 6 := tKind_len pl
        have hfl : (fmtN (.cho pl n off cs ot)).length = 1 + n.length + 2 + 6 + 2 + (fmtO pl off).length + (fmtCs cs).length + 5 + 2 + (fmtM ot).length + 2 := by
          rw [fmtN]
          have := tKind_len pl
          simp only [List.length_append, List.length_cons, List.length_nil, this]; omega
        refine iteS (fun e => absurd e (tag_text (x := .cho pl n off cs ot) rfl)) (fun _ => ?_)
        refine ⟨_, rfl, a, _, _, _, rfl, rfl, sq, atI_zero _ _, rfl, _, rfl, iteS (fun e => absurd e (tag_cho _ _ _ _ _).1) (fun _ => ?_)⟩
        refine ⟨_, rfl, a, _, _, _, rfl, rfl, sq, atI_zero _ _, rfl, _, rfl, iteS (fun e => absurd e (tag_cho _ _ _ _ _).2) (fun _ => ?_)⟩
        refine ⟨_, rfl, _, _, rfl, rfl, by show _ + 1 ≤ big; unfold big; omega, _, rfl, a, _, _, _, rfl, rfl, sq, hname, _, _, rfl, rfl, by simp only [List.length_append, List.length_cons, List.length_nil]; unfold big; omega,
          _, _, rfl, rfl, by simp only [List.length_append, List.length_cons, List.length_nil]; unfold big; omega, _, rfl, a, _, _, _, rfl, rfl, sq, atI_zero _ _, _, _, rfl, rfl, by simp only [List.length_append, List.length_cons, List.length_nil, htl]; unfold big; omega, _, _, rfl, rfl, by simp only [List.length_append, List.length_cons, List.length_nil, htl]; unfold big; omega, ?_⟩
        -- behind the offset
        have rest2 : ∀ (D : Ends), D.nx = (fun σ H' => ∃ v2 v3 v4 v5, σ = [some (.ref ma), some (.str (S (B ++ fmtN (.cho pl n off cs ot)))), v2, v3, v4, v5] ∧ Gw [] G H G H') → ∀ B2 : List Nat, B2 = B ++ ([123] ++ (n ++ ([44, 32] ++ (tKind pl ++ ([44, 32] ++ fmtO pl off))))) →
            tSeq (tFor (iList K (tOp (rIxT K) (tVar 2) (tUn (rU fun i => .int (-i)) (tC (.int 2))))) (gTup K 2 (gCons (gName 4) (gCons (gName 5) gNil)))
              (tAsg (tOp rAddS (tOp rAddS (tOp rAddS (tOp rAddS (tOp rAddS (tVar 1) (tOp (rIxL K) (tLst (tCons (tC (.str (S []))) (tCons (tC (.str (S [61]))) tNil))) (tCB (fun xs H Q => (∃ i, xs = [.int i] ∧ Q (.int i) H) ∨ ∃ k, xs = [.bl k] ∧ Q (.int (if k then 1 else 0)) H) (tCons (tCB (rIsi K) (tCons (tVar 4) (tCons (tC (.ty "int")) tNil))) tNil)))) (tCB (fun xs H Q => (∃ n : Nat, xs = [.int n] ∧ n ≤ 1000 ∧ Q (.str (S (TL.numL n))) H) ∨ ∃ l : List Nat, xs = [.str (S l)] ∧ Q (.str (S l)) H) (tCons (tVar 4) tNil))) (tC (.str (S [32, 123])))) (tCall (spFmt K d) [] C8.E0 (tCons (tVar 5) tNil))) (tC (.str (S [125, 32])))) (gName 1)))
              (tAsg (tOp rAddS (tOp rAddS (tOp rAddS (tVar 1) (tC (.str (S [111, 116, 104, 101, 114, 32, 123])))) (tCall (spFmt K d) [] C8.E0 (tCons (tOp (rIxT K) (tVar 2) (tUn (rU fun i => .int (-i)) (tC (.int 1)))) tNil))) (tC (.str (S [125, 125])))) (gName 1))
              D [some (.ref ma), some (.str (S B2)), some (.ref a), v3, v4, v5] H' := by
          intro D hD B2 hB2
          have hB2l : B2.length = B.length + 1 + n.length + 2 + 6 + 2 + (fmtO pl off).length := by
            rw [hB2]
            have := tKind_len pl
            simp only [List.length_append, List.length_cons, List.length_nil, this]; omega
          refine ⟨_, rfl, _, rfl, a, _, _, _, rfl, rfl, sq, hlen2, ca, rfl, ⟨_, SqL.of (g.gh _ _ hca)⟩, for_over (runs_l (xs := cvs)) (fun j σ H'' => ∃ v4 v5, σ = [some (.ref ma), some (.str (S (B2 ++ fmtCs (cs.take j)))), some (.ref a), v3, v4, v5] ∧ Gw [] G H G H'') (fun j σ H'' h => ?_) ⟨v4, v5, by rw [List.take_zero]; simp [fmtCs], g⟩ (fun j yv σ H'' hx2 h2 => ?_) (fun σ H'' h2 => ?_)⟩
          · obtain ⟨_, _, _, g2⟩ := h
            exact SqL.of (g2.gh _ _ hca)
          · obtain ⟨v4', v5', rfl, g2⟩ := h2
            obtain ⟨dd, hdd, rx2⟩ := rcv.get hx2
            rw [encC_get] at hdd
            cases hq2 : cs[j]? with
            | none => rw [hq2] at hdd; cases hdd
            | some km2 =>
              obtain ⟨k, m2⟩ := km2
              rw [hq2] at hdd
              cases hdd
              obtain ⟨xa, ys, rfl, hxa, ry⟩ := rx2.tup_inv
              obtain ⟨y1, ys1, rfl, r1, ry1⟩ := ry.cons_inv
              obtain ⟨y2, ys2, rfl, r2, ry2⟩ := ry1.cons_inv
              obtain rfl := ry2.nil_inv
              obtain rfl := r1.key_inv
              have hmem2 : (k, m2) ∈ cs := List.mem_of_getElem? hq2
              have f1 := mem_numC hnc hmem2
              have f2 := mem_dpC hmem2
              have f3 := mem_szC hmem2
              have hct := fmtCs_take_le cs (j + 1)
              rw [fmtCs_snoc hq2] at hct
              simp only [List.length_append, List.length_cons, List.length_nil] at hct
              refine ⟨xa, _, rfl, SqT.of (g2.gh _ _ hxa), rfl, _, _, rfl, _, _, rfl, rfl, ?_⟩
              refine ⟨_, rfl, by show 2 ≤ sizeLine; exact szOf (by decide), fun lt hlt => ?_⟩
              have g3 : Gw [] G H'' G _ := Gw.allocM (o := HO.lst [V.str (S []), V.str (S [61])]) g2.gh hlt
              have fin : ∀ (H3 : Hp), Gw [] G H'' G H3 → ∀ T1 : List Nat, T1 = B2 ++ fmtCs (cs.take j) ++ fmtK k → (∀ H4, Gw [] G H'' G H4 → ∃ v4 v5, [some (V.ref ma), some (V.str (S (T1 ++ [32, 123] ++ fmtM m2 ++ [125, 32]))), some (V.ref a), v3, some (encV k), some y2] = [some (V.ref ma), some (V.str (S (B2 ++ fmtCs (cs.take (j + 1))))), some (V.ref a), v3, v4, v5] ∧ Gw [] G H G H4) := fun H3 g3 T1 e H4 g4 => ⟨some (encV k), some y2, by rw [e, fmtCs_snoc hq2]; simp, g2.trans g4⟩
              cases k with
              | ix jx =>
                have hjx : jx ≤ 999 := f1.1
                have hk1 : (fmtK (.ix jx)).length = (TL.numL jx).length + 1 := rfl
                refine ⟨_, rfl, _, _, _, _, true, rfl, .ty "int", .base (.int _), kit_ty (by decide +kernel), .inr ⟨true, rfl, lt, _, _, _, rfl, rfl, SqL.of upd_same, rfl, _, _, rfl, rfl, by simp only [List.length_append, List.length_cons, List.length_nil]; unfold big; omega, ?_⟩⟩
                refine ⟨_, rfl, .inl ⟨jx, rfl, by omega, _, _, rfl, rfl, by simp only [List.length_append, List.length_cons, List.length_nil]; unfold big; omega, _, _, rfl, rfl, by simp only [List.length_append, List.length_cons, List.length_nil]; unfold big; omega, ?_⟩⟩
                refine ⟨_, rfl, G, y2, m2, rfl, g3.gh, r2, by omega, by omega, f1.2, fun H4 g4 => ?_⟩
                refine ⟨_, _, rfl, rfl, by simp only [List.length_append, List.length_cons, List.length_nil]; unfold big; omega, _, _, rfl, rfl, by simp only [List.length_append, List.length_cons, List.length_nil]; unfold big; omega, ?_⟩
                exact fin _ g3 _ (by simp [fmtK]) H4 (g3.trans g4)
              | wd wx =>
                refine ⟨_, rfl, _, _, _, _, false, rfl, .ty "int", .base (.str _), kit_ty (by decide +kernel), .inr ⟨false, rfl, lt, _, _, _, rfl, rfl, SqL.of upd_same, rfl, _, _, rfl, rfl, by simp only [List.length_append, List.length_cons, List.length_nil]; unfold big; omega, ?_⟩⟩
                have hk1 : (fmtK (.wd wx)).length = wx.length := rfl
                refine ⟨_, rfl, .inr ⟨wx, rfl, _, _, rfl, rfl, by simp only [List.length_append, List.length_cons, List.length_nil]; unfold big; omega, _, _, rfl, rfl, by simp only [List.length_append, List.length_cons, List.length_nil]; unfold big; omega, ?_⟩⟩
                refine ⟨_, rfl, G, y2, m2, rfl, g3.gh, r2, by omega, by omega, f1.2, fun H4 g4 => ?_⟩
                refine ⟨_, _, rfl, rfl, by simp only [List.length_append, List.length_cons, List.length_nil]; unfold big; omega, _, _, rfl, rfl, by simp only [List.length_append, List.length_cons, List.length_nil]; unfold big; omega, ?_⟩
                exact fin _ g3 _ (by simp [fmtK]) H4 (g3.trans g4)
          · obtain ⟨v4', v5', rfl, g2⟩ := h2
            have e : cvs.length = cs.length := by rw [rcv.length, encC_len]
            rw [e, List.take_length]
            have sq2 := SqT.of (K := K) (g2.gh _ _ ha)
            refine ⟨_, rfl, _, _, rfl, rfl, by simp only [List.length_append, List.length_cons, List.length_nil]; unfold big; omega, ?_⟩
            refine ⟨_, rfl, _, rfl, a, _, _, _, rfl, rfl, sq2, hlen1, G, ov, ot, rfl, g2.gh, ro, by omega, by omega, hno, fun H4 g4 => ?_⟩
            refine ⟨_, _, rfl, rfl, by simp only [List.length_append, List.length_cons, List.length_nil]; unfold big; omega, _, _, rfl, rfl, by simp only [List.length_append, List.length_cons, List.length_nil]; unfold big; omega, ?_⟩
            show D.nx _ _
            rw [hD]
            refine ⟨some (.ref a), v3, v4', v5', ?_, g2.trans g4⟩
            have e3 : B2 ++ fmtCs cs ++ [111, 116, 104, 101, 114, 32, 123] ++ fmtM ot ++ [125, 125] = B ++ fmtN (.cho pl n off cs ot) := by
              rw [hB2, fmtN]; simp
            exact congrArg (fun y => [some (V.ref ma), some (V.str (S y)), some (V.ref a), v3, v4', v5']) e3
        refine ⟨_, rfl, a, _, _, _, rfl, rfl, sq, atI_zero _ _, rfl, _, rfl, ?_⟩
        cases pl with
        | false =>
          refine iteS (fun e => absurd e (by show tSel ≠ tPlu; decide)) (fun _ => iteF ?_)
          refine rest2 _ rfl _ ?_
          have : fmtO false off = [] := by unfold fmtO; rw [if_neg (by simp)]
          rw [this]; simp [tagN]
        | true =>
          refine iteS (fun _ => ?_) (fun e => absurd rfl e)
          have sq1 := sq
          rw [show rest = _ from hrest] at sq1
          refine ⟨_, rfl, a, _, _, _, rfl, rfl, sq1, rfl, _, _, rfl, rfl, _, rfl, iteD (fun hp => ?_) (fun hp => ?_)⟩
          · have ho : fmtO true off = tOff ++ (TL.numL off ++ [32]) := by unfold fmtO; rw [if_pos ⟨rfl, by omega⟩]
            rw [ho] at hfl
            simp only [List.length_append, List.length_cons, List.length_nil] at hfl
            refine ⟨_, rfl, _, _, rfl, rfl, by simp only [List.length_append, List.length_cons, List.length_nil, htl]; unfold big; omega, _, rfl, a, _, _, _, rfl, rfl, sq1, rfl, .inl ⟨off, rfl, by omega, _, _, rfl, rfl, by simp only [List.length_append, List.length_cons, List.length_nil, htl]; unfold big; omega, _, _, rfl, rfl, by simp only [List.length_append, List.length_cons, List.length_nil, htl]; unfold big; omega, ?_⟩⟩
            refine rest2 _ rfl _ ?_
            rw [ho]; simp [tagN]
          · refine rest2 _ rfl _ ?_
            have : fmtO true off = [] := by unfold fmtO; rw [if_neg (by intro z; omega)]
            rw [this]; simp [tagN]
  · obtain ⟨v2, v3, v4, v5, rfl, g⟩ := h
    have e : mvs.length = m.length := by rw [rm.length, encM_len]
    rw [e, List.take_length]
    exact ⟨_, rfl, q H' g⟩
theorem lfmts (T : Tx K mg) : ∀ d : Nat, C8.Cal P w K mg base (d + 1) "_law_notation" (spFmt K d) []
  | 0 => by
    refine cal_of (k := 0) T.d_law_notation T.g_law_notation (fun _ _ _ _ _ _ us hl => match us, hl with | [_], _ => rfl) sc_law_notation (fun vs H Q E h => ?_) (fun cdv A outer s H vs Q E hr h => ?_)
    · obtain ⟨G, v, m, rfl, _⟩ := h; rfl
    · obtain ⟨G, v, m, rfl, s0, rv, hd, _⟩ := h
      exact absurd hd (by omega)
  | d + 1 => ok_law_notation T (by omega) (lfmts T d)
end
end Mw

set_option Elab.async false
set_option linter.all false
set_option maxRecDepth 100000
set_option maxHeartbeats 4000000
/-! MwL8: the law's body_told. -/
namespace Mw
open PySem PySem.Spec L2
open SX (S S_cat S_len S_inj)
theorem allO_ok {r : List Nat} (h : allO r) : allOk r := fun c hc => by
  have := h c hc
  unfold okO at this
  unfold okC; omega
theorem msgO_law {r : List Nat} (h : allO r) : msgO r = match lMsg false [] r with
    | some (m, []) => some m
    | _ => none := by
  have R := readers (allO_ok h)
  cases hl : lMsg false [] r with
  | none =>
    unfold msgO
    rw [if_pos h]
    split
    · next m e =>
      split
      · next ef => have := R.1 m e ef; rw [hl] at this; cases this
      · rfl
    · rfl
  | some q =>
    obtain ⟨m, t⟩ := q
    cases t with
    | nil =>
      obtain ⟨m', h1, h2, h3⟩ := R.2 m hl
      unfold msgO
      rw [if_pos h, h1]
      dsimp only
      rw [if_pos h3, h2]
    | cons c t =>
      unfold msgO
      rw [if_pos h]
      split
      · next m e =>
        split
        · next ef => have := R.1 m e ef; rw [hl] at this; cases this
        · rfl
      · rfl
theorem okName_iff (w : List Nat) : okName w ↔ 1 ≤ w.length ∧ w.length ≤ 8 ∧ w.takeWhile isLet = w := by
  unfold okName
  constructor
  · rintro ⟨h1, h2, h3⟩; exact ⟨h1, h2, (takeWhile_full h3).1⟩
  · rintro ⟨h1, h2, h3⟩; exact ⟨h1, h2, by rw [← h3]; exact takeWhile_all _ _⟩
theorem okName_allO {w : List Nat} (h : okName w) : allO w := fun c hc => let_okO (List.all_eq_true.mp h.2.2 c hc)
section
variable {P : Program} {w : World} {K : PySem.W.Frag} {mg : Str → Option Value} {base : Heap}
theorem ok_law_body_told (T : Tx K mg) : C8.Cal P w K mg base 111 "_law_body_told" (spDeed K) [] := by
  refine cal_of T.d_law_body_told T.g_law_body_told (fun _ _ _ _ _ _ us hl => match us, hl with | [_], _ => rfl) sc_law_body_told (fun vs H Q E h => ?_) (fun cdv A outer s H vs Q E hr h => ?_)
  · obtain ⟨G, a, ns, rfl, _⟩ := h; rfl
  obtain ⟨G, a, ns, rfl, s0, ha, hl, dep, q0, q1⟩ := h
  have c_law_signs : C8.Cal P w K mg base 1 "_law_signs" (spText K) [] := ok_law_signs T
  have c_law_word : C8.Cal P w K mg base 1 "_law_word" spLWord [] := ok_law_word T
  have c_law_parsed : C8.Cal P w K mg base (3 * 36 + 2) "_law_parsed" (spLMsg K (4 * (36 : Nat) - 1)) [] := lreader T 36
  refine ⟨_, (pss_cons (ps_if (pt_cmpR (op_eqD hr.units) (pv 0) (pe_lst (pa_cons pe_int pa_nil)) (nomark _))
      (pss_one (ps_ret (pe_tup (pa_cons (pe_s [117, 110, 100, 111]) pa_nil))))
      pss_nil)
    (pss_cons (ps_if (PW.pt (pw_or (pt_cmpR op_eq (pe_callB call_lenL (by rfl) T.f_len (by decide +kernel) (pa_cons (pv 0) pa_nil)) pe_int (nomark _)) (pw_or1 (pt_cmpR op_notIn_seq (pe_ix ix_list (pv 0) pe_int (fun _ _ => rfl)) (pe_lst (pa_cons pe_int (pa_cons pe_int pa_nil))) rfl))))
      (pss_one (ps_ret pe_non))
      pss_nil)
    (pss_cons (ps_set (i := 1) sc_law_body_told.nd rfl (Or.inl rfl) (C8.pe_c c_law_signs hr (by omega) rfl (pa_cons (pe_slice sl_L (pv 0) (po_some (pe_op op_sub pe_int (pe_ix ix_list (pv 0) pe_int (fun _ _ => rfl)))) po_none) pa_nil)))
    (pss_cons (ps_if (PW.pt (pw_or (pt_cmp (pc_isN (pv 1))) (pw_or1 (PW.pt (pw_and (pt_cmpR op_eq (pe_ix ix_list (pv 0) pe_int (fun _ _ => rfl)) pe_int (nomark _)) (pw_and1 (pt_cmpR op_lt (pe_callB call_lenL (by rfl) T.f_len (by decide +kernel) (pa_cons (pv 0) pa_nil)) pe_int (nomark _))))))))
      (pss_one (ps_ret pe_non))
      pss_nil)
    (pss_cons (ps_if (pt_cmpR op_eq (pe_ix ix_list (pv 0) pe_int (fun _ _ => rfl)) pe_int (nomark _))
      (pss_cons (ps_if (PW.pt (pw_and (pt_chain op_le op_le pe_int (pe_callB call_lenS (by rfl) T.f_len (by decide +kernel) (pa_cons (pv 1) pa_nil)) pe_int) (pw_and1 (pt_cmpR op_eq (C8.pe_c c_law_word hr (by omega) rfl (pa_cons (pv 1) (pa_cons pe_int pa_nil))) (pv 1) (nomark _)))))
        (pss_one (ps_ret (pe_tup (pa_cons (pe_s [100, 114, 111, 112]) (pa_cons (pv 1) pa_nil)))))
        pss_nil)
      (pss_one (ps_ret pe_non)))
      pss_nil)
    (pss_cons (ps_set (i := 2) sc_law_body_told.nd rfl (Or.inl rfl) (pe_ix ix_list (pv 0) pe_int (fun _ _ => rfl)))
    (pss_cons (ps_if (PW.pt (pw_or (pt_not (pt_chain op_le op_le pe_int (pv 2) pe_int)) (pw_or (pt_cmpR op_lt (pe_callB call_lenS (by rfl) T.f_len (by decide +kernel) (pa_cons (pv 1) pa_nil)) (pv 2) (nomark _)) (pw_or1 (pt_cmpR op_ne (pe_callB call_lenS (by rfl) T.f_len (by decide +kernel) (pa_cons (C8.pe_c c_law_word hr (by omega) rfl (pa_cons (pe_slice sl_S (pv 1) po_none (po_some (pv 2))) (pa_cons pe_int pa_nil))) pa_nil)) (pv 2) (nomark _))))))
      (pss_one (ps_ret pe_non))
      pss_nil)
    (pss_cons (ps_set (i := 3) sc_law_body_told.nd rfl (Or.inl rfl) (C8.pe_c c_law_parsed hr (by omega) rfl (pa_cons (pe_slice sl_S (pv 1) (po_some (pv 2)) po_none) (pa_cons pe_int (pa_cons pe_bl pa_nil)))))
    (pss_cons (ps_if (PW.pt (pw_or (pt_cmp (pc_isN (pv 3))) (pw_or1 (pt_cmpR op_ne (pe_ix ix_list (pv 3) pe_int (fun _ _ => rfl)) (pe_op op_sub (pe_callB call_lenS (by rfl) T.f_len (by decide +kernel) (pa_cons (pv 1) pa_nil)) (pv 2)) (nomark _)))))
      (pss_one (ps_ret pe_non))
      pss_nil)
    (pss_one (ps_ret (pe_tup (pa_cons (pe_s [112, 117, 116]) (pa_cons (pe_slice sl_S (pv 1) po_none (po_some (pv 2))) (pa_cons (pe_ix ix_list (pv 3) pe_int (fun _ _ => rfl)) pa_nil))))))))))))))), ?_⟩
  refine ⟨_, rfl, by show 1 ≤ sizeLine; exact szOf (by decide), fun b1 hb1 => ?_⟩
  have g1 : Gw [] G H G _ := Gw.allocM (o := HO.lst [V.int 3]) s0 hb1
  have ha1 := g1.same _ _ ha
  refine eq_oct (ms := [3]) (SqL.of ha1) (SqL.of upd_same) ⟨_, rfl, iteD (fun h1 => ?_) (fun h1 => ?_)⟩
  · refine ⟨by show 1 ≤ sizeLine; exact szOf (by decide), fun p hp => ?_⟩
    have g2 : Gw [] G _ _ _ := Gw.alloc (o := HO.tup [V.str (S tUnd)]) g1.gh hp
    exact q1 .undo (by unfold deedP; rw [if_pos h1]) _ _ _ (g1.trans g2) (.tup upd_same (.cons (.str _) .nil))
  have e1 : deedP ns = if ns.take 1 = [2] ∧ okName (ns.drop 1) then some (.drop (ns.drop 1))
      else if ns.take 1 = [1] ∧ 1 < ns.length then
        (if okName (keyP ns) ∧ (keyP ns).length = ns.getD 1 0 then (msgO (ns.drop (2 + ns.getD 1 0))).map (.put (keyP ns)) else none)
      else none := by unfold deedP; rw [if_neg h1]
  refine ⟨_, rfl, a, _, rfl, SqL.of ha1, rfl, _, rfl, iteI (fun hz => ?_) (fun hnz => ?_)⟩
  · refine iteT (q0 ?_ _ _ g1)
    rw [List.length_map] at hz
    have : ns = [] := List.length_eq_zero_iff.mp (by omega)
    rw [e1, this]; rfl
  rw [List.length_map] at hnz
  obtain ⟨o, r, hns⟩ : ∃ o r, ns = o :: r := by
    cases ns with
    | nil => exact absurd rfl hnz
    | cons o r => exact ⟨o, r, rfl⟩
  have ht1 : ns.take 1 = [o] := by rw [hns]; rfl
  have hat0 : atI (iv ns) 0 = some (V.int (o : Nat)) := by rw [hns]; exact atI_zero _ _
  refine ⟨_, rfl, a, _, _, _, rfl, rfl, SqL.of ha1, hat0, by show 2 ≤ sizeLine; exact szOf (by decide), fun tt htt => ?_⟩
  have g2 : Gw [] G _ G _ := Gw.allocM (o := HO.lst [V.int 1, V.int 2]) g1.gh htt
  have w2 := g1.trans g2
  refine ⟨tt, _, rfl, .inl (SqL.of upd_same), rfl, rfl, _, rfl, ?_⟩
  have hin : inV (V.int (o : Nat)) [V.int 1, V.int 2] = decide (o = 1 ∨ o = 2) := by
    show (((1 : Int) == (o : Int)) || (((2 : Int) == (o : Int)) || false)) = _
    rw [Bool.eq_iff_iff]
    simp
    omega
  rw [hin]
  refine iteDN (fun hno => ?_) (fun ho => ?_)
  · refine q0 ?_ _ _ w2
    rw [e1, ht1, if_neg (fun z => hno (.inr (List.cons.inj z.1).1)), if_neg (fun z => hno (.inl (List.cons.inj z.1).1))]
  have ha2 := w2.same _ _ ha
  refine ⟨_, rfl, _, rfl, a, _, _, _, rfl, rfl, SqL.of ha2, hat0, _, _, rfl, rfl, _, rfl, a, _, some (3 - o), none, rfl, SqL.of ha2, ?_, rfl, fun r3 hr3 => ?_⟩
  · show some ((3 : Int) - (o : Int)) = some ((3 - o : Nat) : Int)
    congr 1
    omega
  rw [cut_iv, cut_lo]
  have g3 : Gw [] G _ G _ := Gw.allocM (o := HO.lst (iv (ns.drop (3 - o)))) w2.gh hr3
  have w3 := w2.trans g3
  have ha3 := w3.same _ _ ha
  have hr3b : _ = some (HO.lst (iv (ns.drop (3 - o)))) := upd_same (H := upd (upd H b1 (HO.lst [V.int 3])) tt (HO.lst [V.int 1, V.int 2])) (a := r3)
  clear g3
  generalize upd (upd (upd H b1 (HO.lst [V.int 3])) tt (HO.lst [V.int 1, V.int 2])) r3 (HO.lst (iv (ns.drop (3 - o)))) = H3 at w3 ha3 hr3b ⊢
  have htl : (ns.drop (3 - o)).length ≤ 100000 := by rw [List.length_drop]; omega
  refine ⟨r3, ns.drop (3 - o), rfl, SqL.of hr3b, htl, fun hall => ?_, fun hno => ?_⟩
  · have htb : (ns.drop (3 - o)).length ≤ big := Nat.le_trans htl (by decide)
    refine ⟨_, rfl, _, rfl, iteD (fun z => by cases z) (fun _ => ?_)⟩
    refine ⟨_, rfl, a, _, _, _, rfl, rfl, SqL.of ha3, hat0, rfl, _, rfl, iteI (fun ho1 => ?_) (fun ho1 => ?_)⟩
    · -- a put
      have ho1' : o = 1 := by omega
      subst ho1'
      refine ⟨_, rfl, a, _, rfl, SqL.of ha3, _, _, rfl, rfl, _, rfl, iteD (fun hlt => ?_) (fun hlt => ?_)⟩
      · rw [List.length_map] at hlt
        refine q0 ?_ _ _ w3
        rw [e1, ht1, if_neg (fun z => absurd z.1 (by decide)), if_neg (fun z => by have := z.2; omega)]
      rw [List.length_map] at hlt
      have hlen : 1 < ns.length := by omega
      rw [ht1, if_neg (fun z => absurd z.1 (by decide)), if_pos ⟨rfl, hlen⟩] at e1
      have hat1 : atI (iv ns) 1 = some (V.int ((ns.getD 1 0 : Nat) : Int)) := at_iv (i := 1) (getD_some hlen)
      refine ⟨_, rfl, a, _, _, _, rfl, rfl, SqL.of ha3, hat0, rfl, _, rfl, iteI (fun z => absurd z (by decide)) (fun _ => ?_)⟩
      refine ⟨_, rfl, a, _, _, _, rfl, rfl, SqL.of ha3, hat1, ?_⟩
      have hkp : keyP ns = (ns.drop 2).take (ns.getD 1 0) := rfl
      have hrest : ns.drop (2 + ns.getD 1 0) = (ns.drop 2).drop (ns.getD 1 0) := by rw [List.drop_drop]
      have hdd : (3 - 1 : Nat) = 2 := rfl
      rw [hdd] at hall htl htb ⊢
      have dep2 : Dep (ns.drop (2 + ns.getD 1 0)) 143 := dep _
      generalize ns.getD 1 0 = k at e1 hkp hrest dep2 ⊢
      rw [hkp, hrest] at e1
      rw [hrest] at dep2
      generalize ns.drop 2 = r at e1 hall htl htb dep2 ⊢
      refine ⟨_, rfl, _, _, rfl, rfl, _, rfl, iteD (fun hk1 => ?_) (fun hk1 => ?_)⟩
      · refine ⟨_, _, rfl, rfl, _, rfl, iteDN (fun hk8 => ?_) (fun hk8 => ?_)⟩
        · refine iteT (q0 ?_ _ _ w3)
          rw [e1, if_neg (fun z => hk8 (by have := z.1.2.1; rw [z.2] at this; omega))]
        · refine ⟨_, rfl, r, rfl, htb, _, rfl, _, _, rfl, rfl, _, rfl, iteD (fun hkl => ?_) (fun hkl => ?_)⟩
          · refine iteT (q0 ?_ _ _ w3)
            rw [e1, if_neg (fun z => by have := z.2; rw [List.length_take] at this; omega)]
          · have hkl' : k ≤ r.length := by omega
            have hkt : (r.take k).length = k := by rw [List.length_take]; omega
            refine ⟨_, rfl, _, rfl, _, rfl, r, none, some k, rfl, rfl, rfl, htb, ?_⟩
            rw [cut_hi]
            refine ⟨r.take k, 0, rfl, by omega, ?_⟩
            rw [List.drop_zero]
            have hwl : ((r.take k).takeWhile isLet).length ≤ (r.take k).length := takeWhile_le _ _
            refine ⟨(r.take k).takeWhile isLet, rfl, by unfold big; omega, _, rfl, rfl, _, rfl, iteIN (fun hne => ?_) (fun he => ?_)⟩
            · refine q0 ?_ _ _ w3
              rw [e1, if_neg (fun z => hne (by rw [((okName_iff _).mp z.1).2.2, z.2]))]
            · have htw : (r.take k).takeWhile isLet = r.take k := by
                have hp : (r.take k).takeWhile isLet = (r.take k).take ((r.take k).takeWhile isLet).length := (take_takeWhile _ _).symm
                rw [hp]
                have : ((r.take k).takeWhile isLet).length = k := by omega
                rw [this, List.take_of_length_le (by omega)]
              have hname : okName (r.take k) := (okName_iff _).mpr ⟨by omega, by omega, htw⟩
              rw [if_pos ⟨hname, hkt⟩] at e1
              have hall2 : allO (r.drop k) := fun c hc => hall c (List.drop_subset _ _ hc)
              rw [msgO_law hall2] at e1
              refine ⟨_, rfl, _, rfl, _, rfl, r, some k, none, rfl, rfl, rfl, htb, ?_⟩
              rw [cut_lo]
              have hdl : (r.drop k).length = r.length - k := by rw [List.length_drop]
              refine ⟨G, r.drop k, 0, false, rfl, w3.gh, by omega, Nat.zero_le _, allO_ok hall2, by rw [List.drop_zero]; exact dep2, fun m t e5 G5 H5 ia mv p5 g5 e5' hp5 hia rm => ?_, fun e5 G5 H5 g5 => ?_⟩
              · rw [List.drop_zero] at e5
                rw [e5] at e1
                have w5 := w3.trans g5
                have sqi := SqL.of (K := K) hia
                refine ⟨_, rfl, _, rfl, iteD (fun z => by cases z) (fun _ => ?_)⟩
                refine ⟨_, rfl, ia, _, _, _, rfl, rfl, sqi, rfl, _, rfl, r, rfl, htb, _, rfl, _, _, rfl, rfl, rfl, _, rfl, iteIN (fun hpe => ?_) (fun hpe => ?_)⟩
                · refine q0 ?_ _ _ w5
                  rw [e1]
                  cases t with
                  | nil =>
                    have := drop_nil e5'
                    exact absurd (by omega) hpe
                  | cons c t => rfl
                · have ht0 : t = [] := by
                    rw [← e5']
                    exact List.drop_eq_nil_of_le (by omega)
                  rw [ht0] at e1
                  refine ⟨_, rfl, _, rfl, _, rfl, ?_⟩
                  refine ⟨r, none, some k, rfl, rfl, rfl, htb, ?_⟩
                  rw [cut_hi]
                  refine ⟨_, rfl, ia, _, _, _, rfl, rfl, sqi, atI_zero _ _, by show 3 ≤ sizeLine; exact szOf (by decide), fun p hp => ?_⟩
                  have g6 : Gw [] G5 H5 _ _ := Gw.alloc (o := HO.tup [V.str (S tPut), V.str (S (r.take k)), mv]) g5.gh hp
                  exact q1 _ e1 _ _ _ (w5.trans g6) (.tup upd_same (.cons (.str _) (.cons (.str _) (.cons (rm.same g6.gg) .nil))))
              · rw [List.drop_zero] at e5
                rw [e5] at e1
                exact ⟨_, rfl, _, rfl, iteD (fun _ => iteT (q0 e1 _ _ (w3.trans g5))) (fun z => absurd rfl z)⟩
      · refine ⟨_, rfl, iteT (q0 ?_ _ _ w3)⟩
        rw [e1, if_neg (fun z => hk1 (by have := z.1.1; rw [z.2] at this; omega))]
    · -- a drop
      have ho2 : o = 2 := by omega
      subst ho2
      refine iteF ?_
      refine ⟨_, rfl, a, _, _, _, rfl, rfl, SqL.of ha3, hat0, rfl, _, rfl, iteI (fun _ => ?_) (fun z => absurd rfl z)⟩
      have hdd : (3 - 2 : Nat) = 1 := rfl
      rw [hdd] at hall htl htb ⊢
      rw [ht1] at e1
      rw [if_neg (c := [2] = [1] ∧ 1 < ns.length) (fun z => absurd z.1 (by decide))] at e1
      generalize ns.drop 1 = r at e1 hall htl htb ⊢
      have bad : ¬ okName r → Q .non _ := fun z => q0 (by rw [e1, if_neg (fun y => z y.2)]) _ _ w3
      refine ⟨_, rfl, r, rfl, htb, _, _, rfl, rfl, _, rfl, iteD (fun hk1 => ?_) (fun hk1 => ?_)⟩
      · refine ⟨_, _, rfl, rfl, _, rfl, iteD (fun hk8 => ?_) (fun hk8 => ?_)⟩
        · refine ⟨_, rfl, r, 0, rfl, htl, ?_⟩
          rw [List.drop_zero]
          refine ⟨_, rfl, rfl, _, rfl, iteS (fun he => ?_) (fun hne => bad (fun z => hne ((okName_iff _).mp z).2.2))⟩
          have hname : okName r := (okName_iff _).mpr ⟨by omega, by omega, he⟩
          refine ⟨_, rfl, by show 2 ≤ sizeLine; exact szOf (by decide), fun p hp => ?_⟩
          have g6 : Gw [] G _ _ _ := Gw.alloc (o := HO.tup [V.str (S tDrp), V.str (S r)]) w3.gh hp
          exact q1 (.drop r) (by rw [e1, if_pos ⟨rfl, hname⟩]) _ _ _ (w3.trans g6) (.tup upd_same (.cons (.str _) (.cons (.str _) .nil)))
        · exact iteF (bad (fun z => hk8 (by have := z.2.1; omega)))
      · exact ⟨_, rfl, iteF (iteF (bad (fun z => hk1 (by have := z.1; omega))))⟩
  · refine ⟨_, rfl, _, rfl, iteD (fun _ => iteT (q0 ?_ _ _ w3)) (fun z => absurd rfl z)⟩
    rw [e1, ht1]
    rcases ho with rfl | rfl
    · rw [if_neg (fun z => absurd z.1 (by decide))]
      split
      · split
        · next hk =>
          have hk1 : okName ((ns.drop 2).take (ns.getD 1 0)) := hk.1
          cases hm : msgO (ns.drop (2 + ns.getD 1 0)) with
          | none => rfl
          | some m =>
            exfalso
            apply hno
            have ha2 : allO (ns.drop (2 + ns.getD 1 0)) := by
              unfold msgO at hm
              split at hm
              · assumption
              · cases hm
            intro c hc
            have hc : c ∈ ns.drop 2 := hc
            rw [← List.take_append_drop (ns.getD 1 0) (ns.drop 2), List.drop_drop] at hc
            rcases List.mem_append.mp hc with hc | hc
            · exact okName_allO hk1 c hc
            · exact ha2 c hc
        · rfl
      · rfl
    · rw [if_neg (fun z => hno (okName_allO z.2)), if_neg (fun z => absurd z.1 (by decide))]
end
end Mw

set_option Elab.async false
set_option linter.all false
set_option maxRecDepth 100000
set_option maxHeartbeats 4000000
/-! MwL9: the law's read and record. -/
namespace Mw
open PySem PySem.Spec L2
open SX (S S_cat S_len S_inj)
section
variable {P : Program} {w : World} {K : PySem.W.Frag} {mg : Str → Option Value} {base : Heap}
theorem ok_law_read (T : Tx K mg) : C8.Cal P w K mg base 112 "_law_read" (spRec deedP) [] := by
  refine cal_of T.d_law_read T.g_law_read (fun _ _ _ _ _ _ us hl => match us, hl with | [_], _ => rfl) sc_law_read (fun vs H Q E h => ?_) (fun cdv A outer s H vs Q E hr h => ?_)
  · obtain ⟨G, a, ns, rfl, _⟩ := h; rfl
  obtain ⟨G, a, ns, rfl, s0, ha, hl, dep, q⟩ := h
  have c_law_body_told : C8.Cal P w K mg base 111 "_law_body_told" (spDeed K) [] := ok_law_body_told T
  refine ⟨_, (pss_cons (ps_set (i := 1) sc_law_read.nd rfl (Or.inl rfl) (pe_lst pa_nil))
    (pss_cons (ps_set (i := 2) sc_law_read.nd rfl (Or.inl rfl) pe_int)
    (pss_cons (ps_while PassesOwn.never (pt_cmpR op_lt (pe_op op_add (pv 2) pe_int) (pe_callB call_lenL (by rfl) T.f_len (by decide +kernel) (pa_cons (pv 0) pa_nil)) (nomark _))
      (pss_cons (ps_set (i := 3) sc_law_read.nd rfl (Or.inl rfl) (pe_slice sl_L (pv 0) (po_some (pe_op op_add (pv 2) pe_int)) po_none))
      (pss_cons (ps_set (i := 4) sc_law_read.nd rfl (Or.inl rfl) (pe_op op_add (pe_op op_mul pe_int (pe_ix ix_list (pv 0) (pv 2) (fun _ _ => rfl))) (pe_ix ix_list (pv 0) (pe_op op_add (pv 2) pe_int) (fun _ _ => rfl))))
      (pss_cons (ps_if (PW.pt (pw_or (pt_cmpR op_lt (pe_callB call_lenL (by rfl) T.f_len (by decide +kernel) (pa_cons (pv 3) pa_nil)) (pe_op op_add (pv 4) pe_int) (nomark _)) (pw_or (pt_cmpR op_ne (pe_ix ix_list (pv 3) (pe_op op_add (pv 4) pe_int) (fun _ _ => rfl)) pe_int (nomark _)) (pw_or1 (pt_cmpR op_ne (pe_ix ix_list (pv 3) (pv 4) (fun _ _ => rfl)) (pe_op op_mod (pe_callB (cr_sum rfl) (by rfl) T.f_sum (by decide +kernel) (pa_cons (pe_slice sl_L (pv 3) po_none (po_some (pv 4))) pa_nil)) pe_int) (nomark _))))))
        (pss_one (ps_ret (pe_tup (pa_cons (pv 1) (pa_cons (pv 2) pa_nil)))))
        pss_nil)
      (pss_cons (ps_set (i := 5) sc_law_read.nd rfl (Or.inl rfl) (C8.pe_c c_law_body_told hr (by omega) rfl (pa_cons (pe_slice sl_L (pv 3) po_none (po_some (pv 4))) pa_nil)))
      (pss_cons (ps_if (pt_cmp (pc_isN (pv 5)))
        (pss_one (ps_ret (pe_tup (pa_cons (pv 1) (pa_cons (pv 2) pa_nil)))))
        pss_nil)
      (pss_cons (ps_expr (pe_bm PySem.F.plainAttrs_list PySem.F.slot_list_append PySem.F.type_list_append mt_append (pv 1) (pa_cons (pv 5) pa_nil)))
      (pss_one (ps_set (i := 2) sc_law_read.nd rfl (Or.inl rfl) (pe_op op_add (pe_op op_add (pv 2) (pv 4)) pe_int))))))))))
    (pss_one (ps_ret (pe_tup (pa_cons (pv 1) (pa_cons (pv 2) pa_nil)))))))), ?_⟩
  refine ⟨by show 0 ≤ sizeLine; exact Nat.zero_le _, fun dl hdl => ?_⟩
  have g0 : Gw [] G H G _ := Gw.allocM (o := HO.lst []) s0 hdl
  have hda : a ∉ [dl] := by
    intro z
    have z' : a = dl := by simpa using z
    rw [← z', ha] at hdl; cases hdl
  have hdlG := none_of s0 hdl
  let Wl : Nat → L2.St → Hp → Prop := fun m σ H' => ∃ G' p acc vs F v3 v4 v5, σ = [some (.ref a), some (.ref dl), some (.int (p : Nat)), v3, v4, v5] ∧ Gw [dl] G (upd H dl (.lst [])) G' H' ∧ H' dl = some (.lst vs) ∧ RpL G' vs (acc.map encD) ∧ p ≤ ns.length ∧ acc.length ≤ p ∧ ns.length < p + F ∧
    readP deedP ns = (acc ++ (readA deedP ns F p).1, (readA deedP ns F p).2) ∧ m = ns.length - p
  refine ⟨Wl, ⟨ns.length, G, 0, [], [], ns.length + 1, none, none, none, rfl, Gw.refl g0.gh, upd_same, .nil, Nat.zero_le _, Nat.zero_le _, by omega, rfl, rfl⟩, ?_⟩
  rintro m σ H1 ⟨G1, p, acc, vs, F, v3, v4, v5, rfl, g1, hdl1, rvs, hp, hacc, hF, hread, rfl⟩
  have ha1 := g1.keep a _ hda (g0.same _ _ ha)
  have hvl : vs.length = acc.length := by rw [rvs.length, List.length_map]
  obtain ⟨F', rfl⟩ : ∃ F', F = F' + 1 := ⟨F - 1, by omega⟩
  have fin : ∀ (D : Ends) (v3 v4 v5 : Option V) (G2 H2 : Hp), D.rt = Q → Gw [] G1 H1 G2 H2 → readS deedP ns p = none → tRet (tTup (tCons (tVar 1) (tCons (tVar 2) tNil))) D [some (.ref a), some (.ref dl), some (.int (p : Nat)), v3, v4, v5] H2 := fun D v3 v4 v5 G2 H2 hD g2 hz => by
    refine ⟨_, rfl, _, rfl, by show 2 ≤ sizeLine; exact szOf (by decide), fun t ht => ?_⟩
    have w2 := g1.trans g2.nil
    have hdl2 := g2.same _ _ hdl1
    have wc : Gw [] G H (upd G2 dl (.lst vs)) H2 := Gw.close s0 hdl w2 hdl2
    have sD : Same G2 (upd G2 dl (.lst vs)) := same_upd (w2.none upd_ne_none hdlG)
    have gt : Gw [] _ H2 _ _ := Gw.alloc (o := HO.tup [V.ref dl, V.int (p : Nat)]) wc.gh ht
    rw [hD]
    refine q _ _ _ (wc.trans gt) ?_
    rw [hread]
    have e : readA deedP ns (F' + 1) p = ([], p) := by unfold readA; rw [hz]
    rw [e, List.append_nil]
    exact .tup upd_same (.cons (.lst (gt.gg _ _ upd_same) ((rvs.same (g2.gg.trans sD)).same gt.gg)) (.cons (.int _) .nil))
  refine ⟨_, rfl, _, _, rfl, rfl, _, rfl, a, _, rfl, SqL.of ha1, _, _, rfl, rfl, _, rfl, iteD (fun hlt => ?_) (fun hge => ?_)⟩
  · rw [List.length_map] at hlt
    have hp1 : p + 1 < ns.length := by omega
    refine ⟨fun σ' H' => ∃ m', m' < ns.length - p ∧ Wl m' σ' H', fun _ _ z => z, ?_⟩
    have hat0 : atI (iv ns) (p : Int) = some (V.int ((ns.getD p 0 : Nat) : Int)) := at_iv (getD_some (by omega))
    have hat1 : atI (iv ns) ((p : Int) + 1) = some (V.int ((ns.getD (p + 1) 0 : Nat) : Int)) := at_iv (i := p + 1) (getD_some hp1)
    have hS : readS deedP ns p = if ns.length < p + ns.getD p 0 * 256 + ns.getD (p + 1) 0 + 4 then none
      else if ns.getD (p + ns.getD p 0 * 256 + ns.getD (p + 1) 0 + 3) 0 ≠ 170 ∨ ns.getD (p + ns.getD p 0 * 256 + ns.getD (p + 1) 0 + 2) 0 ≠ ((ns.drop (p + 2)).take (ns.getD p 0 * 256 + ns.getD (p + 1) 0)).sum % 256 then none
      else (deedP ((ns.drop (p + 2)).take (ns.getD p 0 * 256 + ns.getD (p + 1) 0))).map fun d => (d, p + ns.getD p 0 * 256 + ns.getD (p + 1) 0 + 4) := by unfold readS; rw [if_pos hp1]
    generalize ns.getD p 0 = x0 at hS hat0 ⊢
    generalize ns.getD (p + 1) 0 = x1 at hS hat1 ⊢
    refine ⟨_, rfl, _, rfl, _, _, rfl, rfl, _, rfl, a, _, some (p + 2), none, rfl, SqL.of ha1, rfl, rfl, fun r1 hr1 => ?_⟩
    rw [cut_iv, cut_lo]
    have g2 : Gw [] G1 H1 G1 _ := Gw.allocM (o := HO.lst (iv (ns.drop (p + 2)))) g1.gh hr1
    have ha2 := g2.same _ _ ha1
    have hr1' : _ = some (HO.lst (iv (ns.drop (p + 2)))) := upd_same (H := H1) (a := r1)
    generalize upd H1 r1 (.lst (iv (ns.drop (p + 2)))) = H2 at g2 ha2 hr1' ⊢
    refine ⟨_, rfl, _, rfl, a, _, _, _, rfl, rfl, SqL.of ha2, hat0, _, _, rfl, rfl, .inl ⟨by decide, by decide⟩, _, rfl, _, rfl, _, _, rfl, rfl, a, _, _, _, rfl, rfl, SqL.of ha2, hat1, _, _, rfl, rfl, ?_⟩
    have hM : ((256 : Int) * (x0 : Int) + (x1 : Int)) = ((x0 * 256 + x1 : Nat) : Int) := by push_cast; omega
    dsimp only
    rw [hM]
    have hS2 : readS deedP ns p = if ns.length < p + (x0 * 256 + x1) + 4 then none
      else if ns.getD (p + (x0 * 256 + x1) + 3) 0 ≠ 170 ∨ ns.getD (p + (x0 * 256 + x1) + 2) 0 ≠ ((ns.drop (p + 2)).take (x0 * 256 + x1)).sum % 256 then none
      else (deedP ((ns.drop (p + 2)).take (x0 * 256 + x1))).map fun d => (d, p + (x0 * 256 + x1) + 4) := by rw [hS, ← Nat.add_assoc p]
    clear hS
    generalize x0 * 256 + x1 = M at hM hS2 ⊢
    refine ⟨_, rfl, r1, _, rfl, SqL.of hr1', _, rfl, _, _, rfl, rfl, _, _, rfl, rfl, _, rfl, iteD (fun hbig => ?_) (fun hsm => ?_)⟩
    · rw [List.length_map, List.length_drop] at hbig
      rw [if_pos (by omega)] at hS2
      exact iteT (fin _ _ _ _ G1 H2 rfl g2 hS2)
    · rw [List.length_map, List.length_drop] at hsm
      have hle : p + M + 4 ≤ ns.length := by omega
      rw [if_neg (by omega)] at hS2
      have hat2 : atI (iv (ns.drop (p + 2))) ((M : Int) + 1) = some (V.int ((ns.getD (p + M + 3) 0 : Nat) : Int)) := by
        refine at_iv (i := M + 1) ?_
        rw [List.getElem?_drop, show p + 2 + (M + 1) = p + M + 3 by omega]
        exact getD_some (by omega)
      have hat3 : atI (iv (ns.drop (p + 2))) (M : Int) = some (V.int ((ns.getD (p + M + 2) 0 : Nat) : Int)) := by
        refine at_iv (i := M) ?_
        rw [List.getElem?_drop, show p + 2 + M = p + M + 2 by omega]
        exact getD_some (by omega)
      have hbody : ((ns.drop (p + 2)).take M).length ≤ 100000 := by
        rw [List.length_take, List.length_drop]; omega
      have hbd : ∀ j, Dep (((ns.drop (p + 2)).take M).drop j) 143 := fun j => dep.body _ _ j
      refine ⟨_, rfl, _, rfl, _, _, rfl, rfl, r1, _, _, _, rfl, rfl, SqL.of hr1', hat2, rfl, _, rfl, iteIN (fun hm => ?_) (fun hm => ?_)⟩
      · rw [if_pos (.inl (fun z => hm (by rw [z]; rfl)))] at hS2
        exact iteT (fin _ _ _ _ G1 H2 rfl g2 hS2)
      · refine ⟨_, rfl, _, rfl, r1, _, _, _, rfl, rfl, SqL.of hr1', hat3, _, rfl, _, rfl, _, rfl, r1, _, none, some M, rfl, SqL.of hr1', rfl, rfl, fun r2 hr2 => ?_⟩
        rw [cut_iv, cut_hi]
        generalize hbe : (ns.drop (p + 2)).take M = body at hS2 hbody hbd ⊢
        have g3 : Gw [] G1 H2 G1 _ := Gw.allocM (o := HO.lst (iv body)) g2.gh hr2
        have w3 := g2.trans g3
        refine ⟨r2, body.map (fun n : Nat => (n : Int)), rfl, by rw [← iv_eq]; exact SqL.of upd_same, _, _, rfl, rfl, by show (0 : Int) < 256; decide, rfl, _, rfl, ?_⟩
        rw [sum_cast]
        refine iteIN (fun hs => ?_) (fun hs => ?_)
        · rw [if_pos (.inr (fun z => hs (by rw [z]; push_cast; rfl)))] at hS2
          exact fin _ _ _ _ G1 _ rfl w3 hS2
        · have hc : ¬ (ns.getD (p + M + 3) 0 ≠ 170 ∨ ns.getD (p + M + 2) 0 ≠ body.sum % 256) := by
            rintro (z | z)
            · exact z (by omega)
            · exact z (by omega)
          rw [if_neg hc] at hS2
          -- the second slice, the deed
          have rest : ∀ (dv : V) (G3 H3 : Hp), Gw [] G1 H1 G3 H3 → ((deedP body = none ∧ dv = .non) ∨ ∃ d, deedP body = some d ∧ Rp G3 dv (encD d)) →
              tSeq (tIfS (tB (tIsN (tVar 5))) (tRet (tTup (tCons (tVar 1) (tCons (tVar 2) tNil)))) tNext)
                (tSeq (tDrop (tBM K "list" rAppend (tVar 1) (tCons (tVar 5) tNil))) (tAsg (tOp rAdd' (tOp rAdd' (tVar 2) (tVar 4)) (tC (.int 4))) (gName 2)))
              { nx := fun σ' H' => ∃ m', m' < ns.length - p ∧ Wl m' σ' H', rt := Q, bk := tRet (tTup (tCons (tVar 1) (tCons (tVar 2) tNil))) { nx := fun _ H' => Q .non H', rt := Q }, ct := fun σ' H' => ∃ m', m' < ns.length - p ∧ Wl m' σ' H' }
              [some (.ref a), some (.ref dl), some (.int (p : Nat)), some (.ref r1), some (.int (M : Nat)), some dv] H3 := by
            intro dv G3 H3 w3 hdv
            rcases hdv with ⟨hn, rfl⟩ | ⟨d, hd, rd⟩
            · rw [hn] at hS2
              exact ⟨_, rfl, _, rfl, iteD (fun _ => fin _ _ _ _ G3 H3 rfl w3 hS2) (fun z => absurd rfl z)⟩
            · rw [hd] at hS2
              have hnn : dv ≠ .non := by
                obtain ⟨b, rfl, _⟩ := deed_inv rd
                intro z; cases z
              refine ⟨_, rfl, _, rfl, iteD (fun z => absurd z hnn) (fun _ => ?_)⟩
              have hdl3 := w3.same _ _ hdl1
              have ww := g1.trans w3.nil
              refine ⟨_, rfl, .inl ⟨rfl, vs, SqL.of hdl3⟩, _, rfl, dl, vs, _, rfl, rfl, hdl3, by rw [hvl, sizeLine_eq]; omega, ?_⟩
              have gw : Gw [dl] G3 H3 G3 _ := Gw.write (M := [dl]) (o := HO.lst (vs ++ [dv])) w3.gh (ww.none upd_ne_none hdlG) (List.mem_singleton.mpr rfl)
              refine ⟨_, rfl, _, rfl, _, _, rfl, rfl, _, _, rfl, rfl, ns.length - (p + M + 4), by omega, G3, p + M + 4, acc ++ [d], vs ++ [dv], F', some (.ref r1), some (.int (M : Nat)), some dv, rfl, ww.trans gw, upd_same, ?_, hle, by rw [List.length_append]; show acc.length + 1 ≤ _; omega, by omega, ?_, rfl⟩
              · rw [List.map_append]
                exact (rvs.same w3.gg).snoc rd
              · rw [hread]
                have e5 : readA deedP ns (F' + 1) p = (d :: (readA deedP ns F' (p + M + 4)).1, (readA deedP ns F' (p + M + 4)).2) := by
                  conv => lhs; unfold readA
                  rw [hS2]; rfl
                rw [e5]; simp
          have hr1b := g3.same _ _ hr1'
          refine ⟨_, rfl, _, rfl, _, rfl, r1, _, none, some M, rfl, SqL.of hr1b, rfl, rfl, fun r4 hr4 => ?_⟩
          rw [cut_iv, cut_hi, hbe]
          have g4 : Gw [] G1 _ G1 _ := Gw.allocM (o := HO.lst (iv body)) w3.gh hr4
          refine ⟨G1, r4, body, rfl, g4.gh, upd_same, hbody, hbd, fun hn G5 H5 g5 => rest .non G5 H5 ((w3.trans g4).trans g5) (.inl ⟨hn, rfl⟩), fun d hd G5 H5 v g5 rd => rest v G5 H5 ((w3.trans g4).trans g5) (.inr ⟨d, hd, rd⟩)⟩
  · rw [List.length_map] at hge
    refine fin _ _ _ _ G1 H1 rfl (Gw.refl g1.gh) ?_
    unfold readS
    rw [if_neg (by omega)]
theorem lords {K : PySem.W.Frag} {mg : Str → Option Value} (T : Tx K mg) {G H : Hp} {l : List Nat} {te : TE} {σ : L2.St} {Q : VK} (hl : l.length ≤ 15000000) (hσ : ∃ a0 a1 a2, σ = [a0, a1, a2]) (hte : ∀ Q' : VK, (∀ G1 H1, Gw [] G H G1 H1 → Q' (.str (S l)) H1) → te σ H Q') (q : ∀ D G' H', Gw [] G H G' H' → H' D = some (.lst (iv l)) → Q (.ref D) H') :
    tLc (fun σ H R => te σ H fun x H1 => ∃ z : Str, x = .str z ∧ R (Its z) H1) (gName 2) tYes (tCB (fun xs H Q => ∃ c : Nat, xs = [.str (S [c])] ∧ Q (.int c) H) (tCons (tVar 2) tNil)) [2] σ H Q := by
  obtain ⟨a0, a1, a2, rfl⟩ := hσ
  refine hte _ fun G1 H1 g1 => ⟨_, rfl, lc_over (runs_s (l := l)) (fun D i H' => H1 D = none ∧ H' = upd H1 D (.lst (iv (l.take i)))) (fun D i H' h => trivial) (fun D hD => ⟨hD, rfl⟩) (fun D i xv H' hD hx h => ?_) (fun D H' hD h => ?_)⟩
  · obtain ⟨_, rfl⟩ := h
    rw [List.getElem?_map] at hx
    cases hq : l[i]? with
    | none => rw [hq] at hx; cases hx
    | some c =>
      rw [hq] at hx
      cases hx
      refine ⟨rfl, _, rfl, c, rfl, _, upd_same, ?_, hD, ?_⟩
      · rw [List.length_map, List.length_take, sizeLine_eq]; omega
      · rw [upd_upd, take_snoc hq]; simp
  · obtain ⟨_, rfl⟩ := h
    rw [List.length_map, List.take_length]
    exact q D _ _ (g1.trans (Gw.allocM g1.gh hD)) upd_same
theorem ok_law_record (T : Tx K mg) : C8.Cal P w K mg base 39 "_law_record" (spBody recD) [] := by
  refine cal_of T.d_law_record T.g_law_record (fun _ _ _ _ _ _ us hl => match us, hl with | [_], _ => rfl) sc_law_record (fun vs H Q E h => ?_) (fun cdv A outer s H vs Q E hr h => ?_)
  · obtain ⟨G, v, d, rfl, _⟩ := h; rfl
  obtain ⟨G, v, d, rfl, s0, rv, hd, q⟩ := h
  have c_law_notation : C8.Cal P w K mg base (37 + 1) "_law_notation" (spFmt K 37) [] := lfmts T 37
  have c_law_plain : C8.Cal P w K mg base (37 + 1) "_law_plain" (spPlain K 37) [] := lplains T 37
  refine ⟨_, (pss_cons (ps_if (pt_cmpR op_eq (pe_ix ix_tup (pv 0) pe_int (fun _ _ => rfl)) (pe_s [112, 117, 116]) (nomark _))
      (pss_one (ps_set (i := 1) sc_law_record.nd rfl (Or.inl rfl) (pe_op op_cat (pe_lst (pa_cons pe_int (pa_cons (pe_callB call_lenS (by rfl) T.f_len (by decide +kernel) (pa_cons (pe_ix ix_tup (pv 0) pe_int (fun _ _ => rfl)) pa_nil)) pa_nil))) (pe_lc (own := [("_law_sign", 2)]) (g := gName 2) (tt := tYes) rfl sc_law_record.nd (pi_str (pe_op op_addS (pe_ix ix_tup (pv 0) pe_int (fun _ _ => rfl)) (C8.pe_c c_law_notation hr (by omega) rfl (pa_cons (C8.pe_c c_law_plain hr (by omega) rfl (pa_cons (pe_ix ix_tup (pv 0) pe_int (fun _ _ => rfl)) pa_nil)) pa_nil)))) (blkOk_by (own := [("_law_sign", 2)]) (N := N_law_record) (sc := defScope s_law_record) (by decide +kernel)) (fun _ _ _ _ _ => pg_name (i := 2) sc_law_record.nd rfl (Or.inl rfl)) (fun _ _ _ _ _ => pts_nil) (fun _ _ _ _ _ => (pe_callB call_ordS (by rfl) T.f_ord (by decide +kernel) (pa_cons (pv 2) pa_nil)))))))
      (pss_one (ps_if (pt_cmpR op_eq (pe_ix ix_tup (pv 0) pe_int (fun _ _ => rfl)) (pe_s [100, 114, 111, 112]) (nomark _))
        (pss_one (ps_set (i := 1) sc_law_record.nd rfl (Or.inl rfl) (pe_op op_cat (pe_lst (pa_cons pe_int pa_nil)) (pe_lc (own := [("_law_sign", 2)]) (g := gName 2) (tt := tYes) rfl sc_law_record.nd (pi_str (pe_ix ix_tup (pv 0) pe_int (fun _ _ => rfl))) (blkOk_by (own := [("_law_sign", 2)]) (N := N_law_record) (sc := defScope s_law_record) (by decide +kernel)) (fun _ _ _ _ _ => pg_name (i := 2) sc_law_record.nd rfl (Or.inl rfl)) (fun _ _ _ _ _ => pts_nil) (fun _ _ _ _ _ => (pe_callB call_ordS (by rfl) T.f_ord (by decide +kernel) (pa_cons (pv 2) pa_nil)))))))
        (pss_one (ps_set (i := 1) sc_law_record.nd rfl (Or.inl rfl) (pe_lst (pa_cons pe_int pa_nil)))))))
    (pss_one (ps_ret (pe_op op_cat (pe_op op_cat (pe_lst (pa_cons (pe_op op_fdiv (pe_callB call_lenL (by rfl) T.f_len (by decide +kernel) (pa_cons (pv 1) pa_nil)) pe_int) (pa_cons (pe_op op_mod (pe_callTy call_int1 (by rfl) T.f_int (by decide +kernel) (pa_cons (pe_callB call_lenL (by rfl) T.f_len (by decide +kernel) (pa_cons (pv 1) pa_nil)) pa_nil)) pe_int) pa_nil))) (pv 1)) (pe_lst (pa_cons (pe_op op_mod (pe_callB (cr_sum rfl) (by rfl) T.f_sum (by decide +kernel) (pa_cons (pv 1) pa_nil)) pe_int) (pa_cons pe_int pa_nil))))))), ?_⟩
  obtain ⟨a, rfl, hx⟩ := deed_inv rv
  have hbl := body_len hd
  -- behind the body
  have fin : ∀ (b : Addr) (G1 H1 : Hp) (v2 : Option V), Gw [] G H G1 H1 → H1 b = some (.lst (iv (bodyD d))) →
      tRet (tOp rCat (tOp rCat (tLst (tCons (tOp (rI CDiv fun i j => .int (i / j)) (tCB (rLenL K) (tCons (tVar 1) tNil)) (tC (.int 256))) (tCons (tOp (rI (fun _ j => 0 < j) fun i j => .int (i % j)) (tCB (fun xs H Q => (∃ i, xs = [.int i] ∧ Q (.int i) H) ∨ ∃ k, xs = [.bl k] ∧ Q (.int (if k then 1 else 0)) H) (tCons (tCB (rLenL K) (tCons (tVar 1) tNil)) tNil)) (tC (.int 256))) tNil))) (tVar 1))
        (tLst (tCons (tOp (rI (fun _ j => 0 < j) fun i j => .int (i % j)) (tCB (rSum K) (tCons (tVar 1) tNil)) (tC (.int 256))) (tCons (tC (.int 170)) tNil)))) { nx := fun _ H' => Q .non H', rt := Q } [some (.ref a), some (.ref b), v2] H1 := by
    intro b G1 H1 v2 g1 hb
    refine ⟨_, rfl, b, _, rfl, SqL.of hb, _, _, rfl, rfl, ⟨by decide, by decide⟩, _, rfl, b, _, rfl, SqL.of hb, .inl ⟨_, rfl, _, _, rfl, rfl, by show (0 : Int) < 256; decide, by show 2 ≤ sizeLine; exact szOf (by decide), fun c hc => ?_⟩⟩
    rw [List.length_map] at *
    have g2 : Gw [] G1 H1 G1 _ := Gw.allocM (o := HO.lst [V.int (((bodyD d).length : Nat) / 256 : Int), V.int (((bodyD d).length : Nat) % 256 : Int)]) g1.gh hc
    have hb2 := g2.same _ _ hb
    refine ⟨_, rfl, c, b, _, _, rfl, rfl, upd_same, hb2, by rw [List.length_map, sizeLine_eq]; show 2 + _ ≤ _; omega, fun e he => ?_⟩
    have g3 : Gw [] G1 _ G1 _ := Gw.allocM (o := HO.lst ([V.int (((bodyD d).length : Nat) / 256 : Int), V.int (((bodyD d).length : Nat) % 256 : Int)] ++ iv (bodyD d))) g2.gh he
    have hb3 := g3.same _ _ hb2
    refine ⟨_, rfl, b, (bodyD d).map (fun n : Nat => (n : Int)), rfl, by rw [← iv_eq]; exact SqL.of hb3, _, _, rfl, rfl, by show (0 : Int) < 256; decide, ?_⟩
    rw [sum_cast]
    refine ⟨by show 2 ≤ sizeLine; exact szOf (by decide), fun f hf => ?_⟩
    have g4 : Gw [] G1 _ G1 _ := Gw.allocM (o := HO.lst [V.int (((bodyD d).sum : Nat) % 256 : Int), V.int 170]) g3.gh hf
    refine ⟨e, f, _, _, rfl, rfl, g4.same _ _ upd_same, upd_same, by rw [List.length_append, List.length_map, sizeLine_eq]; show 2 + _ + 2 ≤ _; omega, fun r hr' => ?_⟩
    refine q G1 _ r ((((g1.trans g2).trans g3).trans g4).trans (Gw.allocM g4.gh hr')) ?_
    rw [upd_same]
    unfold recD recB
    simp
  cases d with
  | undo =>
    have ha : G a = some (.tup [.str (S tUnd)]) := hx
    refine ⟨_, rfl, a, _, _, _, rfl, rfl, SqT.of (s0 _ _ ha), rfl, rfl, _, rfl, iteS (fun e => absurd e (by decide)) (fun _ => ?_)⟩
    refine ⟨_, rfl, a, _, _, _, rfl, rfl, SqT.of (s0 _ _ ha), rfl, rfl, _, rfl, iteS (fun e => absurd e (by decide)) (fun _ => ?_)⟩
    exact ⟨by show 1 ≤ sizeLine; exact szOf (by decide), fun b hb => fin b G _ none (Gw.allocM s0 hb) upd_same⟩
  | drop k =>
    have ha : G a = some (.tup [.str (S tDrp), .str (S k)]) := hx
    have hk : k.length ≤ 1000 := hd
    refine ⟨_, rfl, a, _, _, _, rfl, rfl, SqT.of (s0 _ _ ha), rfl, rfl, _, rfl, iteS (fun e => absurd e (by decide)) (fun _ => ?_)⟩
    refine ⟨_, rfl, a, _, _, _, rfl, rfl, SqT.of (s0 _ _ ha), rfl, rfl, _, rfl, iteS (fun _ => ?_) (fun e => absurd rfl e)⟩
    refine ⟨by show 1 ≤ sizeLine; exact szOf (by decide), fun b hb => ?_⟩
    have g1 : Gw [] G H G _ := Gw.allocM (o := HO.lst [V.int 2]) s0 hb
    refine lords T (G := G) (l := k) (by omega) ⟨_, _, _, rfl⟩ (fun Q' q' => ⟨_, rfl, a, _, _, _, rfl, rfl, SqT.of (g1.gh _ _ ha), rfl, q' G _ (Gw.refl g1.gh)⟩) (fun o G2 H2 g2 ho => ?_)
    refine ⟨b, o, _, _, rfl, rfl, g2.same _ _ upd_same, ho, by rw [List.length_map, sizeLine_eq]; show 1 + _ ≤ _; omega, fun p hp => ?_⟩
    exact fin p G2 _ none ((g1.trans g2).trans (Gw.allocM g2.gh hp)) (by rw [upd_same]; simp [bodyD])
  | put k m =>
    obtain ⟨mv, ha, rm⟩ := (show ∃ mv, G a = some (.tup [.str (S tPut), .str (S k), mv]) ∧ Rp G mv (.list (encM m)) from hx)
    obtain ⟨hk, h2, h3, h4⟩ := (show k.length ≤ 1000 ∧ dpM m < 37 ∧ szM m ≤ 1000000 ∧ numM m from hd)
    have h5 : numM (plainM m) := num_plainA m [] trivial h4
    have h6 := szM_plain m
    have h7 := dp_plain m
    have h8 := fmt_bound h3 h4
    refine ⟨_, rfl, a, _, _, _, rfl, rfl, SqT.of (s0 _ _ ha), rfl, rfl, _, rfl, iteS (fun _ => ?_) (fun e => absurd rfl e)⟩
    refine ⟨_, rfl, a, _, _, _, rfl, rfl, SqT.of (s0 _ _ ha), rfl, k, rfl, by unfold big; omega, by show 2 ≤ sizeLine; exact szOf (by decide), fun b hb => ?_⟩
    have g1 : Gw [] G H G _ := Gw.allocM (o := HO.lst [V.int 1, V.int (k.length : Nat)]) s0 hb
    refine lords T (G := G) (l := k ++ fmtM (plainM m)) (by rw [List.length_append]; omega) ⟨_, _, _, rfl⟩ (fun Q' q' => ?_) (fun o G2 H2 g2 ho => ?_)
    · refine ⟨_, rfl, a, _, _, _, rfl, rfl, SqT.of (g1.gh _ _ ha), rfl, _, rfl, a, _, _, _, rfl, rfl, SqT.of (g1.gh _ _ ha), rfl, G, mv, m, rfl, g1.gh, rm, h2, by omega, fun G4 H4 v4 g4 rv4 => ?_⟩
      refine ⟨G4, v4, plainM m, rfl, g4.gh, rv4, by omega, by omega, h5, fun H5 g5 => ?_⟩
      exact ⟨k, fmtM (plainM m), rfl, rfl, by unfold big; omega, q' G4 H5 (g4.trans g5)⟩
    · refine ⟨b, o, _, _, rfl, rfl, g2.same _ _ upd_same, ho, by rw [List.length_map, List.length_append, sizeLine_eq]; show 2 + _ ≤ _; omega, fun p hp => ?_⟩
      exact fin p G2 _ none ((g1.trans g2).trans (Gw.allocM g2.gh hp)) (by rw [upd_same]; simp [bodyD])
end
end Mw

set_option Elab.async false
set_option linter.all false
set_option maxRecDepth 100000
set_option maxHeartbeats 4000000
/-! MwD1: the law's cell, row, box, draw, same. -/
namespace Mw
open PySem PySem.Spec L2
open SX (S S_cat S_len S_inj)
abbrev rInt1 : List V → Hp → VK → Prop := fun xs H Q => (∃ i, xs = [.int i] ∧ Q (.int i) H) ∨ ∃ k, xs = [.bl k] ∧ Q (.int (if k then 1 else 0)) H
/-- the box of draws at bx, its row at ra -/
structure BoxAt (G H : Hp) (bx ra : Addr) (xs : List Int) (n : Nat) : Prop where
  sm : Same G H
  gb : G bx = none
  gr : G ra = some (.lst (xs.map V.int))
  hb : H bx = some (.lst [.ref ra, .int (n : Nat)])
def Box (G H : Hp) (bx : Addr) : Prop := ∃ ra xs n, BoxAt G H bx ra xs n
section
variable {P : Program} {w : World} {K : PySem.W.Frag} {mg : Str → Option Value} {base : Heap}
def spCell (K : PySem.W.Frag) : Sp := fun vs H Q _ => ∃ a, ∃ (xs : List Int) (k : Nat), vs = [.ref a, .int (k : Nat)] ∧ SqL K H a (xs.map V.int) ∧ ∀ i : Int, Q (.int i) H
theorem ok_law_cell (T : Tx K mg) : C8.Cal P w K mg base 1 "_law_cell" (spCell K) [] := by
  refine cal_of T.d_law_cell T.g_law_cell (fun _ _ _ _ _ _ us hl => match us, hl with | [_, _], _ => rfl) sc_law_cell (fun vs H Q E h => ?_) (fun cdv A outer s H vs Q E hr h => ?_)
  · obtain ⟨a, xs, k, rfl, _⟩ := h; rfl
  obtain ⟨a, xs, k, rfl, ha, q⟩ := h
  refine ⟨_, (pss_cons (ps_if (pt_cmpR op_lt (pv 1) (pe_callB call_lenL (by rfl) T.f_len (by decide +kernel) (pa_cons (pv 0) pa_nil)) (nomark _))
      (pss_one (ps_ret (pe_ix ix_list (pv 0) (pv 1) (fun _ _ => rfl))))
      pss_nil)
    (pss_one (ps_ret pe_int))), ?_⟩
  refine ⟨_, rfl, _, rfl, a, _, rfl, ha, _, _, rfl, rfl, _, rfl, iteD (fun hlt => ?_) (fun _ => q 0)⟩
  rw [List.length_map] at hlt
  have hk : k < xs.length := by omega
  refine ⟨_, rfl, _, rfl, a, _, _, _, rfl, rfl, ha, atI_nat (xs := xs.map V.int) (v := V.int xs[k]) (by rw [List.getElem?_map, List.getElem?_eq_getElem hk]; rfl), q _⟩
def spRow : Sp := fun vs H Q _ => ∃ G, ∃ (c k : Int), vs = [.int c, .int k, .int 12] ∧ Same G H ∧ ∀ a H' (xs : List Int), Gw [] G H G H' → H' a = some (.lst (xs.map V.int)) → xs.length ≤ 60 → Q (.ref a) H'
theorem ok_law_row (T : Tx K mg) : C8.Cal P w K mg base 1 "_law_row" spRow [] := by
  refine cal_of T.d_law_row T.g_law_row (fun _ _ _ _ _ _ us hl => match us, hl with | [_, _, _], _ => rfl) sc_law_row (fun vs H Q E h => ?_) (fun cdv A outer s H vs Q E hr h => ?_)
  · obtain ⟨G, c, k, rfl, _⟩ := h; rfl
  obtain ⟨G, c, k, rfl, s0, q⟩ := h
  refine ⟨_, (pss_cons (ps_set (i := 3) sc_law_row.nd rfl (Or.inl rfl) (pe_lst pa_nil))
    (pss_cons (ps_if (pt_cmpR op_lt (pv 0) pe_int (nomark _))
      (pss_one (ps_set (i := 0) sc_law_row.nd rfl (Or.inl rfl) (pe_op op_sub pe_int (pe_op op_mul pe_int (pv 0)))))
      pss_nil)
    (pss_cons (ps_if (pt_cmpR op_ge (pv 0) (pe_op op_pow pe_int pe_int) (nomark _))
      (pss_cons (ps_for PassesOwn.never rfl (pi_range1 (by rfl) T.f_range (pa_cons pe_int pa_nil)) (pg_name (i := 4) sc_law_row.nd rfl (Or.inl rfl))
        (pss_one (ps_if (PW.pt (pw_and (pt_cmpR op_gt (pv 0) pe_int (nomark _)) (pw_and1 (pt_cmpR op_lt (pe_callB call_lenL (by rfl) T.f_len (by decide +kernel) (pa_cons (pv 3) pa_nil)) (pv 2) (nomark _)))))
          (pss_cons (ps_expr (pe_bm PySem.F.plainAttrs_list PySem.F.slot_list_append PySem.F.type_list_append mt_append (pv 3) (pa_cons (pe_op op_mod (pe_callTy call_int1 (by rfl) T.f_int (by decide +kernel) (pa_cons (pv 0) pa_nil)) pe_int) pa_nil)))
          (pss_one (ps_set (i := 0) sc_law_row.nd rfl (Or.inl rfl) (pe_op op_fdiv (pv 0) pe_int))))
          pss_nil)))
      (pss_one (ps_ret (pv 3))))
      pss_nil)
    (pss_cons (ps_set (i := 5) sc_law_row.nd rfl (Or.inl rfl) (pe_op op_mod (pe_callTy call_int1 (by rfl) T.f_int (by decide +kernel) (pa_cons (pe_op op_add (pe_op op_add (pe_op op_mul (pv 0) pe_int) (pe_op op_mul (pv 1) pe_int)) pe_int) pa_nil)) pe_int))
    (pss_cons (ps_for PassesOwn.never rfl (pi_range1 (by rfl) T.f_range (pa_cons (pv 2) pa_nil)) (pg_name (i := 4) sc_law_row.nd rfl (Or.inl rfl))
      (pss_cons (ps_set (i := 5) sc_law_row.nd rfl (Or.inl rfl) (pe_op op_mod (pe_callTy call_int1 (by rfl) T.f_int (by decide +kernel) (pa_cons (pe_op op_add (pe_op op_add (pe_op op_mul (pv 5) pe_int) (pe_op op_mul pe_int (pv 4))) pe_int) pa_nil)) pe_int))
      (pss_one (ps_expr (pe_bm PySem.F.plainAttrs_list PySem.F.slot_list_append PySem.F.type_list_append mt_append (pv 3) (pa_cons (pe_op op_mod (pe_callTy call_int1 (by rfl) T.f_int (by decide +kernel) (pa_cons (pe_op op_fdiv (pv 5) pe_int) pa_nil)) pe_int) pa_nil))))))
    (pss_one (ps_ret (pv 3)))))))), ?_⟩
  refine ⟨by show 0 ≤ sizeLine; exact Nat.zero_le _, fun l hl => ?_⟩
  have gc0 : Gw [] G H G _ := Gw.allocM (o := HO.lst []) s0 hl
  have hlG := none_of s0 hl
  -- the list so far
  let St : Nat → Hp → Prop := fun i H' => ∃ xs : List Int, Gw [l] G (upd H l (.lst [])) G H' ∧ H' l = some (.lst (xs.map V.int)) ∧ xs.length ≤ i
  have st0 : St 0 (upd H l (.lst [])) := ⟨[], Gw.refl gc0.gh, upd_same, Nat.le_refl _⟩
  have more : ∀ (i : Nat) (H' : Hp) (x : Int), i < 60 → St i H' → ∀ {D : Ends} {σ : L2.St}, True → ∃ xs : List Int, H' l = some (.lst (xs.map V.int)) ∧ (xs.map V.int).length < sizeLine ∧ St (i + 1) (upd H' l (.lst (xs.map V.int ++ [V.int x]))) := fun i H' x hi h D σ _ => by
    obtain ⟨xs, g, hx, hn⟩ := h
    refine ⟨xs, hx, by rw [List.length_map, sizeLine_eq]; omega, xs ++ [x], g.trans (Gw.write (M := [l]) g.gh hlG (List.mem_singleton.mpr rfl)), by rw [upd_same]; simp, by rw [List.length_append]; show xs.length + 1 ≤ _; omega⟩
  have fin : ∀ (i : Nat) (H' : Hp), i ≤ 60 → St i H' → Q (.ref l) H' := fun i H' hi h => by
    obtain ⟨xs, g, hx, hn⟩ := h
    exact q l H' xs (Gw.drop s0 hl g) hx (by omega)
  have rest : ∀ c' : Int, tSeq (tIfS (tTest (tOp (rI0 fun i j => V.bl (decide (j ≤ i))) (tVar 0) (tOp (rI CPow fun i j => .int (i ^ j.toNat)) (tC (.int 10)) (tC (.int 18)))))
        (tSeq (tFor (iRng1 (tCons (tC (.int 60)) tNil)) (gName 4) (tIfS (tAnd (tTest (tOp (rI0 fun i j => V.bl (decide (j < i))) (tVar 0) (tC (.int 0)))) (tTest (tOp (rI0 fun i j => V.bl (decide (i < j))) (tCB (rLenL K) (tCons (tVar 3) tNil)) (tVar 2))))
          (tSeq (tDrop (tBM K "list" rAppend (tVar 3) (tCons (tOp (rI (fun _ j => 0 < j) fun i j => .int (i % j)) (tCB rInt1 (tCons (tVar 0) tNil)) (tC (.int 1000))) tNil))) (tAsg (tOp (rI CDiv fun i j => .int (i / j)) (tVar 0) (tC (.int 1000))) (gName 0))) tNext)) (tRet (tVar 3))) tNext)
      (tSeq (tAsg (tOp (rI (fun _ j => 0 < j) fun i j => .int (i % j)) (tCB rInt1 (tCons (tOp rAdd' (tOp rAdd' (tOp (rI CMul fun i j => .int (i * j)) (tVar 0) (tC (.int 48271))) (tOp (rI CMul fun i j => .int (i * j)) (tVar 1) (tC (.int 69621)))) (tC (.int 11))) tNil)) (tC (.int 2147483647))) (gName 5))
      (tSeq (tFor (iRng1 (tCons (tVar 2) tNil)) (gName 4) (tSeq (tAsg (tOp (rI (fun _ j => 0 < j) fun i j => .int (i % j)) (tCB rInt1 (tCons (tOp rAdd' (tOp rAdd' (tOp (rI CMul fun i j => .int (i * j)) (tVar 5) (tC (.int 16807))) (tOp (rI CMul fun i j => .int (i * j)) (tC (.int 7)) (tVar 4))) (tC (.int 1))) tNil)) (tC (.int 2147483647))) (gName 5))
        (tDrop (tBM K "list" rAppend (tVar 3) (tCons (tOp (rI (fun _ j => 0 < j) fun i j => .int (i % j)) (tCB rInt1 (tCons (tOp (rI CDiv fun i j => .int (i / j)) (tVar 5) (tC (.int 997))) tNil)) (tC (.int 1000))) tNil))))) (tRet (tVar 3))))
      { nx := fun _ H' => Q .non H', rt := Q } [some (.int c'), some (.int k), some (.int 12), some (.ref l), none, none] (upd H l (.lst [])) := fun c' => by
    refine ⟨_, rfl, _, _, rfl, rfl, ⟨by decide, by decide, by decide⟩, _, _, rfl, rfl, _, rfl, iteD (fun _ => ?_) (fun _ => ?_)⟩
    · refine ⟨60, rfl, by decide, by decide, for_over (runs_r (lo := 0) (n := 60)) (fun i σ H' => (∃ c2 v4, σ = [some (.int c2), some (.int k), some (.int 12), some (.ref l), v4, none]) ∧ St i H') (fun _ _ _ _ => trivial) ⟨⟨_, _, rfl⟩, st0⟩ (fun i xv σ H' hx h => ?_) (fun σ H' h => ?_)⟩
      · obtain ⟨⟨c2, v4, rfl⟩, st⟩ := h
        have hi : i < 60 := by
          have := (List.getElem?_eq_some_iff.mp hx).1
          simpa using this
        have skip : St (i + 1) H' := by
          obtain ⟨xs, g, hx, hn⟩ := st
          exact ⟨xs, g, hx, by omega⟩
        refine ⟨_, rfl, _, _, rfl, rfl, _, rfl, iteD (fun _ => ?_) (fun _ => iteF ⟨⟨_, _, rfl⟩, skip⟩)⟩
        obtain ⟨xs0, g0, hx0, hn0⟩ := st
        refine ⟨_, rfl, l, _, rfl, SqL.of hx0, _, rfl, _, _, rfl, rfl, _, rfl, iteD (fun _ => ?_) (fun _ => ⟨⟨_, _, rfl⟩, skip⟩)⟩
        obtain ⟨xs, hxs, hsz, stn⟩ := more i H' (c2 % 1000) hi ⟨xs0, g0, hx0, hn0⟩ (D := { nx := fun _ _ => True, rt := fun _ _ => True }) (σ := []) trivial
        refine ⟨_, rfl, .inl ⟨rfl, _, SqL.of hxs⟩, _, rfl, .inl ⟨_, rfl, _, _, rfl, rfl, by show (0 : Int) < 1000; decide, l, _, _, rfl, rfl, hxs, hsz, ?_⟩⟩
        exact ⟨_, rfl, _, _, rfl, rfl, ⟨by decide, by decide⟩, ⟨_, _, rfl⟩, stn⟩
      · obtain ⟨⟨c2, v4, rfl⟩, st⟩ := h
        rw [List.length_map, List.length_range] at st
        exact ⟨_, rfl, fin 60 H' (Nat.le_refl _) st⟩
    · refine ⟨_, rfl, _, _, rfl, rfl, .inr ⟨by decide, by decide⟩, _, rfl, _, _, rfl, rfl, .inr ⟨by decide, by decide⟩, _, _, rfl, rfl, _, _, rfl, rfl, .inl ⟨_, rfl, _, _, rfl, rfl, by show (0 : Int) < 2147483647; decide, ?_⟩⟩
      refine ⟨_, rfl, 12, rfl, by decide, by decide, for_over (runs_r (lo := 0) (n := 12)) (fun i σ H' => (∃ v4, ∃ s5 : Int, σ = [some (.int c'), some (.int k), some (.int 12), some (.ref l), v4, some (.int s5)]) ∧ St i H') (fun _ _ _ _ => trivial) ⟨⟨_, _, rfl⟩, st0⟩ (fun i xv σ H' hx h => ?_) (fun σ H' h => ?_)⟩
      · obtain ⟨⟨v4, s5, rfl⟩, st⟩ := h
        have hi : i < 12 := by
          have := (List.getElem?_eq_some_iff.mp hx).1
          simpa using this
        rw [List.getElem?_map, List.getElem?_range hi] at hx
        cases hx
        refine ⟨_, rfl, _, _, rfl, rfl, .inr ⟨by decide, by decide⟩, _, rfl, _, _, rfl, rfl, .inl ⟨by decide, by decide⟩, _, _, rfl, rfl, _, _, rfl, rfl, .inl ⟨_, rfl, _, _, rfl, rfl, by show (0 : Int) < 2147483647; decide, ?_⟩⟩
        obtain ⟨xs0, g0, hx0, hn0⟩ := st
        refine ⟨_, rfl, .inl ⟨rfl, _, SqL.of hx0⟩, _, rfl, _, _, rfl, rfl, ⟨by decide, by decide⟩, .inl ⟨_, rfl, _, _, rfl, rfl, by show (0 : Int) < 1000; decide, l, _, _, rfl, rfl, hx0, by rw [List.length_map, sizeLine_eq]; omega, ?_⟩⟩
        obtain ⟨xs, hxs, hsz, stn⟩ := more i H' ((s5 * 16807 + 7 * (0 + (i : Int)) + 1) % 2147483647 / 997 % 1000) (by omega) ⟨xs0, g0, hx0, hn0⟩ (D := { nx := fun _ _ => True, rt := fun _ _ => True }) (σ := []) trivial
        rw [hx0] at hxs
        have exs : xs0.map V.int = xs.map V.int := by
          exact HO.lst.inj (Option.some.inj hxs)
        rw [← exs] at stn
        exact ⟨⟨_, _, rfl⟩, stn⟩
      · obtain ⟨⟨v4, s5, rfl⟩, st⟩ := h
        rw [List.length_map, List.length_range] at st
        exact ⟨_, rfl, fin 12 H' (by omega) st⟩
  refine ⟨_, rfl, _, _, rfl, rfl, _, rfl, iteD (fun _ => ?_) (fun _ => rest c)⟩
  exact ⟨_, rfl, _, _, rfl, rfl, .inl ⟨by decide, by decide⟩, _, _, rfl, rfl, rest _⟩
/-- a finished object is told -/
theorem Gw.pub {M : List Addr} {G H G' H' : Hp} {r : Addr} {o : HO} (g : Gw M G H G' H') (h : H' r = some o) (n : H r = Option.none) (gn : G' r = Option.none) : Gw M G H (upd G' r o) H' where
  gg := g.gg.trans (same_upd gn)
  gh := fun x u hx => by
    by_cases e : x = r
    · subst e; rw [upd_same] at hx; cases hx; exact h
    · rw [upd_ne e] at hx; exact g.gh x u hx
  sep := fun x hx gx => by
    have e : x ≠ r := fun e => hx (by rw [e]; exact n)
    rw [upd_ne e]; exact g.sep x hx gx
  keep := g.keep
  there := g.there
theorem Gw.new {M : List Addr} {G H G' H' : Hp} {r : Addr} (g : Gw M G H G' H') (h : H' r = Option.none) : H r = Option.none := by
  cases z : H r with
  | none => rfl
  | some o => exact absurd h (g.there r (some_ne z))
def spBox (K : PySem.W.Frag) : Sp := fun vs H Q _ => ∃ G a, ∃ xs : List Int, vs = [.ref a, .int 0, .int 40] ∧ Same G H ∧ SqL K H a (xs.map V.int) ∧ ∀ bx G' H', Gw [] G H G' H' → H bx = none → Box G' H' bx → Q (.ref bx) H'
theorem ok_law_box (T : Tx K mg) : C8.Cal P w K mg base 2 "_law_box" (spBox K) [] := by
  refine cal_of T.d_law_box T.g_law_box (fun _ _ _ _ _ _ us hl => match us, hl with | [_, _, _], _ => rfl) sc_law_box (fun vs H Q E h => ?_) (fun cdv A outer s H vs Q E hr h => ?_)
  · obtain ⟨G, a, xs, rfl, _⟩ := h; rfl
  obtain ⟨G, a, xs, rfl, s0, ha, q⟩ := h
  have c_law_row : C8.Cal P w K mg base 1 "_law_row" spRow [] := ok_law_row T
  have c_law_cell : C8.Cal P w K mg base 1 "_law_cell" (spCell K) [] := ok_law_cell T
  refine ⟨_, (pss_cons (ps_set (i := 3) sc_law_box.nd rfl (Or.inl rfl) (pe_lst pa_nil))
    (pss_cons (ps_for PassesOwn.never rfl (pi_range2 (by rfl) T.f_range (pa_cons (pv 1) (pa_cons (pv 2) pa_nil))) (pg_name (i := 4) sc_law_box.nd rfl (Or.inl rfl))
      (pss_one (ps_set (i := 3) sc_law_box.nd rfl (Or.inl rfl) (pe_op op_cat (pv 3) (C8.pe_c c_law_row hr (by omega) rfl (pa_cons (C8.pe_c c_law_cell hr (by omega) rfl (pa_cons (pv 0) (pa_cons (pv 4) pa_nil))) (pa_cons (pv 4) (pa_cons pe_int pa_nil))))))))
    (pss_one (ps_ret (pe_lst (pa_cons (pv 3) (pa_cons pe_int pa_nil))))))), ?_⟩
  refine ⟨by show 0 ≤ sizeLine; exact Nat.zero_le _, fun l hl => ?_⟩
  have g0 : Gw [] G H G _ := Gw.allocM (o := HO.lst []) s0 hl
  refine ⟨_, rfl, _, rfl, 0, 40, rfl, ⟨by decide, by decide, by decide, by decide⟩, for_over (runs_r (lo := 0) (n := 40)) (fun i σ H' => ∃ r v4, ∃ zs : List Int, σ = [some (.ref a), some (.int 0), some (.int 40), some (.ref r), v4] ∧ Gw [] G H G H' ∧ H r = none ∧ H' r = some (.lst (zs.map V.int)) ∧ zs.length ≤ 60 * i) (fun _ _ _ _ => trivial)
    ⟨l, none, [], rfl, g0, hl, upd_same, Nat.le_refl _⟩ (fun i xv σ H' hx h => ?_) (fun σ H' h => ?_)⟩
  · obtain ⟨r, v4, zs, rfl, g, hn, hr2, hz⟩ := h
    have hi : i < 40 := by
      have := (List.getElem?_eq_some_iff.mp hx).1
      simpa using this
    rw [List.getElem?_map, List.getElem?_range hi] at hx
    cases hx
    have e0 : (0 : Int) + (i : Nat) = ((i : Nat) : Int) := by omega
    dsimp only
    rw [e0]
    refine ⟨_, rfl, _, rfl, _, rfl, a, xs, i, rfl, g.same.seq ha, fun c => ?_⟩
    refine ⟨_, rfl, G, c, _, rfl, g.gh, fun b H2 ys g2 hb hy => ?_⟩
    refine ⟨r, b, _, _, rfl, rfl, g2.same _ _ hr2, hb, by rw [List.length_map, List.length_map, sizeLine_eq]; omega, fun p hp => ?_⟩
    have w2 := g.trans g2
    exact ⟨p, _, zs ++ ys, rfl, w2.trans (Gw.allocM w2.gh hp), w2.new hp, by rw [upd_same, List.map_append], by rw [List.length_append]; omega⟩
  · obtain ⟨r, v4, zs, rfl, g, hn, hr2, hz⟩ := h
    refine ⟨_, rfl, by show 2 ≤ sizeLine; exact szOf (by decide), fun bx hbx => ?_⟩
    have gn : G r = none := none_of s0 hn
    have gp := g.pub hr2 hn gn
    have hbr : bx ≠ r := fun z => by rw [z, hr2] at hbx; cases hbx
    have gb : Gw [] (upd G r (.lst (zs.map V.int))) H' (upd G r (.lst (zs.map V.int))) (upd H' bx (.lst [.ref r, .int 0])) := Gw.allocM gp.gh hbx
    refine q bx _ _ (gp.trans gb) (g.new hbx) ⟨r, zs, 0, gb.gh, ?_, upd_same, upd_same⟩
    rw [upd_ne hbr]
    exact none_of s0 (g.new hbx)
def spDraw : Sp := fun vs H Q _ => ∃ G bx, ∃ (many : Nat), vs = [.ref bx, .int (many : Nat)] ∧ Box G H bx ∧ 0 < many ∧ ∀ H' (n : Nat), Gw [bx] G H G H' → Box G H' bx → n < many → Q (.int (n : Nat)) H'
theorem ok_law_draw (T : Tx K mg) : C8.Cal P w K mg base 1 "_law_draw" spDraw [] := by
  refine cal_of T.d_law_draw T.g_law_draw (fun _ _ _ _ _ _ us hl => match us, hl with | [_, _], _ => rfl) sc_law_draw (fun vs H Q E h => ?_) (fun cdv A outer s H vs Q E hr h => ?_)
  · obtain ⟨G, bx, many, rfl, _⟩ := h; rfl
  obtain ⟨G, bx, many, rfl, ⟨ra, xs, n, b⟩, hm, q⟩ := h
  refine ⟨_, (pss_cons (ps_set (i := 2) sc_law_draw.nd rfl (Or.inl rfl) (pe_ix ix_list (pv 0) pe_int (fun _ _ => rfl)))
    (pss_cons (ps_asg (pe_op op_add (pv 2) pe_int) (pg_sub (pv 0) pe_int set_list))
    (pss_cons (ps_if (pt_cmpR op_lt (pv 2) (pe_callB call_lenL (by rfl) T.f_len (by decide +kernel) (pa_cons (pe_ix ix_list (pv 0) pe_int (fun _ _ => rfl)) pa_nil)) (nomark _))
      (pss_one (ps_ret (pe_op op_mod (pe_callTy call_int1 (by rfl) T.f_int (by decide +kernel) (pa_cons (pe_ix ix_list (pe_ix ix_list (pv 0) pe_int (fun _ _ => rfl)) (pv 2) (fun _ _ => rfl)) pa_nil)) (pv 1))))
      pss_nil)
    (pss_one (ps_ret (pe_op op_mod (pe_callTy call_int1 (by rfl) T.f_int (by decide +kernel) (pa_cons (pe_op op_add (pe_op op_mul (pv 2) pe_int) pe_int) pa_nil)) (pv 1))))))), ?_⟩
  refine ⟨_, rfl, bx, _, _, _, rfl, rfl, SqL.of b.hb, rfl, ?_⟩
  refine ⟨_, rfl, _, _, rfl, rfl, _, rfl, bx, _, _, 1, rfl, rfl, b.hb, rfl, ?_⟩
  have g1 : Gw [bx] G H G (upd H bx (.lst [.ref ra, .int ((n : Int) + 1)])) := Gw.write b.sm b.gb (List.mem_singleton.mpr rfl)
  have b1 : BoxAt G (upd H bx (.lst [.ref ra, .int ((n : Int) + 1)])) bx ra xs (n + 1) := ⟨g1.gh, b.gb, b.gr, upd_same⟩
  have hra := g1.gh _ _ b.gr
  have hfin : ∀ i : Int, ∃ m : Nat, i % (many : Int) = (m : Int) ∧ m < many := fun i => by
    refine ⟨(i % (many : Int)).toNat, ?_, ?_⟩
    · rw [Int.toNat_of_nonneg (Int.emod_nonneg _ (by omega))]
    · have h1 := Int.emod_lt_of_pos i (show (0 : Int) < many by omega)
      have h2 := Int.emod_nonneg i (show (many : Int) ≠ 0 by omega)
      omega
  refine ⟨_, rfl, _, rfl, bx, _, _, _, rfl, rfl, SqL.of upd_same, rfl, ra, _, rfl, SqL.of hra, _, _, rfl, rfl, _, rfl, iteD (fun hlt => ?_) (fun _ => ?_)⟩
  · rw [List.length_map] at hlt
    have hn : n < xs.length := by omega
    refine ⟨_, rfl, bx, _, _, _, rfl, rfl, SqL.of upd_same, rfl, _, rfl, ra, _, _, _, rfl, rfl, SqL.of hra, atI_nat (xs := xs.map V.int) (v := V.int xs[n]) (by rw [List.getElem?_map, List.getElem?_eq_getElem hn]; rfl), .inl ⟨_, rfl, _, rfl, _, _, rfl, rfl, by show (0 : Int) < many; omega, ?_⟩⟩
    obtain ⟨m, e, hmm⟩ := hfin xs[n]
    have z := q _ m g1 ⟨ra, xs, n + 1, b1⟩ hmm
    rw [← e] at z
    exact z
  · refine ⟨_, rfl, _, _, rfl, rfl, .inr ⟨by decide, by decide⟩, _, _, rfl, rfl, .inl ⟨_, rfl, _, rfl, _, _, rfl, rfl, by show (0 : Int) < many; omega, ?_⟩⟩
    obtain ⟨m, e, hmm⟩ := hfin ((n : Int) * 7 + 3)
    have z := q _ m g1 ⟨ra, xs, n + 1, b1⟩ hmm
    rw [← e] at z
    exact z
end
end Mw

set_option Elab.async false
set_option linter.all false
set_option maxRecDepth 100000
set_option maxHeartbeats 4000000
/-! MwD2: the law's messages. -/
namespace Mw
open PySem PySem.Spec L2
open SX (S S_cat S_len S_inj)
/-- the shape of what _law_message makes -/
def lits : List (List Nat) := [[], [97], [98], [49], [50]]
def shws : List (List Nat) := [[110], [120], [119]]
def nums : List (List Nat) := [[109], [110]]
def keysOf (pl : Bool) : List Ky := if pl = true then [.ix 0, .ix 1, .ix 3, .wd [111, 110, 101], .wd [102, 101, 119], .wd [109, 97, 110, 121]] else [.wd [104, 101], .wd [115, 104, 101]]
def g0 (i : Bool) (x : Nd) : Prop := (∃ s ∈ lits, x = .txt s) ∨ (∃ n ∈ shws, x = .shw n) ∨ (x = .num ∧ i = true)
def gM : Nat → Bool → List Nd → Prop
  | 0, i, m => m.length ≤ 2 ∧ ∀ x ∈ m, g0 i x
  | d + 1, i, m => m.length ≤ 2 ∧ ∀ x ∈ m, g0 i x ∨ ∃ pl n off cs ot, x = .cho pl n off cs ot ∧ (pl = true → n ∈ nums) ∧ (pl = false → n = [119] ∧ off = 0) ∧ off ≤ 2 ∧ (cs.map (·.1)).Sublist (keysOf pl) ∧ (∀ q ∈ cs, gM d (pl || i) q.2) ∧ gM d (pl || i) ot
def gX (d : Nat) (i : Bool) (x : Nd) : Prop := g0 i x ∨ ∃ d', d = d' + 1 ∧ ∃ pl n off cs ot, x = .cho pl n off cs ot ∧ (pl = true → n ∈ nums) ∧ (pl = false → n = [119] ∧ off = 0) ∧ off ≤ 2 ∧ (cs.map (·.1)).Sublist (keysOf pl) ∧ (∀ q ∈ cs, gM d' (pl || i) q.2) ∧ gM d' (pl || i) ot
theorem gM_of {d : Nat} {i : Bool} {m : List Nd} (h : m.length ≤ 2) (hx : ∀ x ∈ m, gX d i x) : gM d i m := by
  cases d with
  | zero =>
    refine ⟨h, fun x hm => ?_⟩
    rcases hx x hm with z | ⟨d', e, _⟩
    · exact z
    · cases e
  | succ d =>
    refine ⟨h, fun x hm => ?_⟩
    rcases hx x hm with z | ⟨d', e, z⟩
    · exact .inl z
    · cases e; exact .inr z
theorem Box.up {M : List Addr} {G H G' H' : Hp} {bx : Addr} (b : Box G H bx) (g : Gw M G H G' H') (hm : bx ∉ M) : Box G' H' bx := by
  obtain ⟨ra, xs, n, b⟩ := b
  exact ⟨ra, xs, n, g.gh, g.sep bx (some_ne b.hb) b.gb, g.gg _ _ b.gr, g.keep bx _ hm b.hb⟩
theorem Box.sm {G H : Hp} {bx : Addr} (b : Box G H bx) : Same G H := let ⟨_, _, _, b⟩ := b; b.sm
theorem Box.gb {G H : Hp} {bx : Addr} (b : Box G H bx) : G bx = none := let ⟨_, _, _, b⟩ := b; b.gb
theorem Box.hne {G H : Hp} {bx : Addr} (b : Box G H bx) : H bx ≠ none := let ⟨_, _, _, b⟩ := b; some_ne b.hb
theorem Box.tell {G H : Hp} {bx r : Addr} {o : HO} (b : Box G H bx) (h : H r = some o) (gn : G r = none) (hr : bx ≠ r) : Box (upd G r o) H bx := by
  obtain ⟨ra, xs, n, b⟩ := b
  refine ⟨ra, xs, n, fun x u hx => ?_, by rw [upd_ne hr]; exact b.gb, same_upd gn _ _ b.gr, b.hb⟩
  by_cases e : x = r
  · subst e; rw [upd_same] at hx; cases hx; exact h
  · rw [upd_ne e] at hx; exact b.sm x u hx
section
variable {P : Program} {w : World} {K : PySem.W.Frag} {mg : Str → Option Value} {base : Heap}
/-- [..][_law_draw(box, n)] -/
theorem pick {ta : TA} {vs : List V} {G H : Hp} {bx : Addr} {σ : L2.St} {Q : VK} {n : Nat} (hσ : σ[0]? = some (some (.ref bx))) (b : Box G H bx) (hta : ∀ R : List V → Hp → Prop, R vs H → ta σ H R) (hn : vs.length = n) (h0 : 0 < n) (hz : n ≤ 1000)
    (q : ∀ H' v, Gw [bx] G H G H' → Box G H' bx → v ∈ vs → Q v H') :
    tOp (rIxL K) (tLst ta) (tCall spDraw [] C8.E0 (tCons (tVar 0) (tCons (tC (.int (n : Nat))) tNil))) σ H Q := by
  refine hta _ ⟨by rw [hn]; exact szOf hz, fun p hp => ⟨_, hσ, ?_⟩⟩
  have g1 : Gw [] G H G (upd H p (.lst vs)) := Gw.allocM b.sm hp
  have hpb : p ∉ [bx] := by
    intro z
    have z' : p = bx := by simpa using z
    exact b.hne (z' ▸ hp)
  refine ⟨G, bx, n, rfl, b.up g1 (by simp), h0, fun H2 k g2 b2 hk => ?_⟩
  have hv : vs[k]? = some vs[k] := List.getElem?_eq_getElem (by omega)
  exact ⟨p, vs, _, vs[k], rfl, rfl, SqL.of (g2.keep p _ hpb upd_same), atI_nat hv, q H2 _ (g1.nil.trans g2) b2 (List.mem_of_getElem? hv)⟩
abbrev Cs' : Type := List (Ky × List Nd)
def spGen : Nat → Sp := fun D vs H Q _ => ∃ G bx na, ∃ (d : Nat) (i : Bool), D = d + 1 ∧ vs = [.ref bx, .int (d : Nat), .bl i, .ref na] ∧ Box G H bx ∧ G na = some (.lst [.str (S [109]), .str (S [110])]) ∧
  ∀ G' H' l ws m, Gw [bx] G H G' H' → Box G' H' bx → H l = none → G' l = none → H' l = some (.lst ws) → RpL G' ws (encM m) → gM d i m → Q (.ref l) H'
theorem ok_law_message (T : Tx K mg) {km D : Nat} (hkm : 1 ≤ km) (c_law_message : C8.Cal P w K mg base km "_law_message" (spGen D) []) : C8.Cal P w K mg base (km + 1) "_law_message" (spGen (D + 1)) [] := by
  refine cal_of T.d_law_message T.g_law_message (fun _ _ _ _ _ _ us hl => match us, hl with | [_, _, _, _], _ => rfl) sc_law_message (fun vs H Q E h => ?_) (fun cdv A outer s H vs Q E hr h => ?_)
  · obtain ⟨G, bx, na, d, i, _, rfl, _⟩ := h; rfl
  obtain ⟨G, bx, na, d, i, hD, rfl, b0, hna, q⟩ := h
  obtain rfl : D = d := by omega
  have c_law_draw : C8.Cal P w K mg base 1 "_law_draw" spDraw [] := ok_law_draw T
  refine ⟨_, (pss_cons (ps_set (i := 4) sc_law_message.nd rfl (Or.inl rfl) (pe_lst pa_nil))
    (pss_cons (ps_for PassesOwn.never rfl (pi_range1 (by rfl) T.f_range (pa_cons (pe_op op_add pe_int (C8.pe_c c_law_draw hr (by omega) rfl (pa_cons (pv 0) (pa_cons pe_int pa_nil)))) pa_nil)) (pg_name (i := 5) sc_law_message.nd rfl (Or.inl rfl))
      (pss_cons (ps_set (i := 6) sc_law_message.nd rfl (Or.inl rfl) (C8.pe_c c_law_draw hr (by omega) rfl (pa_cons (pv 0) (pa_cons pe_int pa_nil))))
      (pss_one (ps_if (PW.pt (pw_and (pt_cmpR op_gt (pv 1) pe_int (nomark _)) (pw_and1 (pt_cmpR op_lt (pv 6) pe_int (nomark _)))))
        (pss_cons (ps_setLc (i := 7) (own := [("_law_word_here", 10)]) (g := gName 10) rfl sc_law_message.nd rfl rfl (sw_true rfl rfl rfl (by decide +kernel)) (pi_list (pe_lst (pa_cons (pe_s [104, 101]) (pa_cons (pe_s [115, 104, 101]) pa_nil)))) (blkOk_by (own := [("_law_word_here", 10)]) (N := N_law_message) (sc := defScope s_law_message) (by decide +kernel)) (fun _ _ _ _ _ => pg_name (i := 10) sc_law_message.nd rfl (Or.inl rfl)) (fun _ _ _ _ _ => (pts_one (pt_cmpR op_gt (C8.pe_c c_law_draw hr (by omega) rfl (pa_cons (pv 0) (pa_cons pe_int pa_nil))) pe_int (nomark _)))) (fun _ _ _ _ _ => (pe_tup (pa_cons (pv 10) (pa_cons (C8.pe_c c_law_message hr (by omega) rfl (pa_cons (pv 0) (pa_cons (pe_op op_sub (pv 1) pe_int) (pa_cons (pv 2) (pa_cons (pv 3) pa_nil))))) pa_nil)))))
        (pss_one (ps_expr (pe_bm PySem.F.plainAttrs_list PySem.F.slot_list_append PySem.F.type_list_append mt_append (pv 4) (pa_cons (pe_tup (pa_cons (pe_s [115, 101, 108, 101, 99, 116]) (pa_cons (pe_s [119]) (pa_cons (pv 7) (pa_cons (C8.pe_c c_law_message hr (by omega) rfl (pa_cons (pv 0) (pa_cons (pe_op op_sub (pv 1) pe_int) (pa_cons (pv 2) (pa_cons (pv 3) pa_nil))))) pa_nil))))) pa_nil)))))
        (pss_one (ps_if (PW.pt (pw_and (pt_cmpR op_gt (pv 1) pe_int (nomark _)) (pw_and1 (pt_cmpR op_lt (pv 6) pe_int (nomark _)))))
          (pss_cons (ps_set (i := 7) sc_law_message.nd rfl (Or.inl rfl) (pe_lst pa_nil))
          (pss_cons (ps_for PassesOwn.never rfl (pi_list (pe_lst (pa_cons pe_int (pa_cons pe_int (pa_cons pe_int (pa_cons (pe_s [111, 110, 101]) (pa_cons (pe_s [102, 101, 119]) (pa_cons (pe_s [109, 97, 110, 121]) pa_nil)))))))) (pg_name (i := 8) sc_law_message.nd rfl (Or.inl rfl))
            (pss_one (ps_if (pt_cmpR op_eq (C8.pe_c c_law_draw hr (by omega) rfl (pa_cons (pv 0) (pa_cons pe_int pa_nil))) pe_int (nomark _))
              (pss_one (ps_expr (pe_bm PySem.F.plainAttrs_list PySem.F.slot_list_append PySem.F.type_list_append mt_append (pv 7) (pa_cons (pe_tup (pa_cons (pv 8) (pa_cons (C8.pe_c c_law_message hr (by omega) rfl (pa_cons (pv 0) (pa_cons (pe_op op_sub (pv 1) pe_int) (pa_cons pe_bl (pa_cons (pv 3) pa_nil))))) pa_nil))) pa_nil))))
              pss_nil)))
          (pss_cons (ps_set (i := 9) sc_law_message.nd rfl (Or.inl rfl) (pe_ix ix_list (pv 3) (pe_op op_mod (pe_callTy call_int1 (by rfl) T.f_int (by decide +kernel) (pa_cons (C8.pe_c c_law_draw hr (by omega) rfl (pa_cons (pv 0) (pa_cons pe_int pa_nil))) pa_nil)) (pe_callB call_lenL (by rfl) T.f_len (by decide +kernel) (pa_cons (pv 3) pa_nil))) (fun _ _ => rfl)))
          (pss_one (ps_expr (pe_bm PySem.F.plainAttrs_list PySem.F.slot_list_append PySem.F.type_list_append mt_append (pv 4) (pa_cons (pe_tup (pa_cons (pe_s [112, 108, 117, 114, 97, 108]) (pa_cons (pv 9) (pa_cons (pe_ix ix_list (pe_lst (pa_cons pe_int (pa_cons pe_int (pa_cons pe_int (pa_cons pe_int pa_nil))))) (C8.pe_c c_law_draw hr (by omega) rfl (pa_cons (pv 0) (pa_cons pe_int pa_nil))) (fun _ _ => rfl)) (pa_cons (pv 7) (pa_cons (C8.pe_c c_law_message hr (by omega) rfl (pa_cons (pv 0) (pa_cons (pe_op op_sub (pv 1) pe_int) (pa_cons pe_bl (pa_cons (pv 3) pa_nil))))) pa_nil)))))) pa_nil)))))))
          (pss_one (ps_if (PW.pt (pw_and (pt_cmpR op_eq (pv 6) pe_int (nomark _)) (pw_and1 (pt_val (pv 2)))))
            (pss_one (ps_expr (pe_bm PySem.F.plainAttrs_list PySem.F.slot_list_append PySem.F.type_list_append mt_append (pv 4) (pa_cons (pe_tup (pa_cons (pe_s [110, 117, 109, 98, 101, 114]) pa_nil)) pa_nil))))
            (pss_one (ps_if (pt_cmpR op_eq (pv 6) pe_int (nomark _))
              (pss_one (ps_expr (pe_bm PySem.F.plainAttrs_list PySem.F.slot_list_append PySem.F.type_list_append mt_append (pv 4) (pa_cons (pe_tup (pa_cons (pe_s [115, 104, 111, 119]) (pa_cons (pe_ix ix_list (pe_lst (pa_cons (pe_s [110]) (pa_cons (pe_s [120]) (pa_cons (pe_s [119]) pa_nil)))) (C8.pe_c c_law_draw hr (by omega) rfl (pa_cons (pv 0) (pa_cons pe_int pa_nil))) (fun _ _ => rfl)) pa_nil))) pa_nil))))
              (pss_one (ps_expr (pe_bm PySem.F.plainAttrs_list PySem.F.slot_list_append PySem.F.type_list_append mt_append (pv 4) (pa_cons (pe_tup (pa_cons (pe_s [116, 101, 120, 116]) (pa_cons (pe_ix ix_list (pe_lst (pa_cons (pe_s []) (pa_cons (pe_s [97]) (pa_cons (pe_s [98]) (pa_cons (pe_s [49]) (pa_cons (pe_s [50]) pa_nil)))))) (C8.pe_c c_law_draw hr (by omega) rfl (pa_cons (pv 0) (pa_cons pe_int pa_nil))) (fun _ _ => rfl)) pa_nil))) pa_nil))))))))))))))
    (pss_one (ps_ret (pv 4))))), ?_⟩
  refine ⟨by show 0 ≤ sizeLine; exact Nat.zero_le _, fun f hf => ?_⟩
  have gc0 : Gw [] G H G _ := Gw.allocM (o := HO.lst []) b0.sm hf
  have hfG := none_of b0.sm hf
  have hfb : bx ≠ f := fun z => b0.hne (z ▸ hf)
  have nf : f ∉ [bx] := by simp [Ne.symm hfb]
  have sub : ∀ x ∈ [bx], x ∈ [f, bx] := fun x hx => List.mem_cons_of_mem _ hx
  have bA := b0.up gc0 (by simp)
  refine ⟨_, rfl, G, bx, 2, rfl, bA, by decide, fun H1 n g1 b1 hn => ?_⟩
  refine ⟨_, _, rfl, rfl, _, rfl, by omega, by omega, ?_⟩
  have hto : ((1 : Int) + (n : Nat)).toNat = n + 1 := by omega
  let Pv : Nat → L2.St → Hp → Prop := fun j σ H' => ∃ G' ws m v5 v6 v7 v8 v9, σ = [some (.ref bx), some (.int (D : Nat)), some (.bl i), some (.ref na), some (.ref f), v5, v6, v7, v8, v9, none] ∧ Gw [f, bx] G (upd H f (.lst [])) G' H' ∧ Box G' H' bx ∧
    H' f = some (.lst ws) ∧ RpL G' ws (encM m) ∧ m.length ≤ j ∧ ∀ x ∈ m, gX D i x
  refine for_over (runs_r (lo := 0) (n := ((1 : Int) + (n : Nat)).toNat)) Pv (fun _ _ _ _ => trivial) ⟨G, [], [], none, none, none, none, none, rfl, g1.mono sub, b1, g1.keep f _ nf upd_same, by rw [encM]; exact .nil, Nat.le_refl _, fun x hx => (by cases hx)⟩ (fun j xv σ H2 hx h => ?_) (fun σ H2 h => ?_)
  · obtain ⟨G2, ws, m, v5, v6, v7, v8, v9, rfl, g2, b2, hf2, rws, hml, hmx⟩ := h
    have hwl : ws.length = m.length := by rw [rws.length, encM_len]
    have hj : j < n + 1 := by
      have := (List.getElem?_eq_some_iff.mp hx).1
      rw [List.length_map, List.length_range] at this
      omega
    refine ⟨_, rfl, G2, bx, 8, rfl, b2, by decide, fun H3 kd g3 b3 hkd => ?_⟩
    have hf3 := g3.keep f _ nf hf2
    have w3 := g2.trans (g3.mono sub)
    -- a node goes to the end
    have app : ∀ (G3 H3 : Hp), Gw [f, bx] G (upd H f (.lst [])) G3 H3 → H3 f = some (.lst ws) → RpL G3 ws (encM m) → ∀ (te : TE) (D' : Ends) (w7 w8 w9 : Option V), D'.nx = Pv (j + 1) → (∀ Q' : VK, (∀ G4 H4 v x, Gw [bx] G3 H3 G4 H4 → Box G4 H4 bx → Rp G4 v (encN x) → gX D i x → Q' v H4) → te [some (.ref bx), some (.int (D : Nat)), some (.bl i), some (.ref na), some (.ref f), some xv, some (.int (kd : Nat)), w7, w8, w9, none] H3 Q') →
        tDrop (tBM K "list" rAppend (tVar 4) (tCons te tNil)) D' [some (.ref bx), some (.int (D : Nat)), some (.bl i), some (.ref na), some (.ref f), some xv, some (.int (kd : Nat)), w7, w8, w9, none] H3 := fun G3 H3 w3 hf3 rws3 te D' w7 w8 w9 hD' hte => by
      refine ⟨_, rfl, .inl ⟨rfl, _, SqL.of hf3⟩, hte _ fun G4 H4 v x g4 b4 rv hx => ?_⟩
      have hf4 := g4.keep f _ nf hf3
      have w4 := w3.trans (g4.mono sub)
      have gw : Gw [f, bx] G4 H4 G4 _ := Gw.write (M := [f, bx]) (o := HO.lst (ws ++ [v])) g4.gh (w4.none upd_ne_none hfG) (List.mem_cons_self ..)
      refine ⟨f, ws, v, rfl, rfl, hf4, by rw [hwl, sizeLine_eq]; omega, ?_⟩
      rw [hD']
      refine ⟨G4, ws ++ [v], m ++ [x], _, _, _, _, _, rfl, w4.trans gw, ?_, upd_same, ?_, by rw [List.length_append]; show m.length + 1 ≤ _; omega, ?_⟩
      · obtain ⟨ra, xs, nn, bb⟩ := b4
        exact ⟨ra, xs, nn, gw.gh, bb.gb, bb.gr, by rw [upd_ne hfb]; exact bb.hb⟩
      · rw [encM_append]
        exact (rws3.same g4.gg).snoc rv
      · intro y hy
        rcases List.mem_append.mp hy with hy | hy
        · exact hmx y hy
        · have : y = x := by simpa using hy
          rw [this]; exact hx
    have rws3 := rws.same g3.gg
    have low : ∀ (D' : Ends), D'.nx = Pv (j + 1) → tIfS (tAnd (tTest (tOp rEq (tVar 6) (tC (.int 5)))) (tB (tVar 2))) (tDrop (tBM K "list" rAppend (tVar 4) (tCons (tTup (tCons (tC (.str (S tNum))) tNil)) tNil)))
        (tIfS (tTest (tOp rEq (tVar 6) (tC (.int 6)))) (tDrop (tBM K "list" rAppend (tVar 4) (tCons (tTup (tCons (tC (.str (S tShow))) (tCons (tOp (rIxL K) (tLst (tCons (tC (.str (S [110]))) (tCons (tC (.str (S [120]))) (tCons (tC (.str (S [119]))) tNil)))) (tCall spDraw [] C8.E0 (tCons (tVar 0) (tCons (tC (.int 3)) tNil)))) tNil))) tNil)))
          (tDrop (tBM K "list" rAppend (tVar 4) (tCons (tTup (tCons (tC (.str (S tText))) (tCons (tOp (rIxL K) (tLst (tCons (tC (.str (S []))) (tCons (tC (.str (S [97]))) (tCons (tC (.str (S [98]))) (tCons (tC (.str (S [49]))) (tCons (tC (.str (S [50]))) tNil)))))) (tCall spDraw [] C8.E0 (tCons (tVar 0) (tCons (tC (.int 5)) tNil)))) tNil))) tNil)))) D' [some (.ref bx), some (.int (D : Nat)), some (.bl i), some (.ref na), some (.ref f), some xv, some (.int (kd : Nat)), v7, v8, v9, none] H3 := fun D' hD' => by
      have six : tIfS (tTest (tOp rEq (tVar 6) (tC (.int 6)))) (tDrop (tBM K "list" rAppend (tVar 4) (tCons (tTup (tCons (tC (.str (S tShow))) (tCons (tOp (rIxL K) (tLst (tCons (tC (.str (S [110]))) (tCons (tC (.str (S [120]))) (tCons (tC (.str (S [119]))) tNil)))) (tCall spDraw [] C8.E0 (tCons (tVar 0) (tCons (tC (.int 3)) tNil)))) tNil))) tNil)))
          (tDrop (tBM K "list" rAppend (tVar 4) (tCons (tTup (tCons (tC (.str (S tText))) (tCons (tOp (rIxL K) (tLst (tCons (tC (.str (S []))) (tCons (tC (.str (S [97]))) (tCons (tC (.str (S [98]))) (tCons (tC (.str (S [49]))) (tCons (tC (.str (S [50]))) tNil)))))) (tCall spDraw [] C8.E0 (tCons (tVar 0) (tCons (tC (.int 5)) tNil)))) tNil))) tNil))) D' [some (.ref bx), some (.int (D : Nat)), some (.bl i), some (.ref na), some (.ref f), some xv, some (.int (kd : Nat)), v7, v8, v9, none] H3 := by
        refine ⟨_, rfl, rfl, _, rfl, iteI (fun _ => ?_) (fun _ => ?_)⟩
        · refine app G2 H3 w3 hf3 rws3 _ D' _ _ _ hD' fun Q' q' => ?_
          refine pick (vs := [.str (S [110]), .str (S [120]), .str (S [119])]) rfl b3 (fun R h => h) rfl (by decide) (by decide) fun H4 v g4 b4 hv => ?_
          obtain ⟨s, hs, rfl⟩ : ∃ s ∈ shws, v = .str (S s) := by
            simp at hv
            rcases hv with rfl | rfl | rfl
            · exact ⟨[110], by simp [shws], rfl⟩
            · exact ⟨[120], by simp [shws], rfl⟩
            · exact ⟨[119], by simp [shws], rfl⟩
          refine ⟨by show 2 ≤ sizeLine; exact szOf (by decide), fun t ht => ?_⟩
          have gt : Gw [] G2 H4 _ _ := Gw.alloc (o := HO.tup [V.str (S tShow), V.str (S s)]) g4.gh ht
          exact q' _ _ _ (.shw s) (g4.trans gt.nil) (b4.up gt (by simp)) (.tup upd_same (.cons (.str _) (.cons (.str _) .nil))) (.inl (.inr (.inl ⟨s, hs, rfl⟩)))
        · refine app G2 H3 w3 hf3 rws3 _ D' _ _ _ hD' fun Q' q' => ?_
          refine pick (vs := [.str (S []), .str (S [97]), .str (S [98]), .str (S [49]), .str (S [50])]) rfl b3 (fun R h => h) rfl (by decide) (by decide) fun H4 v g4 b4 hv => ?_
          obtain ⟨s, hs, rfl⟩ : ∃ s ∈ lits, v = .str (S s) := by
            simp at hv
            rcases hv with rfl | rfl | rfl | rfl | rfl
            · exact ⟨[], by simp [lits], rfl⟩
            · exact ⟨[97], by simp [lits], rfl⟩
            · exact ⟨[98], by simp [lits], rfl⟩
            · exact ⟨[49], by simp [lits], rfl⟩
            · exact ⟨[50], by simp [lits], rfl⟩
          refine ⟨by show 2 ≤ sizeLine; exact szOf (by decide), fun t ht => ?_⟩
          have gt : Gw [] G2 H4 _ _ := Gw.alloc (o := HO.tup [V.str (S tText), V.str (S s)]) g4.gh ht
          exact q' _ _ _ (.txt s) (g4.trans gt.nil) (b4.up gt (by simp)) (.tup upd_same (.cons (.str _) (.cons (.str _) .nil))) (.inl (.inl ⟨s, hs, rfl⟩))
      refine ⟨_, rfl, rfl, _, rfl, iteI (fun _ => ?_) (fun _ => iteF six)⟩
      refine ⟨_, rfl, _, rfl, iteB (fun hi => ?_) (fun _ => six)⟩
      refine app G2 H3 w3 hf3 rws3 _ D' _ _ _ hD' fun Q' q' => ?_
      refine ⟨by show 1 ≤ sizeLine; exact szOf (by decide), fun t ht => ?_⟩
      have gt : Gw [] G2 H3 _ _ := Gw.alloc (o := HO.tup [V.str (S tNum)]) b3.sm ht
      exact q' _ _ _ .num gt.nil (b3.up gt (by simp)) (.tup upd_same (.cons (.str _) .nil)) (.inl (.inr (.inr ⟨rfl, hi⟩)))
    have hna3 : G2 na = some (HO.lst [.str (S [109]), .str (S [110])]) := w3.gg _ _ hna
    cases D with
    | zero =>
      refine ⟨_, rfl, _, _, rfl, rfl, _, rfl, iteD (fun z => absurd z (by decide)) (fun _ => iteF ?_)⟩
      exact ⟨_, rfl, _, _, rfl, rfl, _, rfl, iteD (fun z => absurd z (by decide)) (fun _ => iteF (low _ rfl))⟩
    | succ d =>
      have ed : (((d + 1 : Nat) : Int) - 1) = ((d : Nat) : Int) := by omega
      have told : ∀ (G5 H5 G6 H6 : Hp) (l : Addr) (ws' : List V) (m' : List Nd), Gw [bx] G5 H5 G6 H6 → Box G6 H6 bx → Box G5 H5 bx → H5 l = none → G6 l = none → H6 l = some (.lst ws') → RpL G6 ws' (encM m') → ∃ G7 v, v = V.ref l ∧ Gw [bx] G5 H5 G7 H6 ∧ Box G7 H6 bx ∧ Rp G7 v (.list (encM m')) := fun G5 H5 G6 H6 l ws' m' g6 b6 b5 hl gl hl6 rl => by
        have hbl : bx ≠ l := fun z => b5.hne (z ▸ hl)
        exact ⟨upd G6 l (.lst ws'), .ref l, rfl, g6.pub hl6 hl gl, b6.tell hl6 gl hbl, .lst upd_same (rl.same (same_upd gl))⟩
      -- the cases at c, after k keys
      let Cs : Bool → Bool → Hp → Addr → Nat → Hp → Prop := fun pl i' Ha c k H4 => ∃ G4 ws4 cs, Gw [c, bx] G2 (upd Ha c (.lst [])) G4 H4 ∧ Box G4 H4 bx ∧ H4 c = some (.lst ws4) ∧ RpL G4 ws4 (encC cs) ∧ (cs.map (·.1)).Sublist ((keysOf pl).take k) ∧ ∀ q ∈ cs, gM d i' q.2
      have cs0 : ∀ (pl i' : Bool) (Ha : Hp) (c : Addr), Box G2 Ha bx → Ha c = none → Cs pl i' Ha c 0 (upd Ha c (.lst [])) := fun pl i' Ha c ba hc => by
        have ga : Gw [] G2 Ha G2 _ := Gw.allocM (o := HO.lst []) ba.sm hc
        exact ⟨G2, [], [], Gw.refl ga.gh, ba.up ga (by simp), upd_same, .nil, by simp, fun q hq => (by cases hq)⟩
      have csSkip : ∀ (pl i' : Bool) (Ha : Hp) (c : Addr) (k : Nat) (H4 H5 : Hp), Cs pl i' Ha c k H4 → (∀ G4, Box G4 H4 bx → Gw [bx] G4 H4 G4 H5 ∧ Box G4 H5 bx) → c ≠ bx → Cs pl i' Ha c (k + 1) H5 := fun pl i' Ha c k H4 H5 h hg hcb => by
        obtain ⟨G4, ws4, cs, g4, b4, hc4, rc4, hs, hm⟩ := h
        obtain ⟨g5, b5⟩ := hg G4 b4
        refine ⟨G4, ws4, cs, g4.trans (g5.mono (fun x hx => List.mem_cons_of_mem _ hx)), b5, g5.keep c _ (by simp [hcb]) hc4, rc4, hs.trans ?_, hm⟩
        rw [List.take_add_one]
        exact List.sublist_append_left _ _
      have csAdd : ∀ (pl i' : Bool) (Ha : Hp) (c : Addr) (k : Nat) (ky : Ky) (G4 H4 H5 G6 H6 : Hp) (ws4 : List V) (cs : Cs') (v : V) (m' : List Nd) (t : Addr), (keysOf pl)[k]? = some ky → Box G2 Ha bx → Ha c = none → c ≠ bx → Gw [c, bx] G2 (upd Ha c (.lst [])) G4 H4 → H4 c = some (.lst ws4) → RpL G4 ws4 (encC cs) → (cs.map (·.1)).Sublist ((keysOf pl).take k) → (∀ q ∈ cs, gM d i' q.2) →
          Gw [bx] G4 H4 G4 H5 → Gw [bx] G4 H5 G6 H6 → Box G6 H6 bx → Rp G6 v (.list (encM m')) → gM d i' m' → H6 t = none → (upd H6 t (.tup [encV ky, v])) c = some (.lst ws4) ∧ ws4.length < sizeLine ∧ Cs pl i' Ha c (k + 1) (upd (upd H6 t (.tup [encV ky, v])) c (.lst (ws4 ++ [V.ref t]))) := fun pl i' Ha c k ky G4 H4 H5 G6 H6 ws4 cs v m' t hky ba hc hcb g4 hc4 rc4 hs hm g5 g6 b6 rv gm ht => by
        have hcG : G2 c = none := none_of ba.sm hc
        have hc6 := g6.keep c _ (by simp [hcb]) (g5.keep c _ (by simp [hcb]) hc4)
        have gt : Gw [] G6 H6 _ _ := Gw.alloc (o := HO.tup [encV ky, v]) g6.gh ht
        have w6 := ((g4.trans (g5.mono (fun x hx => List.mem_cons_of_mem _ hx))).trans (g6.mono (fun x hx => List.mem_cons_of_mem _ hx))).trans gt.nil
        have hct := gt.same _ _ hc6
        have gw : Gw [c, bx] _ _ _ _ := Gw.write (M := [c, bx]) (o := HO.lst (ws4 ++ [V.ref t])) gt.gh (w6.none upd_ne_none hcG) (List.mem_cons_self ..)
        have hkl : cs.length ≤ 6 := by
          have h1 := hs.length_le
          rw [List.length_map] at h1
          have h2 : ((keysOf pl).take k).length ≤ (keysOf pl).length := by rw [List.length_take]; omega
          have h3 : (keysOf pl).length ≤ 6 := by cases pl <;> decide
          omega
        refine ⟨hct, by rw [rc4.length, encC_len, sizeLine_eq]; omega, _, ws4 ++ [V.ref t], cs ++ [(ky, m')], w6.trans gw, ?_, upd_same, ?_, ?_, ?_⟩
        · obtain ⟨ra, xs, nn, bb⟩ := b6.up gt (by simp)
          exact ⟨ra, xs, nn, gw.gh, bb.gb, bb.gr, by rw [upd_ne (Ne.symm hcb)]; exact bb.hb⟩
        · rw [encC_append]
          exact (rc4.same (g6.gg.trans gt.gg)).snoc (.tup upd_same (.cons (Rp.key ky) (.cons (rv.same gt.gg) .nil)))
        · rw [List.map_append, take_snoc hky]
          exact hs.append (List.Sublist.refl _)
        · intro q hq
          rcases List.mem_append.mp hq with hq | hq
          · exact hm q hq
          · have : q = (ky, m') := by simpa using hq
            rw [this]; exact gm
      have csEnd : ∀ (pl i' : Bool) (Ha : Hp) (c : Addr) (H4 : Hp), Gw [] G2 H3 G2 Ha → Box G2 Ha bx → Ha c = none → c ≠ bx → Cs pl i' Ha c (keysOf pl).length H4 → ∃ G4 ws4 cs, Gw [bx] G2 H3 G4 H4 ∧ Box G4 H4 bx ∧ G4 c = some (.lst ws4) ∧ RpL G4 ws4 (encC cs) ∧ (cs.map (·.1)).Sublist (keysOf pl) ∧ ∀ q ∈ cs, gM d i' q.2 := fun pl i' Ha c H4 ga ba hc hcb h => by
        obtain ⟨G4, ws4, cs, g4, b4, hc4, rc4, hs, hm⟩ := h
        have hcG : G2 c = none := none_of ba.sm hc
        have wc : Gw [bx] G2 Ha (upd G4 c (.lst ws4)) H4 := Gw.close ba.sm hc g4 hc4
        have gn := g4.none upd_ne_none hcG
        refine ⟨_, ws4, cs, ga.nil.trans wc, b4.tell hc4 gn (Ne.symm hcb), upd_same, rc4.same (same_upd gn), ?_, hm⟩
        rw [List.take_length] at hs; exact hs
      refine ⟨_, rfl, _, _, rfl, rfl, _, rfl, iteD (fun _ => ?_) (fun z => absurd (by omega) z)⟩
      refine ⟨_, rfl, _, _, rfl, rfl, _, rfl, iteD (fun _ => ?_) (fun _ => ?_)⟩
      · -- a select
        dsimp only [tSeq]
        refine asg_lc (fun c H4 => ∃ G4 ws4 cs, Gw [bx] G2 H3 G4 H4 ∧ Box G4 H4 bx ∧ G4 c = some (.lst ws4) ∧ RpL G4 ws4 (encC cs) ∧ (cs.map (·.1)).Sublist (keysOf false) ∧ ∀ q ∈ cs, gM d i q.2) (fun Q' hQ => ?_) (fun c H4 hp => ?_)
        · refine ⟨by show 2 ≤ sizeLine; exact szOf (by decide), fun hl hhl => ?_⟩
          have ga : Gw [] G2 H3 G2 _ := Gw.allocM (o := HO.lst ((keysOf false).map encV)) b3.sm hhl
          have ba := b3.up ga (by simp)
          have hhb : hl ≠ bx := fun z => b3.hne (z ▸ hhl)
          have hha : (upd H3 hl (.lst ((keysOf false).map encV))) hl = some (.lst ((keysOf false).map encV)) := upd_same
          show ∃ a, V.ref hl = V.ref a ∧ _
          generalize hHa : upd H3 hl (.lst ((keysOf false).map encV)) = Ha at ga ba hha
          refine ⟨hl, rfl, ⟨_, SqL.of (by rw [← hHa] at hha; exact hha)⟩, ?_⟩
          have hHa' : upd H3 hl (.lst [V.str (S [104, 101]), V.str (S [115, 104, 101])]) = Ha := hHa
          rw [hHa']
          have hcb' : ∀ c, Ha c = none → c ≠ bx := fun c hc z => ba.hne (z ▸ hc)
          have hcl : ∀ c, Ha c = none → hl ≠ c := fun c hc z => by rw [z, hc] at hha; cases hha
          refine lc_over (runs_l (xs := (keysOf false).map encV)) (fun c k H4 => Ha c = none ∧ Cs false i Ha c k H4) (fun c k H4 h => ?_) (fun c hc => ⟨hc, cs0 false i Ha c ba hc⟩) (fun c k x H4 hc hx h => ?_) (fun c H4 hc h => ?_)
          · obtain ⟨hc, G4, ws4, cs, g4, _⟩ := h
            exact SqL.of (g4.keep hl _ (by simp [hcl c hc, hhb]) (by rw [upd_ne (hcl c hc)]; exact hha))
          · obtain ⟨_, hcs⟩ := h
            have hcb := hcb' c hc
            have hcs' := hcs
            obtain ⟨G4, ws4, cs, g4, b4, hc4, rc4, hs, hm⟩ := hcs
            rw [List.getElem?_map] at hx
            cases hky : (keysOf false)[k]? with
            | none => rw [hky] at hx; cases hx
            | some ky =>
              rw [hky] at hx
              cases hx
              refine ⟨rfl, _, rfl, G4, bx, 3, rfl, b4, by decide, fun H5 n5 g5 b5 hn5 => ?_⟩
              refine ⟨_, _, rfl, rfl, _, rfl, iteD (fun _ => ?_) (fun _ => ⟨hc, ?_⟩)⟩
              · refine ⟨_, rfl, _, rfl, _, rfl, _, _, rfl, rfl, _, rfl, _, rfl, G4, bx, na, d, i, rfl, congrArg (fun z => [V.ref bx, V.int z, V.bl i, V.ref na]) ed, b5, (g4.gg _ _ hna3), fun G60 H6 l ws' m' g60 b60 hl0 gl hl6 rl gm => ?_⟩
                obtain ⟨G6, v, ev, g6, b6, rv⟩ := told _ _ _ _ _ _ _ g60 b60 b5 hl0 gl hl6 rl
                rw [← ev]
                refine ⟨by show 2 ≤ sizeLine; exact szOf (by decide), fun t ht => ?_⟩
                obtain ⟨z1, z2, z3⟩ := csAdd false i Ha c k ky G4 H4 H5 G6 H6 ws4 cs v m' t hky ba hc hcb g4 hc4 rc4 hs hm g5 g6 b6 rv gm ht
                exact ⟨ws4, z1, z2, hc, z3⟩
              · refine ⟨G4, ws4, cs, g4.trans (g5.mono (fun x hx => List.mem_cons_of_mem _ hx)), b5, g5.keep c _ (by simp [hcb]) hc4, rc4, hs.trans ?_, hm⟩
                rw [List.take_add_one]
                exact List.sublist_append_left _ _
          · obtain ⟨_, hcs⟩ := h
            rw [List.length_map] at hcs
            exact hQ c H4 (csEnd false i Ha c H4 ga ba hc (hcb' c hc) hcs)
        · obtain ⟨G4, ws4, cs, g4, b4, hc4, rc4, hsub, hgm⟩ := hp
          refine app G4 H4 (w3.trans (g4.mono sub)) (g4.keep f _ nf hf3) (rws3.same g4.gg) _ _ _ _ _ rfl fun Q' q' => ?_
          refine ⟨_, rfl, _, rfl, _, rfl, _, _, rfl, rfl, _, rfl, _, rfl, G4, bx, na, d, i, rfl, congrArg (fun z => [V.ref bx, V.int z, V.bl i, V.ref na]) ed, b4, (g4.gg _ _ hna3), fun G50 H5 l ws' m' g50 b50 hl0 gl hl6 rl gm => ?_⟩
          obtain ⟨G5, v, ev, g5, b5, rv⟩ := told _ _ _ _ _ _ _ g50 b50 b4 hl0 gl hl6 rl
          rw [← ev]
          refine ⟨by show 4 ≤ sizeLine; exact szOf (by decide), fun t ht => ?_⟩
          have gt : Gw [] G5 H5 _ _ := Gw.alloc (o := HO.tup (headV false [119] 0 ++ [V.ref c, v])) g5.gh ht
          refine q' _ _ _ (.cho false [119] 0 cs m') (g5.trans gt.nil) (b5.up gt (by simp)) ?_ ?_
          · exact enc_cho (gt.gg _ _ (g5.gg _ _ hc4)) ((rc4.same g5.gg).same gt.gg) (rv.same gt.gg) upd_same
          · exact .inr ⟨d, rfl, _, _, _, _, _, rfl, fun z => (by cases z), fun _ => ⟨rfl, rfl⟩, by omega, hsub, hgm, gm⟩
      · refine ⟨_, rfl, _, _, rfl, rfl, _, rfl, iteD (fun _ => ?_) (fun z => absurd (by omega) z)⟩
        refine ⟨_, rfl, _, _, rfl, rfl, _, rfl, iteD (fun _ => ?_) (fun _ => low _ rfl)⟩
        -- a plural
        refine ⟨by show 0 ≤ sizeLine; exact Nat.zero_le _, fun c hc => ?_⟩
        have hcb : c ≠ bx := fun z => b3.hne (z ▸ hc)
        have gcc : Gw [] G2 H3 G2 _ := Gw.allocM (o := HO.lst []) b3.sm hc
        refine ⟨by show 6 ≤ sizeLine; exact szOf (by decide), fun hl hhl => ?_⟩
        have hhl3 : H3 hl = none := gcc.new hhl
        have hlc : hl ≠ c := fun z => by rw [z, upd_same] at hhl; cases hhl
        have hlb : hl ≠ bx := fun z => b3.hne (z ▸ hhl3)
        -- the list of keys first, then the cases
        have ga : Gw [] G2 H3 G2 (upd H3 hl (.lst ((keysOf true).map encV))) := Gw.allocM b3.sm hhl3
        have ba := b3.up ga (by simp)
        have hcA : (upd H3 hl (.lst ((keysOf true).map encV))) c = none := by rw [upd_ne (Ne.symm hlc)]; exact hc
        have hsw : upd (upd H3 c (.lst [])) hl (.lst [V.int 0, V.int 1, V.int 3, V.str (S [111, 110, 101]), V.str (S [102, 101, 119]), V.str (S [109, 97, 110, 121])]) = upd (upd H3 hl (.lst ((keysOf true).map encV))) c (.lst []) := by
          funext y
          unfold upd
          by_cases y1 : y = hl
          · rw [if_pos y1, if_neg (by rw [y1]; exact hlc), if_pos y1]; rfl
          · rw [if_neg y1, if_neg y1]
        rw [hsw]
        have hha : (upd H3 hl (.lst ((keysOf true).map encV))) hl = some (.lst ((keysOf true).map encV)) := upd_same
        generalize upd H3 hl (.lst ((keysOf true).map encV)) = Ha at ga ba hcA hha ⊢
        have cz := cs0 true true Ha c ba hcA
        refine ⟨hl, rfl, ⟨(keysOf true).map encV, SqL.of (by rw [upd_ne hlc]; exact hha)⟩, for_over (runs_l (xs := (keysOf true).map encV)) (fun k σ H4 => (∃ w8, σ = [some (.ref bx), some (.int ((d + 1 : Nat) : Int)), some (.bl i), some (.ref na), some (.ref f), some xv, some (.int (kd : Nat)), some (.ref c), w8, v9, none]) ∧ Cs true true Ha c k H4)
          (fun k σ H4 h => ?_) ⟨⟨_, rfl⟩, cz⟩ (fun k x σ H4 hx h => ?_) (fun σ H4 h => ?_)⟩
        · obtain ⟨_, G4, ws4, cs, g4, _⟩ := h
          exact SqL.of (g4.keep hl _ (by simp [hlc, hlb]) (by rw [upd_ne hlc]; exact hha))
        · obtain ⟨⟨w8, rfl⟩, hcs⟩ := h
          obtain ⟨G4, ws4, cs, g4, b4, hc4, rc4, hs, hm⟩ := hcs
          rw [List.getElem?_map] at hx
          cases hky : (keysOf true)[k]? with
          | none => rw [hky] at hx; cases hx
          | some ky =>
            rw [hky] at hx
            cases hx
            refine ⟨_, rfl, G4, bx, 4, rfl, b4, by decide, fun H5 n5 g5 b5 hn5 => ?_⟩
            refine ⟨rfl, _, rfl, iteI (fun _ => ?_) (fun _ => ⟨⟨_, rfl⟩, ?_⟩)⟩
            · have hc5 := g5.keep c _ (by simp [hcb]) hc4
              refine ⟨_, rfl, .inl ⟨rfl, _, SqL.of hc5⟩, _, rfl, _, rfl, _, rfl, _, _, rfl, rfl, _, rfl, G4, bx, na, d, true, rfl, congrArg (fun z => [V.ref bx, V.int z, V.bl true, V.ref na]) ed, b5, (g4.gg _ _ hna3), fun G60 H6 l ws' m' g60 b60 hl0 gl hl6 rl gm => ?_⟩
              obtain ⟨G6, v, ev, g6, b6, rv⟩ := told _ _ _ _ _ _ _ g60 b60 b5 hl0 gl hl6 rl
              rw [← ev]
              refine ⟨by show 2 ≤ sizeLine; exact szOf (by decide), fun t ht => ?_⟩
              obtain ⟨z1, z2, z3⟩ := csAdd true true Ha c k ky G4 H4 H5 G6 H6 ws4 cs v m' t hky ba hcA hcb g4 hc4 rc4 hs hm g5 g6 b6 rv gm ht
              exact ⟨c, ws4, _, rfl, rfl, z1, z2, ⟨_, rfl⟩, z3⟩
            · refine ⟨G4, ws4, cs, g4.trans (g5.mono (fun x hx => List.mem_cons_of_mem _ hx)), b5, g5.keep c _ (by simp [hcb]) hc4, rc4, hs.trans ?_, hm⟩
              rw [List.take_add_one]
              exact List.sublist_append_left _ _
        · obtain ⟨⟨w8, rfl⟩, hcs⟩ := h
          rw [List.length_map] at hcs
          obtain ⟨G4, ws4, cs, g4, b4, hc4, rc4, hsub, hgm⟩ := csEnd true true Ha c H4 ga ba hcA hcb hcs
          have hna4 := g4.gg _ _ hna3
          -- the name
          refine ⟨_, rfl, _, rfl, G4, bx, 900, rfl, b4, by decide, fun H5 n5 g5 b5 hn5 => .inl ⟨_, rfl, _, rfl, na, _, rfl, SqL.of (g5.gh _ _ hna4), _, _, rfl, rfl, by show (0 : Int) < 2; decide, ?_⟩⟩
          have e2 : ((n5 : Int) % (([V.str (S [109]), V.str (S [110])] : List V).length : Int)) = ((n5 % 2 : Nat) : Int) := by
            show ((n5 : Int) % 2) = _
            omega
          have hnm : ∃ nm ∈ nums, [V.str (S [109]), V.str (S [110])][n5 % 2]? = some (V.str (S nm)) := by
            have : n5 % 2 = 0 ∨ n5 % 2 = 1 := by omega
            rcases this with z | z
            · rw [z]; exact ⟨[109], by simp [nums], rfl⟩
            · rw [z]; exact ⟨[110], by simp [nums], rfl⟩
          obtain ⟨nm, hnm1, hnm2⟩ := hnm
          refine ⟨na, _, _, .str (S nm), rfl, rfl, SqL.of (g5.gh _ _ hna4), (by rw [e2]; exact atI_nat hnm2), ?_⟩
          refine app G4 H5 (w3.trans ((g4.trans g5).mono sub)) (g5.keep f _ nf (g4.keep f _ nf hf3)) (rws3.same g4.gg) _ _ _ _ _ rfl fun Q' q' => ?_
          refine ⟨_, rfl, ?_⟩
          refine pick (vs := [.int 0, .int 0, .int 1, .int 2]) rfl b5 (fun R h => h) rfl (by decide) (by decide) fun H6 v g6 b6 hv => ?_
          obtain ⟨off, hoff, rfl⟩ : ∃ off : Nat, off ≤ 2 ∧ v = .int (off : Nat) := by
            simp at hv
            rcases hv with rfl | rfl | rfl
            · exact ⟨0, by omega, rfl⟩
            · exact ⟨1, by omega, rfl⟩
            · exact ⟨2, by omega, rfl⟩
          refine ⟨_, rfl, _, rfl, _, rfl, _, _, rfl, rfl, _, rfl, G4, bx, na, d, true, rfl, congrArg (fun z => [V.ref bx, V.int z, V.bl true, V.ref na]) ed, b6, hna4, fun G70 H7 l ws' m' g70 b70 hl0 gl hl6 rl gm => ?_⟩
          obtain ⟨G7, v, ev, g7, b7, rv⟩ := told _ _ _ _ _ _ _ g70 b70 b6 hl0 gl hl6 rl
          rw [← ev]
          refine ⟨by show 5 ≤ sizeLine; exact szOf (by decide), fun t ht => ?_⟩
          have gt : Gw [] G7 H7 _ _ := Gw.alloc (o := HO.tup (headV true nm off ++ [V.ref c, v])) g7.gh ht
          refine q' _ _ _ (.cho true nm off cs m') ((g6.trans g7).trans gt.nil) (b7.up gt (by simp)) ?_ ?_
          · exact enc_cho (gt.gg _ _ (g7.gg _ _ hc4)) ((rc4.same g7.gg).same gt.gg) (rv.same gt.gg) upd_same
          · exact .inr ⟨d, rfl, _, _, _, _, _, rfl, fun _ => hnm1, fun z => (by cases z), hoff, hsub, hgm, gm⟩
  · obtain ⟨G2, ws, m, v5, v6, v7, v8, v9, rfl, g2, b2, hf2, rws, hml, hmx⟩ := h
    rw [List.length_map, List.length_range, hto] at hml
    exact ⟨_, rfl, q G2 H2 f ws m (Gw.drop b0.sm hf g2) b2 hf (g2.none upd_ne_none hfG) hf2 rws (gM_of (by omega) hmx)⟩
theorem lgen (T : Tx K mg) : ∀ D, C8.Cal P w K mg base (D + 1) "_law_message" (spGen D) []
  | 0 => by
    refine cal_of (k := 0) T.d_law_message T.g_law_message (fun _ _ _ _ _ _ us hl => match us, hl with | [_, _, _, _], _ => rfl) sc_law_message (fun vs H Q E h => ?_) (fun cdv A outer s H vs Q E hr h => ?_)
    · obtain ⟨G, bx, na, d, i, hD, rfl, _⟩ := h; rfl
    · obtain ⟨G, bx, na, d, i, hD, rfl, _⟩ := h
      exact absurd hD (by omega)
  | D + 1 => ok_law_message T (by omega) (lgen T D)
end
end Mw

set_option Elab.async false
set_option linter.all false
set_option maxRecDepth 100000
set_option maxHeartbeats 4000000
/-! MwD3: the law's messages with escaped signs, and its deeds. -/
namespace Mw
open PySem PySem.Spec L2
open SX (S S_cat S_len S_inj)
theorem RpL.take {G : Hp} : ∀ {vs : List V} {ds : List PyData} (n : Nat), RpL G vs ds → RpL G (vs.take n) (ds.take n)
  | _, _, 0, _ => .nil
  | _, _, _ + 1, .nil => .nil
  | _, _, n + 1, .cons h r => .cons h (RpL.take n r)
theorem RpL.drop {G : Hp} : ∀ {vs : List V} {ds : List PyData} (n : Nat), RpL G vs ds → RpL G (vs.drop n) (ds.drop n)
  | _, _, 0, r => r
  | _, _, _ + 1, .nil => .nil
  | _, _, n + 1, .cons _ r => RpL.drop n r
theorem encM_map : ∀ m : List Nd, encM m = m.map encN
  | [] => by rw [encM]; rfl
  | x :: r => by rw [encM, encM_map r]; rfl
def exts : List (List Nat) := [[105, 116, 39, 115], [123, 120, 125], [35], [10, 32, 97], [], [39, 39], [97, 44, 32, 98]]
/-- a message with k texts put in -/
def sM : Nat → List Nd → Prop
  | 0, m => gM 2 false m
  | k + 1, m => ∃ m' i s, sM k m' ∧ s ∈ exts ∧ m = m'.take i ++ [Nd.txt s] ++ m'.drop i
theorem sM_len : ∀ (k : Nat) (m : List Nd), sM k m → m.length ≤ 2 + k
  | 0, m, h => by rw [sM, gM] at h; exact h.1
  | k + 1, m, h => by
    obtain ⟨m', i, s, h, _, rfl⟩ := h
    have := sM_len k m' h
    rw [List.length_append, List.length_append, List.length_take, List.length_drop, List.length_singleton]
    omega
theorem Gw.own {M : List Addr} {G H G1 H1 : Hp} {p : Addr} (n : H p = Option.none) (a : Gw (p :: M) G H G1 H1) : Gw M G H G1 H1 :=
  ⟨a.gg, a.gh, a.sep, fun x o hx h => a.keep x o (by simp [ne_of_none h n, hx]) h, a.there⟩
section
variable {P : Program} {w : World} {K : PySem.W.Frag} {mg : Str → Option Value} {base : Heap}
def spSome : Sp := fun vs H Q _ => ∃ G bx, vs = [.ref bx] ∧ Box G H bx ∧
  ∀ G' H' v k m, Gw [bx] G H G' H' → Box G' H' bx → Rp G' v (.list (encM m)) → k ≤ 2 → sM k m → Q v H'
theorem ok_law_some (T : Tx K mg) : C8.Cal P w K mg base 5 "_law_some" spSome [] := by
  refine cal_of T.d_law_some T.g_law_some (fun _ _ _ _ _ _ us hl => match us, hl with | [_], _ => rfl) sc_law_some (fun vs H Q E h => ?_) (fun cdv A outer s H vs Q E hr h => ?_)
  · obtain ⟨G, bx, rfl, _⟩ := h; rfl
  obtain ⟨G, bx, rfl, b0, q⟩ := h
  have c_law_draw : C8.Cal P w K mg base 1 "_law_draw" spDraw [] := ok_law_draw T
  have c_law_message : C8.Cal P w K mg base 4 "_law_message" (spGen 3) [] := lgen T 3
  refine ⟨_, (pss_cons (ps_set (i := 1) sc_law_some.nd rfl (Or.inl rfl) (C8.pe_c c_law_message hr (by omega) rfl (pa_cons (pv 0) (pa_cons pe_int (pa_cons pe_bl (pa_cons (pe_lst (pa_cons (pe_s [109]) (pa_cons (pe_s [110]) pa_nil))) pa_nil))))))
  (pss_cons (ps_for PassesOwn.never rfl (pi_range1 (by rfl) T.f_range (pa_cons (C8.pe_c c_law_draw hr (by omega) rfl (pa_cons (pv 0) (pa_cons pe_int pa_nil))) pa_nil)) (pg_name (i := 2) sc_law_some.nd rfl (Or.inl rfl))
    (pss_one (ps_expr (pe_bm PySem.F.plainAttrs_list PySem.F.slot_list_insert PySem.F.type_list_insert mt_insert (pv 1) (pa_cons (C8.pe_c c_law_draw hr (by omega) rfl (pa_cons (pv 0) (pa_cons (pe_op op_add (pe_callB call_lenL (by rfl) T.f_len (by decide +kernel) (pa_cons (pv 1) pa_nil)) pe_int) pa_nil))) (pa_cons (pe_tup (pa_cons (pe_s [116, 101, 120, 116]) (pa_cons (pe_ix ix_list (pe_lst (pa_cons (pe_s [105, 116, 39, 115]) (pa_cons (pe_s [123, 120, 125]) (pa_cons (pe_s [35]) (pa_cons (pe_s [10, 32, 97]) (pa_cons (pe_s []) (pa_cons (pe_s [39, 39]) (pa_cons (pe_s [97, 44, 32, 98]) pa_nil)))))))) (C8.pe_c c_law_draw hr (by omega) rfl (pa_cons (pv 0) (pa_cons pe_int pa_nil))) (fun _ _ => rfl)) pa_nil))) pa_nil))))))
  (pss_one (ps_ret (pv 1))))), ?_⟩
  refine ⟨_, rfl, by show 2 ≤ sizeLine; exact szOf (by decide), fun na hna => ?_⟩
  have ga : Gw [] G H _ _ := Gw.alloc (o := HO.lst [.str (S [109]), .str (S [110])]) b0.sm hna
  refine ⟨_, bx, na, 2, false, rfl, rfl, b0.up ga (by simp), upd_same, fun G1 H1 f ws0 m0 g1 b1 hfn hfG hf1 rw1 gm1 => ?_⟩
  have w1 : Gw [bx] G H G1 H1 := ga.nil.trans g1
  have hf0 : H f = none := ga.new hfn
  have hfb : bx ≠ f := fun z => b0.hne (z ▸ hf0)
  refine ⟨_, rfl, G1, bx, 3, rfl, b1, by decide, fun H2 n g2 b2 hn => ?_⟩
  have hfk : f ∉ [bx] := by simp [Ne.symm hfb]
  refine ⟨n, rfl, by omega, by omega, for_over (runs_r (lo := 0) (n := n)) (fun j σ H' => ∃ G' ws m v2, σ = [some (.ref bx), some (.ref f), v2] ∧ Gw [f, bx] G1 H2 G' H' ∧ Box G' H' bx ∧ H' f = some (.lst ws) ∧ RpL G' ws (encM m) ∧ sM j m) (fun _ _ _ _ => trivial)
    ⟨G1, ws0, m0, none, rfl, Gw.refl b2.sm, b2, g2.keep f _ hfk hf1, rw1, gm1⟩ (fun j xv σ H3 hx h => ?_) (fun σ H3 h => ?_)⟩
  · obtain ⟨G3, ws, m, v2, rfl, g3, b3, hf3, rw3, sm3⟩ := h
    have hml := sM_len j m sm3
    have hwl : ws.length = m.length := by rw [rw3.length, encM_len]
    have hj : j < n := by
      have := (List.getElem?_eq_some_iff.mp hx).1
      rw [List.length_map, List.length_range] at this
      exact this
    refine ⟨_, rfl, .inl ⟨rfl, _, SqL.of hf3⟩, _, rfl, _, rfl, f, ws, rfl, SqL.of hf3, _, _, rfl, rfl, G3, bx, ws.length + 1, rfl, b3, by omega, fun H4 at_ g4 b4 hat => ?_⟩
    have hf4 := g4.keep f _ hfk hf3
    refine pick (vs := [.str (S [105, 116, 39, 115]), .str (S [123, 120, 125]), .str (S [35]), .str (S [10, 32, 97]), .str (S []), .str (S [39, 39]), .str (S [97, 44, 32, 98])]) rfl b4 (fun R h => h) rfl (by decide) (by decide) fun H5 v g5 b5 hv => ?_
    obtain ⟨s, hs, rfl⟩ : ∃ s ∈ exts, v = .str (S s) := by
      simp at hv
      rcases hv with rfl | rfl | rfl | rfl | rfl | rfl | rfl
      · exact ⟨_, .head _, rfl⟩
      · exact ⟨_, .tail _ (.head _), rfl⟩
      · exact ⟨_, .tail _ (.tail _ (.head _)), rfl⟩
      · exact ⟨_, .tail _ (.tail _ (.tail _ (.head _))), rfl⟩
      · exact ⟨_, .tail _ (.tail _ (.tail _ (.tail _ (.head _)))), rfl⟩
      · exact ⟨_, .tail _ (.tail _ (.tail _ (.tail _ (.tail _ (.head _))))), rfl⟩
      · exact ⟨_, .tail _ (.tail _ (.tail _ (.tail _ (.tail _ (.tail _ (.head _)))))), rfl⟩
    have hf5 := g5.keep f _ hfk hf4
    refine ⟨by show 2 ≤ sizeLine; exact szOf (by decide), fun t ht => ?_⟩
    have gt : Gw [] G3 H5 _ _ := Gw.alloc (o := HO.tup [V.str (S tText), V.str (S s)]) g5.gh ht
    have sub : ∀ x ∈ [bx], x ∈ [f, bx] := fun x hx => List.mem_cons_of_mem _ hx
    have w5 := ((g3.trans (g4.mono sub)).trans (g5.mono sub)).trans gt.nil
    have hf6 := gt.same _ _ hf5
    have hfG5 := w5.none (some_ne (g2.keep f _ hfk hf1)) hfG
    have gw : Gw [f, bx] _ _ _ _ := Gw.write (M := [f, bx]) (o := HO.lst (ws.take at_ ++ [V.ref t] ++ ws.drop at_)) gt.gh hfG5 (List.mem_cons_self ..)
    refine ⟨f, ws, (at_ : Nat), .ref t, rfl, rfl, hf6, by rw [hwl, sizeLine_eq]; omega, by omega, by omega, _, _, m.take at_ ++ [Nd.txt s] ++ m.drop at_, _, rfl, w5.trans gw, ?_, upd_same, ?_, m, at_, s, sm3, hs, rfl⟩
    · obtain ⟨ra, xs, nn, bb⟩ := b5.up gt (by simp)
      exact ⟨ra, xs, nn, gw.gh, bb.gb, bb.gr, by rw [upd_ne hfb]; exact bb.hb⟩
    · have rw5 := rw3.same gt.gg
      rw [encM_map, List.map_append, List.map_append, List.map_take, List.map_drop, ← encM_map]
      refine ((rw5.take at_).append (.cons ?_ .nil)).append (rw5.drop at_)
      exact .tup upd_same (.cons (.str _) (.cons (.str _) .nil))
  · obtain ⟨G3, ws, m, v2, rfl, g3, b3, hf3, rw3, sm3⟩ := h
    rw [List.length_map, List.length_range] at sm3
    have hfn3 : G3 f = none := g3.none (some_ne (g2.keep f _ hfk hf1)) hfG
    have g13 : Gw [f, bx] G1 H1 G3 H3 := (g2.mono (fun x hx => List.mem_cons_of_mem _ hx)).trans g3
    have fin : Gw [bx] G H (upd G3 f (.lst ws)) H3 := (((w1.mono (fun x hx => List.mem_cons_of_mem _ hx)).trans g13).own hf0).pub hf3 hf0 hfn3
    exact ⟨_, rfl, q _ _ _ n m fin (b3.tell hf3 hfn3 hfb) (.lst upd_same (rw3.same (same_upd hfn3))) (by omega) sm3⟩
def keysD : List (List Nat) := [[97], [107, 101, 121], [122, 122], [97, 98, 99, 100, 101, 102, 103, 104]]
def gD : Deed → Prop
  | .put k m => k ∈ keysD ∧ ∃ c, c ≤ 2 ∧ sM c m
  | .drop k => k ∈ keysD
  | .undo => True
def spSomeD : Sp := fun vs H Q _ => ∃ G bx, vs = [.ref bx] ∧ Box G H bx ∧
  ∀ G' H' v d, Gw [bx] G H G' H' → Box G' H' bx → Rp G' v (encD d) → gD d → Q v H'
theorem ok_law_some_deed (T : Tx K mg) : C8.Cal P w K mg base 6 "_law_some_deed" spSomeD [] := by
  refine cal_of T.d_law_some_deed T.g_law_some_deed (fun _ _ _ _ _ _ us hl => match us, hl with | [_], _ => rfl) sc_law_some_deed (fun vs H Q E h => ?_) (fun cdv A outer s H vs Q E hr h => ?_)
  · obtain ⟨G, bx, rfl, _⟩ := h; rfl
  obtain ⟨G, bx, rfl, b0, q⟩ := h
  have c_law_draw : C8.Cal P w K mg base 1 "_law_draw" spDraw [] := ok_law_draw T
  have c_law_some : C8.Cal P w K mg base 5 "_law_some" spSome [] := ok_law_some T
  refine ⟨_, (pss_cons (ps_set (i := 1) sc_law_some_deed.nd rfl (Or.inl rfl) (C8.pe_c c_law_draw hr (by omega) rfl (pa_cons (pv 0) (pa_cons pe_int pa_nil))))
  (pss_cons (ps_set (i := 2) sc_law_some_deed.nd rfl (Or.inl rfl) (pe_ix ix_list (pe_lst (pa_cons (pe_s [97]) (pa_cons (pe_s [107, 101, 121]) (pa_cons (pe_s [122, 122]) (pa_cons (pe_s [97, 98, 99, 100, 101, 102, 103, 104]) pa_nil))))) (C8.pe_c c_law_draw hr (by omega) rfl (pa_cons (pv 0) (pa_cons pe_int pa_nil))) (fun _ _ => rfl)))
  (pss_cons (ps_if (pt_cmpR op_lt (pv 1) pe_int (nomark _))
    (pss_one (ps_ret (pe_tup (pa_cons (pe_s [112, 117, 116]) (pa_cons (pv 2) (pa_cons (C8.pe_c c_law_some hr (by omega) rfl (pa_cons (pv 0) pa_nil)) pa_nil))))))
    pss_nil)
  (pss_one (ps_ret (pe_ix ix_list (pe_lst (pa_cons (pe_tup (pa_cons (pe_s [100, 114, 111, 112]) (pa_cons (pv 2) pa_nil))) (pa_cons (pe_tup (pa_cons (pe_s [117, 110, 100, 111]) pa_nil)) pa_nil))) (pe_op op_sub (pv 1) pe_int) (fun _ _ => rfl))))))), ?_⟩
  refine ⟨_, rfl, G, bx, 4, rfl, b0, by decide, fun H1 n g1 b1 hn => ?_⟩
  dsimp only [tSeq, tAsg]
  refine pick (vs := [.str (S [97]), .str (S [107, 101, 121]), .str (S [122, 122]), .str (S [97, 98, 99, 100, 101, 102, 103, 104])]) rfl b1 (fun R h => h) rfl (by decide) (by decide) fun H2 v g2 b2 hv => ?_
  obtain ⟨s, hs, rfl⟩ : ∃ s ∈ keysD, v = .str (S s) := by
    simp at hv
    rcases hv with rfl | rfl | rfl | rfl
    · exact ⟨_, .head _, rfl⟩
    · exact ⟨_, .tail _ (.head _), rfl⟩
    · exact ⟨_, .tail _ (.tail _ (.head _)), rfl⟩
    · exact ⟨_, .tail _ (.tail _ (.tail _ (.head _))), rfl⟩
  have g12 := g1.trans g2
  refine ⟨_, rfl, _, _, rfl, rfl, _, rfl, iteD (fun hlt => ?_) (fun hge => ?_)⟩
  · refine ⟨_, rfl, _, rfl, G, bx, rfl, b2, fun G3 H3 v k m g3 b3 rv hk hm => ⟨by show 3 ≤ sizeLine; exact szOf (by decide), fun t ht => ?_⟩⟩
    have gt : Gw [] G3 H3 _ _ := Gw.alloc (o := HO.tup [V.str (S tPut), V.str (S s), v]) g3.gh ht
    exact q _ _ _ (.put s m) ((g12.trans g3).trans gt.nil) (b3.up gt (by simp)) (.tup upd_same (.cons (.str _) (.cons (.str _) (.cons (rv.same gt.gg) .nil)))) ⟨hs, k, hk, hm⟩
  · refine ⟨_, rfl, by show 2 ≤ sizeLine; exact szOf (by decide), fun t ht => ?_⟩
    have gt : Gw [] G H2 _ _ := Gw.alloc (o := HO.tup [V.str (S tDrp), V.str (S s)]) b2.sm ht
    refine ⟨by show 1 ≤ sizeLine; exact szOf (by decide), fun u hu => ?_⟩
    have gu : Gw [] _ _ _ _ := Gw.alloc (o := HO.tup [V.str (S tUnd)]) gt.gh hu
    refine ⟨by show 2 ≤ sizeLine; exact szOf (by decide), fun l hl => ?_⟩
    have gl : Gw [] _ _ _ _ := Gw.alloc (o := HO.lst [V.ref t, V.ref u]) gu.gh hl
    have gg := (gt.trans gu).trans gl
    have w := g12.trans gg.nil
    have bl := b2.up gg (by simp)
    have hn' : n = 2 ∨ n = 3 := by omega
    rcases hn' with rfl | rfl
    · refine ⟨_, rfl, _, _, rfl, rfl, l, _, _, .ref t, rfl, rfl, SqL.of upd_same, atI_nat (xs := [V.ref t, V.ref u]) (j := 0) rfl, ?_⟩
      exact q _ _ _ (.drop s) w bl (.tup (gl.gg _ _ (gu.gg _ _ upd_same)) (.cons (.str _) (.cons (.str _) .nil))) hs
    · refine ⟨_, rfl, _, _, rfl, rfl, l, _, _, .ref u, rfl, rfl, SqL.of upd_same, atI_nat (xs := [V.ref t, V.ref u]) (j := 1) rfl, ?_⟩
      exact q _ _ _ .undo w bl (.tup (gl.gg _ _ upd_same) (.cons (.str _) .nil)) trivial
end
end Mw

set_option Elab.async false
set_option linter.all false
set_option maxRecDepth 100000
set_option maxHeartbeats 4000000
/-! MwD4: the law's deeds in plain form. -/
namespace Mw
open PySem PySem.Spec L2
open SX (S S_cat S_len S_inj)
def plD : Deed → Deed
  | .put k m => .put k (plainM m)
  | .drop k => .drop k
  | .undo => .undo
def smD (N : Nat) : Deed → Prop
  | .put _ m => dpM m < N ∧ szM m ≤ 15000000
  | _ => True
section
variable {P : Program} {w : World} {K : PySem.W.Frag} {mg : Str → Option Value} {base : Heap}
def spPly (N : Nat) : Sp := fun vs H Q _ => ∃ G a xs, ∃ ds : List Deed, vs = [.ref a] ∧ Same G H ∧ G a = some (.lst xs) ∧ RpL G xs (ds.map encD) ∧ (∀ d ∈ ds, smD N d) ∧ ds.length ≤ 1000 ∧
  ∀ G' H' v, Gw [] G H G' H' → Rp G' v (.list ((ds.map plD).map encD)) → Q v H'
theorem ok_law_plainly (T : Tx K mg) (N : Nat) : C8.Cal P w K mg base (N + 2) "_law_plainly" (spPly N) [] := by
  refine cal_of T.d_law_plainly T.g_law_plainly (fun _ _ _ _ _ _ us hl => match us, hl with | [_], _ => rfl) sc_law_plainly (fun vs H Q E h => ?_) (fun cdv A outer s H vs Q E hr h => ?_)
  · obtain ⟨G, a, xs, ds, rfl, _⟩ := h; rfl
  obtain ⟨G, a, xs, ds, rfl, s0, ha, rx, hsm, hdl, q⟩ := h
  have c_law_plain : C8.Cal P w K mg base (N + 1) "_law_plain" (spPlain K N) [] := lplains T N
  have hxl : xs.length = ds.length := by rw [rx.length, List.length_map]
  refine ⟨_, (pss_cons (ps_set (i := 1) sc_law_plainly.nd rfl (Or.inl rfl) (pe_lst pa_nil))
  (pss_cons (ps_for PassesOwn.never rfl (pi_list (pv 0)) (pg_name (i := 2) sc_law_plainly.nd rfl (Or.inl rfl))
    (pss_cons (ps_if (pt_cmpR op_eq (pe_ix ix_tup (pv 2) pe_int (fun _ _ => rfl)) (pe_s [112, 117, 116]) (nomark _))
      (pss_one (ps_set (i := 2) sc_law_plainly.nd rfl (Or.inl rfl) (pe_tup (pa_cons (pe_s [112, 117, 116]) (pa_cons (pe_ix ix_tup (pv 2) pe_int (fun _ _ => rfl)) (pa_cons (C8.pe_c c_law_plain hr (by omega) rfl (pa_cons (pe_ix ix_tup (pv 2) pe_int (fun _ _ => rfl)) pa_nil)) pa_nil))))))
      pss_nil)
    (pss_one (ps_expr (pe_bm PySem.F.plainAttrs_list PySem.F.slot_list_append PySem.F.type_list_append mt_append (pv 1) (pa_cons (pv 2) pa_nil))))))
  (pss_one (ps_ret (pv 1))))), ?_⟩
  refine ⟨by show 0 ≤ sizeLine; exact Nat.zero_le _, fun c hc => ?_⟩
  have gc0 : Gw [] G H G _ := Gw.allocM (o := HO.lst []) s0 hc
  have hcG := none_of s0 hc
  have hac : a ≠ c := fun z => by rw [z, hcG] at ha; cases ha
  let Pv : Nat → L2.St → Hp → Prop := fun k σ H' => ∃ G' ws v2, σ = [some (.ref a), some (.ref c), v2] ∧ Gw [c] G (upd H c (.lst [])) G' H' ∧ H' c = some (.lst ws) ∧ RpL G' ws (((ds.take k).map plD).map encD)
  refine ⟨_, rfl, a, rfl, ⟨xs, SqL.of (gc0.gh _ _ ha)⟩, for_over (runs_l (xs := xs)) Pv (fun k σ H' h => ?_) ⟨G, [], none, rfl, Gw.refl gc0.gh, upd_same, .nil⟩ (fun k x σ H' hx h => ?_) (fun σ H' h => ?_)⟩
  · obtain ⟨G', ws, v2, rfl, g, _⟩ := h
    exact SqL.of (g.sh _ _ ha)
  · obtain ⟨G', ws, v2, rfl, g, hcl, rws⟩ := h
    have hk : k < ds.length := by
      have := (List.getElem?_eq_some_iff.mp hx).1
      omega
    obtain ⟨e, he, rv⟩ := rx.get hx
    rw [List.getElem?_map, List.getElem?_eq_getElem hk] at he
    have hmem : ds[k] ∈ ds := List.getElem_mem hk
    have htk : ds.take (k + 1) = ds.take k ++ [ds[k]] := by rw [List.take_add_one, List.getElem?_eq_getElem hk]; rfl
    generalize ds[k] = d at he hmem htk
    cases he
    have hwl : ws.length ≤ 1000 := by
      rw [rws.length, List.length_map, List.length_map, List.length_take]; omega
    -- a deed goes to the end
    have push : ∀ (v : V) (G2 H2 : Hp), Gw [] G' H' G2 H2 → Rp G2 v (encD (plD d)) → ∀ D' : Ends, D'.nx = Pv (k + 1) → tDrop (tBM K "list" rAppend (tVar 1) (tCons (tVar 2) tNil)) D' [some (.ref a), some (.ref c), some v] H2 := fun v G2 H2 g2 rv2 D' hD' => by
      have hc2 := g2.same _ _ hcl
      have w2 := g.trans g2.nil
      refine ⟨_, rfl, .inl ⟨rfl, _, SqL.of hc2⟩, _, rfl, c, ws, v, rfl, rfl, hc2, by rw [sizeLine_eq]; omega, ?_⟩
      rw [hD']
      refine ⟨G2, ws ++ [v], _, rfl, w2.trans (Gw.write (M := [c]) g2.gh (w2.none upd_ne_none hcG) (List.mem_singleton.mpr rfl)), upd_same, ?_⟩
      rw [htk, List.map_append, List.map_append]
      exact (rws.same g2.gg).snoc rv2
    obtain ⟨b, rfl, hd⟩ := deed_inv (rv.same g.gg)
    cases d with
    | undo =>
      have hb : G' b = some (.tup [.str (S tUnd)]) := hd
      refine ⟨_, rfl, b, _, _, _, rfl, rfl, SqT.of (g.gh _ _ hb), rfl, rfl, _, rfl, iteS (fun e => absurd e (by decide)) (fun _ => ?_)⟩
      exact push (.ref b) G' H' (Gw.refl g.gh) (.tup hb (.cons (.str _) .nil)) _ rfl
    | drop n =>
      have hb : G' b = some (.tup [.str (S tDrp), .str (S n)]) := hd
      refine ⟨_, rfl, b, _, _, _, rfl, rfl, SqT.of (g.gh _ _ hb), rfl, rfl, _, rfl, iteS (fun e => absurd e (by decide)) (fun _ => ?_)⟩
      exact push (.ref b) G' H' (Gw.refl g.gh) (.tup hb (.cons (.str _) (.cons (.str _) .nil))) _ rfl
    | put n m =>
      obtain ⟨mv, hb, rm⟩ : ∃ mv, G' b = some (.tup [.str (S tPut), .str (S n), mv]) ∧ Rp G' mv (.list (encM m)) := hd
      obtain ⟨hm1, hm2⟩ : dpM m < N ∧ szM m ≤ 15000000 := hsm _ hmem
      have hbH := g.gh _ _ hb
      refine ⟨_, rfl, b, _, _, _, rfl, rfl, SqT.of hbH, rfl, rfl, _, rfl, iteS (fun _ => ?_) (fun e => absurd rfl e)⟩
      refine ⟨_, rfl, b, _, _, _, rfl, rfl, SqT.of hbH, rfl, _, rfl, b, _, _, _, rfl, rfl, SqT.of hbH, rfl, G', mv, m, rfl, g.gh, rm, hm1, hm2, fun G2 H2 v g2 rv2 => ?_⟩
      refine ⟨by show 3 ≤ sizeLine; exact szOf (by decide), fun t ht => ?_⟩
      have gt : Gw [] G2 H2 _ _ := Gw.alloc (o := HO.tup [V.str (S tPut), V.str (S n), v]) g2.gh ht
      exact push (.ref t) _ _ (g2.trans gt) (.tup upd_same (.cons (.str _) (.cons (.str _) (.cons (rv2.same gt.gg) .nil)))) _ rfl
  · obtain ⟨G', ws, v2, rfl, g, hcl, rws⟩ := h
    rw [hxl, List.take_length] at rws
    have wc : Gw [] G H (upd G' c (.lst ws)) H' := Gw.close s0 hc g hcl
    exact ⟨_, rfl, q _ _ _ wc (.lst upd_same (rws.same (same_upd (g.none upd_ne_none hcG))))⟩
end
end Mw

set_option Elab.async false
set_option linter.all false
set_option maxRecDepth 100000
set_option maxHeartbeats 400000
/-! MwD5: bodies by hand. -/
namespace Mw
open PySem PySem.Spec L2
open SX (S S_cat S_len S_inj)
def octL (b : List Nat) : PyData := .list ((b.map fun n : Nat => (n : Int)).map PyData.int)
def Lit (te : TE) (σ : L2.St) (b : List Nat) : Prop := ∀ (G1 H1 : Hp) (Q : VK), Same G1 H1 → (∀ p G2 H2, Gw [] G1 H1 G2 H2 → G2 p = some (.lst (iv b)) → Q (.ref p) H2) → te σ H1 Q
def LitS (ta : TA) (σ : L2.St) (bs : List (List Nat)) : Prop := ∀ (G1 H1 : Hp) (R : List V → Hp → Prop), Same G1 H1 → (∀ vs G2 H2, Gw [] G1 H1 G2 H2 → RpL G2 vs (bs.map octL) → R vs H2) → ta σ H1 R
theorem iv_len (b : List Nat) : (iv b).length = b.length := by rw [List.length_map]
theorem iv_app (a b : List Nat) : iv (a ++ b) = iv a ++ iv b := List.map_append ..
theorem rep_iv (k x : Nat) : (List.replicate k (iv [x])).flatten = iv (List.replicate k x) := by
  induction k with
  | zero => rfl
  | succ k ih => rw [List.replicate_succ, List.flatten_cons, ih, List.replicate_succ]; rfl
theorem Lit.lst {ta : TA} {σ : L2.St} {b : List Nat} (hb : b.length ≤ 1000) (h : ∀ H R, R (iv b) H → ta σ H R) : Lit (tLst ta) σ b := fun G1 H1 Q s q =>
  h _ _ ⟨by rw [iv_len]; exact szOf hb, fun p hp => q p _ _ (Gw.alloc s hp) upd_same⟩
theorem Lit.cat {t1 t2 : TE} {σ : L2.St} {b1 b2 : List Nat} (h1 : Lit t1 σ b1) (h2 : Lit t2 σ b2) (hz : b1.length + b2.length ≤ 1000) : Lit (tOp rCat t1 t2) σ (b1 ++ b2) := fun G1 H1 Q s q => by
  refine h1 _ _ _ s fun p1 G2 H2 g2 e1 => h2 _ _ _ g2.gh fun p2 G3 H3 g3 e2 => ⟨p1, p2, _, _, rfl, rfl, g3.gh _ _ (g3.gg _ _ e1), g3.gh _ _ e2, by rw [iv_len, iv_len]; exact szOf hz, fun p hp => ?_⟩
  rw [← iv_app]
  exact q p _ _ ((g2.trans g3).trans (Gw.alloc g3.gh hp)) upd_same
theorem Lit.rep {t1 : TE} {σ : L2.St} {x k : Nat} {i : Int} (h1 : Lit t1 σ [x]) (hk : k ≤ 1000) (hi : i = (k : Nat)) : Lit (tOp rRep t1 (tC (.int i))) σ (List.replicate k x) := fun G1 H1 Q s q => by
  subst hi
  refine h1 _ _ _ s fun p1 G2 H2 g2 e1 => ⟨p1, (k : Nat), _, rfl, rfl, g2.gh _ _ e1, by omega, by omega, by rw [iv_len, sizeLine_eq, Int.toNat_natCast]; show 1 * k ≤ _; omega, fun p hp => ?_⟩
  rw [Int.toNat_natCast, rep_iv]
  exact q p _ _ (g2.trans (Gw.alloc g2.gh hp)) upd_same
theorem LitS.nil {σ : L2.St} : LitS tNil σ [] := fun G1 H1 R s q => q [] _ _ (Gw.refl s) .nil
theorem LitS.cons {te : TE} {ta : TA} {σ : L2.St} {b : List Nat} {bs : List (List Nat)} (h1 : Lit te σ b) (h2 : LitS ta σ bs) : LitS (tCons te ta) σ (b :: bs) := fun G1 H1 R s q =>
  h1 _ _ _ s fun p1 G2 H2 g2 e1 => h2 _ _ _ g2.gh fun vs G3 H3 g3 r => q _ _ _ (g2.trans g3) (.cons (.lst (g3.gg _ _ e1) (by rw [iv_eq]; exact RpL.ints _)) r)
theorem LitS.in {ta : TA} {σ : L2.St} {bs : List (List Nat)} (h : LitS ta σ bs) {G1 H1 : Hp} {Q : VK} (s : Same G1 H1) (q : ∀ vs G2 H2, Gw [] G1 H1 G2 H2 → RpL G2 vs (bs.map octL) → vs.length ≤ sizeLine ∧ ∀ p, H2 p = none → Q (.ref p) (upd H2 p (.lst vs))) : tLst ta σ H1 Q :=
  h _ _ _ s q
def handT1 : List (List Nat) := [[], [123, 120, 32, 125], [123, 120, 125], [123, 110, 44, 32, 112, 108, 117, 114, 97, 108, 44, 111, 116, 104, 101, 114, 32, 123, 125, 125], [123, 110, 44, 32, 112, 108, 117, 114, 97, 108, 44, 32, 111, 116, 104, 101, 114, 32, 123, 125, 125], [39], [35], [123, 110, 44, 32, 112, 108, 117, 114, 97, 108, 44, 32, 111, 102, 102, 115, 101, 116, 58, 48, 32, 111, 116, 104, 101, 114, 32, 123, 125, 125], [123, 119, 44, 32, 115, 101, 108, 101, 99, 116, 44, 32, 111, 116, 104, 101, 114, 32, 123, 97, 125, 125]]
def handT2 : List (List Nat) := [[123, 110, 44, 32, 112, 108, 117, 114, 97, 108, 44, 32, 61, 48, 49, 32, 123, 125, 32, 111, 116, 104, 101, 114, 32, 123, 125, 125], [123, 110, 44, 32, 112, 108, 117, 114, 97, 108, 44, 32, 111, 110, 101, 32, 123, 125, 32, 111, 110, 101, 32, 123, 125, 32, 111, 116, 104, 101, 114, 32, 123, 125, 125], [123, 110, 44, 32, 112, 108, 117, 114, 97, 108, 44, 32, 111, 102, 102, 115, 101, 116, 58, 49, 48, 32, 111, 116, 104, 101, 114, 32, 123, 125, 125], [97, 123], [125], [123, 110, 44, 32, 112, 108, 117, 114, 97, 108, 44, 32, 61, 55, 32, 123, 35, 125, 32, 111, 116, 104, 101, 114, 32, 123, 39, 35, 39, 125, 125]]
def handT3 : List (List Nat) := [[123, 110, 44, 32, 112, 108, 117, 114, 97, 108, 44, 32, 115, 111, 109, 101, 32, 123, 125, 32, 111, 116, 104, 101, 114, 32, 123, 125, 125], [123, 108, 111, 110, 103, 101, 114, 110, 97, 109, 101, 125], [123, 119, 44, 32, 115, 101, 108, 101, 99, 116, 44, 32, 104, 101, 32, 123, 125, 32, 111, 116, 104, 101, 114, 32, 123, 125, 125, 125], [123, 119, 44, 32, 115, 101, 108, 101, 99, 116, 44, 32, 104, 101, 32, 123, 125, 32, 32, 111, 116, 104, 101, 114, 32, 123, 125, 125], [123, 110, 44, 32, 112, 108, 117, 114, 97, 108, 44, 32, 61, 49, 48, 48, 48, 32, 123, 125, 32, 111, 116, 104, 101, 114, 32, 123, 125, 125], [39, 39]]
def handR : List (List Nat) := [[], [1], [1, 0], [1, 1], [1, 2, 97], [1, 1, 65], [2], [2, 65], [2, 97, 97, 97, 97, 97, 97, 97, 97, 97], [2, 97, 98], [3, 3], [4], [0], [1, 1, 97, 9], [1, 9, 97, 97, 97, 97, 97, 97, 97, 97, 97]]
def handT : List (List Nat) := handT1 ++ handT2 ++ handT3
def handB : List (List Nat) := handT.map ([1, 1, 97] ++ ·) ++ handR
section
variable {P : Program} {w : World} {K : PySem.W.Frag} {mg : Str → Option Value} {base : Heap}
theorem lordsH {K : PySem.W.Frag} {mg : Str → Option Value} (T : Tx K mg) {H : Hp} {te : TE} {σ : L2.St} {Q : VK} {Pz : Hp → Hp → List Nat → Prop} (hz : ∀ G1 H1 l, Pz G1 H1 l → Same G1 H1 ∧ l.length ≤ 1000) (hσ : ∃ a0 a1 a2 a3 a4, σ = [a0, a1, a2, a3, a4])
    (hte : ∀ Q' : VK, (∀ G1 H1 l, Pz G1 H1 l → Q' (.str (S l)) H1) → te σ H Q') (q : ∀ D G1 H1 l, Pz G1 H1 l → ∀ H2, Gw [] G1 H1 G1 H2 → H2 D = some (.lst (iv l)) → Q (.ref D) H2) :
    tLc (fun σ H R => te σ H fun x H1 => ∃ z : Str, x = .str z ∧ R (Its z) H1) (gName 4) tYes (tCB (fun xs H Q => ∃ c : Nat, xs = [.str (S [c])] ∧ Q (.int c) H) (tCons (tVar 4) tNil)) [4] σ H Q := by
  obtain ⟨a0, a1, a2, a3, a4, rfl⟩ := hσ
  refine hte _ fun G1 H1 l hp => ⟨_, rfl, lc_over (runs_s (l := l)) (fun D i H' => H1 D = none ∧ H' = upd H1 D (.lst (iv (l.take i)))) (fun D i H' h => trivial) (fun D hD => ⟨hD, rfl⟩) (fun D i xv H' hD hx h => ?_) (fun D H' hD h => ?_)⟩
  · obtain ⟨_, rfl⟩ := h
    rw [List.getElem?_map] at hx
    cases hq : l[i]? with
    | none => rw [hq] at hx; cases hx
    | some c =>
      rw [hq] at hx
      cases hx
      have := (hz _ _ _ hp).2
      refine ⟨rfl, _, rfl, c, rfl, _, upd_same, ?_, hD, ?_⟩
      · rw [List.length_map, List.length_take, sizeLine_eq]; omega
      · rw [upd_upd, take_snoc hq]; simp
  · obtain ⟨_, rfl⟩ := h
    rw [List.length_map, List.take_length]
    exact q D _ _ _ hp _ (Gw.allocM (hz _ _ _ hp).1 hD) upd_same
def spHand : Sp := fun vs H Q _ => ∃ G bx, vs = [.ref bx] ∧ Box G H bx ∧
  ∀ G' H' a b, Gw [bx] G H G' H' → Box G' H' bx → H' a = some (.lst (iv (recB b))) → b ∈ handB → Q (.ref a) H'
theorem ok_law_by_hand (T : Tx K mg) : C8.Cal P w K mg base 2 "_law_by_hand" spHand [] := by
  refine cal_of T.d_law_by_hand T.g_law_by_hand (fun _ _ _ _ _ _ us hl => match us, hl with | [_], _ => rfl) sc_law_by_hand (fun vs H Q E h => ?_) (fun cdv A outer s H vs Q E hr h => ?_)
  · obtain ⟨G, bx, rfl, _⟩ := h; rfl
  obtain ⟨G, bx, rfl, b0, q⟩ := h
  have c_law_draw : C8.Cal P w K mg base 1 "_law_draw" spDraw [] := ok_law_draw T
  refine ⟨_, (pss_cons (ps_set (i := 1) sc_law_by_hand.nd rfl (Or.inl rfl) (pe_lst (pa_cons (pe_s []) (pa_cons (pe_s [123, 120, 32, 125]) (pa_cons (pe_s [123, 120, 125]) (pa_cons (pe_s [123, 110, 44, 32, 112, 108, 117, 114, 97, 108, 44, 111, 116, 104, 101, 114, 32, 123, 125, 125]) (pa_cons (pe_s [123, 110, 44, 32, 112, 108, 117, 114, 97, 108, 44, 32, 111, 116, 104, 101, 114, 32, 123, 125, 125]) (pa_cons (pe_s [39]) (pa_cons (pe_s [35]) (pa_cons (pe_s [123, 110, 44, 32, 112, 108, 117, 114, 97, 108, 44, 32, 111, 102, 102, 115, 101, 116, 58, 48, 32, 111, 116, 104, 101, 114, 32, 123, 125, 125]) (pa_cons (pe_s [123, 119, 44, 32, 115, 101, 108, 101, 99, 116, 44, 32, 111, 116, 104, 101, 114, 32, 123, 97, 125, 125]) pa_nil)))))))))))
  (pss_cons (ps_set (i := 1) sc_law_by_hand.nd rfl (Or.inl rfl) (pe_op op_cat (pv 1) (pe_lst (pa_cons (pe_s [123, 110, 44, 32, 112, 108, 117, 114, 97, 108, 44, 32, 61, 48, 49, 32, 123, 125, 32, 111, 116, 104, 101, 114, 32, 123, 125, 125]) (pa_cons (pe_s [123, 110, 44, 32, 112, 108, 117, 114, 97, 108, 44, 32, 111, 110, 101, 32, 123, 125, 32, 111, 110, 101, 32, 123, 125, 32, 111, 116, 104, 101, 114, 32, 123, 125, 125]) (pa_cons (pe_s [123, 110, 44, 32, 112, 108, 117, 114, 97, 108, 44, 32, 111, 102, 102, 115, 101, 116, 58, 49, 48, 32, 111, 116, 104, 101, 114, 32, 123, 125, 125]) (pa_cons (pe_s [97, 123]) (pa_cons (pe_s [125]) (pa_cons (pe_s [123, 110, 44, 32, 112, 108, 117, 114, 97, 108, 44, 32, 61, 55, 32, 123, 35, 125, 32, 111, 116, 104, 101, 114, 32, 123, 39, 35, 39, 125, 125]) pa_nil)))))))))
  (pss_cons (ps_set (i := 1) sc_law_by_hand.nd rfl (Or.inl rfl) (pe_op op_cat (pv 1) (pe_lst (pa_cons (pe_s [123, 110, 44, 32, 112, 108, 117, 114, 97, 108, 44, 32, 115, 111, 109, 101, 32, 123, 125, 32, 111, 116, 104, 101, 114, 32, 123, 125, 125]) (pa_cons (pe_s [123, 108, 111, 110, 103, 101, 114, 110, 97, 109, 101, 125]) (pa_cons (pe_s [123, 119, 44, 32, 115, 101, 108, 101, 99, 116, 44, 32, 104, 101, 32, 123, 125, 32, 111, 116, 104, 101, 114, 32, 123, 125, 125, 125]) (pa_cons (pe_s [123, 119, 44, 32, 115, 101, 108, 101, 99, 116, 44, 32, 104, 101, 32, 123, 125, 32, 32, 111, 116, 104, 101, 114, 32, 123, 125, 125]) (pa_cons (pe_s [123, 110, 44, 32, 112, 108, 117, 114, 97, 108, 44, 32, 61, 49, 48, 48, 48, 32, 123, 125, 32, 111, 116, 104, 101, 114, 32, 123, 125, 125]) (pa_cons (pe_s [39, 39]) pa_nil)))))))))
  (pss_cons (ps_set (i := 2) sc_law_by_hand.nd rfl (Or.inl rfl) (pe_op op_cat (pe_lst (pa_cons pe_int (pa_cons pe_int (pa_cons pe_int pa_nil)))) (pe_lc (own := [("_law_sign", 4)]) (g := gName 4) (tt := tYes) rfl sc_law_by_hand.nd (pi_str (pe_ix ix_list (pv 1) (C8.pe_c c_law_draw hr (by omega) rfl (pa_cons (pv 0) (pa_cons pe_int pa_nil))) (fun _ _ => rfl))) (blkOk_by (own := [("_law_sign", 4)]) (N := N_law_by_hand) (sc := defScope s_law_by_hand) (by decide +kernel)) (fun _ _ _ _ _ => pg_name (i := 4) sc_law_by_hand.nd rfl (Or.inl rfl)) (fun _ _ _ _ _ => pts_nil) (fun _ _ _ _ _ => (pe_callB call_ordS (by rfl) T.f_ord (by decide +kernel) (pa_cons (pv 4) pa_nil))))))
  (pss_cons (ps_if (pt_cmpR op_eq (C8.pe_c c_law_draw hr (by omega) rfl (pa_cons (pv 0) (pa_cons pe_int pa_nil))) pe_int (nomark _))
    (pss_cons (ps_set (i := 3) sc_law_by_hand.nd rfl (Or.inl rfl) (pe_lst (pa_cons (pe_lst pa_nil) (pa_cons (pe_lst (pa_cons pe_int pa_nil)) (pa_cons (pe_lst (pa_cons pe_int (pa_cons pe_int pa_nil))) (pa_cons (pe_lst (pa_cons pe_int (pa_cons pe_int pa_nil))) (pa_cons (pe_lst (pa_cons pe_int (pa_cons pe_int (pa_cons pe_int pa_nil)))) (pa_cons (pe_lst (pa_cons pe_int (pa_cons pe_int (pa_cons pe_int pa_nil)))) (pa_cons (pe_lst (pa_cons pe_int pa_nil)) (pa_cons (pe_lst (pa_cons pe_int (pa_cons pe_int pa_nil))) (pa_cons (pe_op op_cat (pe_lst (pa_cons pe_int pa_nil)) (pe_op op_rep (pe_lst (pa_cons pe_int pa_nil)) pe_int)) (pa_cons (pe_lst (pa_cons pe_int (pa_cons pe_int (pa_cons pe_int pa_nil)))) (pa_cons (pe_lst (pa_cons pe_int (pa_cons pe_int pa_nil))) (pa_cons (pe_lst (pa_cons pe_int pa_nil)) (pa_cons (pe_lst (pa_cons pe_int pa_nil)) (pa_cons (pe_lst (pa_cons pe_int (pa_cons pe_int (pa_cons pe_int (pa_cons pe_int pa_nil))))) (pa_cons (pe_op op_cat (pe_lst (pa_cons pe_int (pa_cons pe_int pa_nil))) (pe_op op_rep (pe_lst (pa_cons pe_int pa_nil)) pe_int)) pa_nil)))))))))))))))))
    (pss_one (ps_set (i := 2) sc_law_by_hand.nd rfl (Or.inl rfl) (pe_ix ix_list (pv 3) (C8.pe_c c_law_draw hr (by omega) rfl (pa_cons (pv 0) (pa_cons pe_int pa_nil))) (fun _ _ => rfl)))))
    pss_nil)
  (pss_one (ps_ret (pe_op op_cat (pe_op op_cat (pe_lst (pa_cons pe_int (pa_cons (pe_callB call_lenL (by rfl) T.f_len (by decide +kernel) (pa_cons (pv 2) pa_nil)) pa_nil))) (pv 2)) (pe_lst (pa_cons (pe_op op_mod (pe_callB (cr_sum rfl) (by rfl) T.f_sum (by decide +kernel) (pa_cons (pv 2) pa_nil)) pe_int) (pa_cons pe_int pa_nil))))))))))), ?_⟩
  refine ⟨by show 9 ≤ sizeLine; exact szOf (by decide), fun p1 hp1 => ?_⟩
  have g1 : Gw [] G H G _ := Gw.allocM (o := HO.lst (handT1.map fun t => V.str (S t))) b0.sm hp1
  refine ⟨_, rfl, by show 6 ≤ sizeLine; exact szOf (by decide), fun p2 hp2 => ?_⟩
  have g2 : Gw [] G _ G _ := Gw.allocM (o := HO.lst (handT2.map fun t => V.str (S t))) g1.gh hp2
  refine ⟨p1, p2, _, _, rfl, rfl, g2.same _ _ upd_same, upd_same, by show 9 + 6 ≤ sizeLine; exact szOf (by decide), fun p3 hp3 => ?_⟩
  have g3 : Gw [] G _ G _ := Gw.allocM (o := HO.lst ((handT1 ++ handT2).map fun t => V.str (S t))) g2.gh hp3
  refine ⟨_, rfl, by show 6 ≤ sizeLine; exact szOf (by decide), fun p4 hp4 => ?_⟩
  have g4 : Gw [] G _ G _ := Gw.allocM (o := HO.lst (handT3.map fun t => V.str (S t))) g3.gh hp4
  refine ⟨p3, p4, _, _, rfl, rfl, g4.same _ _ upd_same, upd_same, by show 15 + 6 ≤ sizeLine; exact szOf (by decide), fun p5 hp5 => ?_⟩
  have g5 : Gw [] G _ G _ := Gw.allocM (o := HO.lst (handT.map fun t => V.str (S t))) g4.gh hp5
  have w5 := (((g1.trans g2).trans g3).trans g4).trans g5
  have hp5b : p5 ∉ [bx] := by
    intro z
    have z' : p5 = bx := by simpa using z
    exact (b0.up ((((g1.trans g2).trans g3).trans g4)) (by simp)).hne (z' ▸ hp5)
  refine ⟨by show 3 ≤ sizeLine; exact szOf (by decide), fun p6 hp6 => ?_⟩
  have g6 : Gw [] G _ G _ := Gw.allocM (o := HO.lst (iv [1, 1, 97])) g5.gh hp6
  have w6 := w5.trans g6
  have b6 := b0.up w6 (by simp)
  have hp6b : p6 ∉ [bx] := by
    intro z
    have z' : p6 = bx := by simpa using z
    exact (b0.up w5 (by simp)).hne (z' ▸ hp6)
  refine lordsH T (Pz := fun G1 H1 l => G1 = G ∧ Gw [bx] G H G H1 ∧ Box G H1 bx ∧ H1 p6 = some (.lst (iv [1, 1, 97])) ∧ l ∈ handT) (fun G1 H1 l hp => ?_) ⟨_, _, _, _, _, rfl⟩ (fun Q' q' => ?_) (fun D G1 H1 l hp H2 gD hD => ?_)
  · obtain ⟨rfl, g, _, _, hl⟩ := hp
    exact ⟨g.gh, (by decide : ∀ l ∈ handT, l.length ≤ 1000) l hl⟩
  · refine ⟨_, rfl, _, rfl, G, bx, 21, rfl, b6, by decide, fun H7 n g7 b7 hn => ?_⟩
    have hn' : n < handT.length := hn
    have hat : (handT.map fun t => V.str (S t))[n]? = some (.str (S handT[n])) := by rw [List.getElem?_map, List.getElem?_eq_getElem hn']; rfl
    refine ⟨p5, handT.map (fun t => V.str (S t)), _, _, rfl, rfl, SqL.of (g7.keep p5 _ hp5b (g6.same _ _ upd_same)), atI_nat hat, q' G H7 handT[n] ⟨rfl, w6.nil.trans g7, b7, g7.keep p6 _ hp6b upd_same, List.getElem_mem hn'⟩⟩
  obtain ⟨rfl, g7, b7, h6, hl⟩ := hp
  have h62 := gD.same _ _ h6
  refine ⟨p6, D, _, _, rfl, rfl, h62, hD, by rw [iv_len, iv_len]; have := (by decide : ∀ l ∈ handT, l.length ≤ 900) l hl; exact szOf (by show 3 + _ ≤ 1000; omega), fun p8 hp8 => ?_⟩
  rw [← iv_app]
  have g8 : Gw [] _ _ _ _ := Gw.allocM (o := HO.lst (iv ([1, 1, 97] ++ l))) gD.gh hp8
  have w8 := (g7.trans gD.nil).trans g8.nil
  have b8 := (b7.up gD (by simp)).up g8 (by simp)
  have hb8 : [1, 1, 97] ++ l ∈ handB := List.mem_append_left _ (List.mem_map_of_mem hl)
  -- the row of octets
  have hbl : ∀ b ∈ handB, b.length ≤ 60 := by decide
  have fin : ∀ (r : Addr) (b : List Nat) (G2 H2 : Hp) (v1 v3 v4 : Option V) (D' : Ends), D'.rt = Q → Gw [bx] G1 H G2 H2 → Box G2 H2 bx → H2 r = some (.lst (iv b)) → b ∈ handB →
      tRet (tOp rCat (tOp rCat (tLst (tCons (tC (.int 0)) (tCons (tCB (rLenL K) (tCons (tVar 2) tNil)) tNil))) (tVar 2)) (tLst (tCons (tOp (rI (fun _ j => 0 < j) fun i j => .int (i % j)) (tCB (rSum K) (tCons (tVar 2) tNil)) (tC (.int 256))) (tCons (tC (.int 170)) tNil)))) D' [some (.ref bx), v1, some (.ref r), v3, v4] H2 := by
    intro r b G2 H2 v1 v3 v4 D' hD' g2 b2 hr hb
    have hl := hbl b hb
    refine ⟨_, rfl, r, _, rfl, SqL.of hr, by show 2 ≤ sizeLine; exact szOf (by decide), fun c hc => ?_⟩
    have k2 : Gw [] G2 H2 G2 _ := Gw.allocM (o := HO.lst [V.int 0, V.int ((iv b).length : Nat)]) b2.sm hc
    have hr2 := k2.same _ _ hr
    refine ⟨_, rfl, c, r, _, _, rfl, rfl, upd_same, hr2, by rw [List.length_map, sizeLine_eq]; show 2 + _ ≤ _; omega, fun e he => ?_⟩
    have k3 : Gw [] G2 _ G2 _ := Gw.allocM (o := HO.lst ([V.int 0, V.int ((iv b).length : Nat)] ++ iv b)) k2.gh he
    have hr3 := k3.same _ _ hr2
    refine ⟨_, rfl, r, b.map (fun n : Nat => (n : Int)), rfl, by rw [← iv_eq]; exact SqL.of hr3, _, _, rfl, rfl, by show (0 : Int) < 256; decide, ?_⟩
    rw [sum_cast]
    refine ⟨by show 2 ≤ sizeLine; exact szOf (by decide), fun f hf => ?_⟩
    have k4 : Gw [] G2 _ G2 _ := Gw.allocM (o := HO.lst [V.int ((b.sum : Nat) % 256 : Int), V.int 170]) k3.gh hf
    refine ⟨e, f, _, _, rfl, rfl, k4.same _ _ upd_same, upd_same, by rw [List.length_append, List.length_map, sizeLine_eq]; show 2 + _ + 2 ≤ _; omega, fun r' hr' => ?_⟩
    have k5 : Gw [] G2 _ G2 _ := Gw.allocM (o := HO.lst ([V.int 0, V.int ((iv b).length : Nat)] ++ iv b ++ [V.int ((b.sum : Nat) % 256 : Int), V.int 170])) k4.gh hr'
    have kk := ((k2.trans k3).trans k4).trans k5
    rw [hD']
    refine q G2 _ r' b (g2.trans kk.nil) (b2.up kk (by simp)) ?_ hb
    rw [upd_same]
    unfold recB
    rw [show b.length / 256 = 0 by omega, show b.length % 256 = b.length by omega]
    simp
  refine ⟨_, rfl, G1, bx, 2, rfl, b8, by decide, fun H9 n9 g9 b9 hn9 => ?_⟩
  have w9 := w8.trans g9
  have h89 : H9 p8 = some (.lst (iv ([1, 1, 97] ++ l))) := g9.keep p8 _ (by
    intro z
    have z' : p8 = bx := by simpa using z
    exact (b7.up gD (by simp)).hne (z' ▸ hp8)) upd_same
  refine ⟨rfl, _, rfl, iteI (fun _ => ?_) (fun _ => fin p8 _ G1 H9 _ _ _ _ rfl w9 b9 h89 hb8)⟩
  dsimp only [tSeq, tAsg]
  refine LitS.in (bs := handR) ?lits b9.sm fun vs G3 H3 g3 rvs => ?_
  case lits => exact (.cons (.lst (b := []) (by decide) fun _ _ h => h) (.cons (.lst (b := [1]) (by decide) fun _ _ h => h) (.cons (.lst (b := [1, 0]) (by decide) fun _ _ h => h) (.cons (.lst (b := [1, 1]) (by decide) fun _ _ h => h) (.cons (.lst (b := [1, 2, 97]) (by decide) fun _ _ h => h) (.cons (.lst (b := [1, 1, 65]) (by decide) fun _ _ h => h) (.cons (.lst (b := [2]) (by decide) fun _ _ h => h) (.cons (.lst (b := [2, 65]) (by decide) fun _ _ h => h) (.cons (.cat (b1 := [2]) (.lst (by decide) fun _ _ h => h) (.rep (x := 97) (k := 9) (.lst (by decide) fun _ _ h => h) (by decide) rfl) (by decide)) (.cons (.lst (b := [2, 97, 98]) (by decide) fun _ _ h => h) (.cons (.lst (b := [3, 3]) (by decide) fun _ _ h => h) (.cons (.lst (b := [4]) (by decide) fun _ _ h => h) (.cons (.lst (b := [0]) (by decide) fun _ _ h => h) (.cons (.lst (b := [1, 1, 97, 9]) (by decide) fun _ _ h => h) (.cons (.cat (b1 := [1, 9]) (.lst (by decide) fun _ _ h => h) (.rep (x := 97) (k := 9) (.lst (by decide) fun _ _ h => h) (by decide) rfl) (by decide)) .nil)))))))))))))))
  have hvl : vs.length = 15 := by rw [rvs.length]; rfl
  refine ⟨by rw [hvl]; exact szOf (by decide), fun pr hpr => ?_⟩
  have g4 : Gw [] G3 H3 G3 _ := Gw.allocM (o := HO.lst vs) g3.gh hpr
  have b4 := (b9.up g3 (by simp)).up g4 (by simp)
  have w4 := (w9.trans g3.nil).trans g4.nil
  have hprb : pr ∉ [bx] := by
    intro z
    have z' : pr = bx := by simpa using z
    exact (b9.up g3 (by simp)).hne (z' ▸ hpr)
  refine ⟨_, rfl, _, rfl, G3, bx, 15, rfl, b4, by decide, fun H5 n5 g5 b5 hn5 => ?_⟩
  have hn' : n5 < handR.length := hn5
  obtain ⟨v, hv⟩ : ∃ v, vs[n5]? = some v := ⟨vs[n5], List.getElem?_eq_getElem (by omega)⟩
  obtain ⟨d, hd, rd⟩ := rvs.get hv
  rw [List.getElem?_map, List.getElem?_eq_getElem hn'] at hd
  cases hd
  obtain ⟨a, xs, rfl, hxa, rxa⟩ := rd.lst_inv
  have hxs := rxa.ints_inv
  rw [← iv_eq] at hxs
  subst hxs
  refine ⟨pr, vs, _, _, rfl, rfl, SqL.of (g5.keep pr _ hprb upd_same), atI_nat hv, ?_⟩
  exact fin a _ G3 H5 _ _ _ _ rfl (w4.trans g5) b5 (g5.gh _ _ hxa) (List.mem_append_right _ (List.getElem_mem hn'))
end
end Mw


set_option Elab.async false
set_option linter.all false
set_option maxRecDepth 100000
set_option maxHeartbeats 1000000
/-! MwD6: octets spoilt. -/
namespace Mw
open PySem PySem.Spec L2
open SX (S S_cat S_len S_inj)
def spoils (ns ms : List Nat) : Prop := (∃ k o, k ≤ ns.length ∧ o < 256 ∧ (ms = ns.take k ++ [o] ++ ns.drop k ∨ ms = ns.take k ++ ns.drop (k + 1) ∨ ms = ns.take k ∨ ms = ns.take k ++ [o] ++ ns.drop (k + 1))) ∨ ∃ b ∈ handB, ms = ns ++ recB b
theorem handB_len : ∀ b ∈ handB, (recB b).length ≤ 100 := by decide +kernel
theorem Box.iv {G H : Hp} {bx a : Addr} {ns : List Nat} (b : Box G H bx) (h : H a = some (.lst (iv ns))) : a ≠ bx := by
  rintro rfl
  obtain ⟨ra, xs, n, b⟩ := b
  have e := b.hb.symm.trans h
  cases ns with
  | nil => cases e
  | cons c r => cases e
section
variable {P : Program} {w : World} {K : PySem.W.Frag} {mg : Str → Option Value} {base : Heap}
def spSpoilt : Sp := fun vs H Q _ => ∃ G bx a ns, vs = [.ref bx, .ref a] ∧ Box G H bx ∧ H a = some (.lst (iv ns)) ∧ ns.length ≤ 100000 ∧
  ∀ G' H' p ms, Gw [bx] G H G' H' → Box G' H' bx → H' p = some (.lst (iv ms)) → spoils ns ms → Q (.ref p) H'
theorem ok_law_spoilt (T : Tx K mg) : C8.Cal P w K mg base 3 "_law_spoilt" spSpoilt [] := by
  refine cal_of T.d_law_spoilt T.g_law_spoilt (fun _ _ _ _ _ _ us hl => match us, hl with | [_, _], _ => rfl) sc_law_spoilt (fun vs H Q E h => ?_) (fun cdv A outer s H vs Q E hr h => ?_)
  · obtain ⟨G, bx, a, ns, rfl, _⟩ := h; rfl
  obtain ⟨G, bx, a, ns, rfl, b0, ha, hnl, q⟩ := h
  have c_law_draw : C8.Cal P w K mg base 1 "_law_draw" spDraw [] := ok_law_draw T
  have c_law_by_hand : C8.Cal P w K mg base 2 "_law_by_hand" spHand [] := ok_law_by_hand T
  refine ⟨_, (pss_cons (ps_set (i := 2) sc_law_spoilt.nd rfl (Or.inl rfl) (pe_op op_mod (pe_callTy call_int1 (by rfl) T.f_int (by decide +kernel) (pa_cons (C8.pe_c c_law_draw hr (by omega) rfl (pa_cons (pv 0) (pa_cons pe_int pa_nil))) pa_nil)) (pe_op op_add (pe_callB call_lenL (by rfl) T.f_len (by decide +kernel) (pa_cons (pv 1) pa_nil)) pe_int)))
  (pss_cons (ps_set (i := 3) sc_law_spoilt.nd rfl (Or.inl rfl) (C8.pe_c c_law_draw hr (by omega) rfl (pa_cons (pv 0) (pa_cons pe_int pa_nil))))
  (pss_cons (ps_set (i := 4) sc_law_spoilt.nd rfl (Or.inl rfl) (pe_ix ix_list (pe_lst (pa_cons (C8.pe_c c_law_draw hr (by omega) rfl (pa_cons (pv 0) (pa_cons pe_int pa_nil))) (pa_cons pe_int (pa_cons pe_int (pa_cons pe_int (pa_cons pe_int (pa_cons pe_int (pa_cons pe_int (pa_cons pe_int pa_nil))))))))) (C8.pe_c c_law_draw hr (by omega) rfl (pa_cons (pv 0) (pa_cons pe_int pa_nil))) (fun _ _ => rfl)))
  (pss_cons (ps_if (pt_cmpR op_eq (pv 3) pe_int (nomark _))
    (pss_one (ps_ret (pe_op op_cat (pe_op op_cat (pe_slice sl_L (pv 1) po_none (po_some (pv 2))) (pe_lst (pa_cons (pv 4) pa_nil))) (pe_slice sl_L (pv 1) (po_some (pv 2)) po_none))))
    pss_nil)
  (pss_cons (ps_if (pt_cmpR op_eq (pv 3) pe_int (nomark _))
    (pss_one (ps_ret (pe_op op_cat (pe_slice sl_L (pv 1) po_none (po_some (pv 2))) (pe_slice sl_L (pv 1) (po_some (pe_op op_add (pv 2) pe_int)) po_none))))
    pss_nil)
  (pss_cons (ps_if (pt_cmpR op_eq (pv 3) pe_int (nomark _))
    (pss_one (ps_ret (pe_slice sl_L (pv 1) po_none (po_some (pv 2)))))
    pss_nil)
  (pss_cons (ps_if (PW.pt (pw_and (pt_cmpR op_eq (pv 3) pe_int (nomark _)) (pw_and1 (pt_cmpR op_lt (pv 2) (pe_callB call_lenL (by rfl) T.f_len (by decide +kernel) (pa_cons (pv 1) pa_nil)) (nomark _)))))
    (pss_one (ps_ret (pe_op op_cat (pe_op op_cat (pe_slice sl_L (pv 1) po_none (po_some (pv 2))) (pe_lst (pa_cons (pv 4) pa_nil))) (pe_slice sl_L (pv 1) (po_some (pe_op op_add (pv 2) pe_int)) po_none))))
    pss_nil)
  (pss_one (ps_ret (pe_op op_cat (pv 1) (C8.pe_c c_law_by_hand hr (by omega) rfl (pa_cons (pv 0) pa_nil)))))))))))), ?_⟩
  have hab := b0.iv ha
  have nab : a ∉ [bx] := by simp [hab]
  refine ⟨_, rfl, G, bx, 900, rfl, b0, by decide, fun H1 n1 g1 b1 hn1 => .inl ⟨_, rfl, _, rfl, a, _, rfl, SqL.of (g1.keep a _ nab ha), _, _, rfl, rfl, _, _, rfl, rfl, by show (0 : Int) < _; omega, ?_⟩⟩
  have hk0 : ((n1 : Int) % (((iv ns).length : Int) + 1)) = ((n1 % (ns.length + 1) : Nat) : Int) := by rw [iv_len]; push_cast; rfl
  have hk1 : n1 % (ns.length + 1) ≤ ns.length := by have := Nat.mod_lt n1 (show 0 < ns.length + 1 by omega); omega
  dsimp only
  rw [hk0]
  generalize n1 % (ns.length + 1) = k at hk1 ⊢
  refine ⟨_, rfl, G, bx, 5, rfl, b1, by decide, fun H2 kd g2 b2 hkd => ?_⟩
  refine ⟨_, rfl, G, bx, 256, rfl, b2, by decide, fun H3 o1 g3 b3 ho1 => ?_⟩
  refine ⟨by show 8 ≤ sizeLine; exact szOf (by decide), fun pl hpl => ?_⟩
  have g4 : Gw [] G H3 G _ := Gw.allocM (o := HO.lst (iv [o1, 0, 1, 2, 3, 170, 123, 255])) b3.sm hpl
  have b4 := b3.up g4 (by simp)
  have hplb : pl ∉ [bx] := by
    intro z
    have z' : pl = bx := by simpa using z
    exact b3.hne (z' ▸ hpl)
  refine ⟨_, rfl, G, bx, 8, rfl, b4, by decide, fun H5 n5 g5 b5 hn5 => ?_⟩
  obtain ⟨o, ho, hat⟩ : ∃ o, o < 256 ∧ (iv [o1, 0, 1, 2, 3, 170, 123, 255])[n5]? = some (V.int (o : Nat)) := by
    have : n5 = 0 ∨ n5 = 1 ∨ n5 = 2 ∨ n5 = 3 ∨ n5 = 4 ∨ n5 = 5 ∨ n5 = 6 ∨ n5 = 7 := by omega
    rcases this with rfl | rfl | rfl | rfl | rfl | rfl | rfl | rfl
    · exact ⟨o1, ho1, rfl⟩
    all_goals exact ⟨_, by decide, rfl⟩
  refine ⟨pl, iv [o1, 0, 1, 2, 3, 170, 123, 255], _, _, rfl, rfl, SqL.of (g5.keep pl _ hplb upd_same), atI_nat hat, ?_⟩
  have w5 := ((g1.trans g2).trans g3).trans (g4.nil.trans g5)
  have ha5 := w5.keep a _ nab ha
  -- the octets in front, the octet, the octets behind
  have hcut : ∀ x : Nat, (ns.take x).length ≤ ns.length := fun x => by rw [List.length_take]; omega
  have hcut2 : ∀ x : Nat, (ns.drop x).length ≤ ns.length := fun x => by rw [List.length_drop]; omega
  have fin : ∀ p H6 ms, Gw [] G H5 G H6 → H6 p = some (.lst (iv ms)) → spoils ns ms → Q (.ref p) H6 := fun p H6 ms g6 hp6 hs => q G H6 p ms (w5.trans g6.nil) (b5.up g6 (by simp)) hp6 hs
  have ivc : ∀ x y : List Nat, iv x ++ iv y = iv (x ++ y) := fun x y => by rw [iv, iv, iv, List.map_append]
  have three : ∀ j : Nat, j ≤ ns.length + 1 → (ns.take k ++ [o] ++ ns.drop j).length ≤ 300000 := fun j hj => by
    have h1 := hcut k
    have h2 := hcut2 j
    rw [List.length_append, List.length_append, List.length_singleton]; omega
  refine ⟨_, rfl, rfl, _, rfl, iteI (fun _ => ?_) (fun _ => ?_)⟩
  · refine ⟨_, rfl, _, rfl, _, rfl, a, _, none, some k, rfl, SqL.of ha5, rfl, rfl, fun t1 h1 => ?_⟩
    rw [cut_iv, cut_hi]
    have k1 : Gw [] G H5 G _ := Gw.allocM (o := HO.lst (iv (ns.take k))) b5.sm h1
    refine ⟨_, rfl, by show 1 ≤ sizeLine; exact szOf (by decide), fun t2 h2 => ?_⟩
    have k2 : Gw [] G _ G _ := Gw.allocM (o := HO.lst (iv [o])) k1.gh h2
    refine ⟨t1, t2, _, iv [o], rfl, rfl, k2.same _ _ upd_same, upd_same, by rw [iv_len, sizeLine_eq]; have := hcut k; show _ + 1 ≤ _; omega, fun t3 h3 => ?_⟩
    rw [ivc]
    have k3 : Gw [] G _ G _ := Gw.allocM (o := HO.lst (iv (ns.take k ++ [o]))) k2.gh h3
    have k13 := (k1.trans k2).trans k3
    refine ⟨_, rfl, _, rfl, _, rfl, a, _, some k, none, rfl, SqL.of (k13.same _ _ ha5), rfl, rfl, fun t4 h4 => ?_⟩
    rw [cut_iv, cut_lo]
    have k4 : Gw [] G _ G _ := Gw.allocM (o := HO.lst (iv (ns.drop k))) k3.gh h4
    refine ⟨t3, t4, _, _, rfl, rfl, k4.same _ _ upd_same, upd_same, by rw [iv_len, iv_len, sizeLine_eq]; have := three k (by omega); rw [List.length_append] at this; omega, fun t5 h5 => ?_⟩
    rw [ivc]
    have k5 : Gw [] G _ G _ := Gw.allocM (o := HO.lst (iv (ns.take k ++ [o] ++ ns.drop k))) k4.gh h5
    exact fin t5 _ _ ((k13.trans k4).trans k5) upd_same (.inl ⟨k, o, hk1, ho, .inl rfl⟩)
  refine ⟨_, rfl, rfl, _, rfl, iteI (fun _ => ?_) (fun _ => ?_)⟩
  · refine ⟨_, rfl, _, rfl, _, rfl, a, _, none, some k, rfl, SqL.of ha5, rfl, rfl, fun t1 h1 => ?_⟩
    rw [cut_iv, cut_hi]
    have k1 : Gw [] G H5 G _ := Gw.allocM (o := HO.lst (iv (ns.take k))) b5.sm h1
    refine ⟨_, rfl, _, rfl, _, _, rfl, rfl, _, rfl, a, _, some (k + 1), none, rfl, SqL.of (k1.same _ _ ha5), rfl, rfl, fun t2 h2 => ?_⟩
    rw [cut_iv, cut_lo]
    have k2 : Gw [] G _ G _ := Gw.allocM (o := HO.lst (iv (ns.drop (k + 1)))) k1.gh h2
    refine ⟨t1, t2, _, _, rfl, rfl, k2.same _ _ upd_same, upd_same, by rw [iv_len, iv_len, sizeLine_eq]; have := hcut k; have := hcut2 (k + 1); omega, fun t3 h3 => ?_⟩
    rw [ivc]
    have k3 : Gw [] G _ G _ := Gw.allocM (o := HO.lst (iv (ns.take k ++ ns.drop (k + 1)))) k2.gh h3
    exact fin t3 _ _ ((k1.trans k2).trans k3) upd_same (.inl ⟨k, o, hk1, ho, .inr (.inl rfl)⟩)
  refine ⟨_, rfl, rfl, _, rfl, iteI (fun _ => ?_) (fun _ => ?_)⟩
  · refine ⟨_, rfl, _, rfl, _, rfl, a, _, none, some k, rfl, SqL.of ha5, rfl, rfl, fun t1 h1 => ?_⟩
    rw [cut_iv, cut_hi]
    have k1 : Gw [] G H5 G _ := Gw.allocM (o := HO.lst (iv (ns.take k))) b5.sm h1
    exact fin t1 _ _ k1 upd_same (.inl ⟨k, o, hk1, ho, .inr (.inr (.inl rfl))⟩)
  have last : tRet (tOp rCat (tVar 1) (tCall spHand [] C8.E0 (tCons (tVar 0) tNil))) { nx := fun _ H' => Q .non H', rt := Q } [some (.ref bx), some (.ref a), some (.int (k : Nat)), some (.int (kd : Nat)), some (.int (o : Nat))] H5 := by
    refine ⟨_, rfl, _, rfl, G, bx, rfl, b5, fun G6 H6 p b g6 b6 hp hb => ?_⟩
    have ha6 := g6.keep a _ nab ha5
    refine ⟨a, p, _, _, rfl, rfl, ha6, hp, by rw [iv_len, iv_len, sizeLine_eq]; have := handB_len b hb; omega, fun t1 h1 => ?_⟩
    rw [ivc]
    have k1 : Gw [] G6 H6 G6 _ := Gw.allocM (o := HO.lst (iv (ns ++ recB b))) b6.sm h1
    exact q _ _ _ _ (w5.trans (g6.trans k1.nil)) (b6.up k1 (by simp)) upd_same (.inr ⟨b, hb, rfl⟩)
  refine ⟨_, rfl, rfl, _, rfl, iteI (fun _ => ?_) (fun _ => iteF last)⟩
  refine ⟨_, rfl, _, rfl, a, _, rfl, SqL.of ha5, _, _, rfl, rfl, _, rfl, iteD (fun _ => ?_) (fun _ => last)⟩
  refine ⟨_, rfl, _, rfl, _, rfl, a, _, none, some k, rfl, SqL.of ha5, rfl, rfl, fun t1 h1 => ?_⟩
  rw [cut_iv, cut_hi]
  have k1 : Gw [] G H5 G _ := Gw.allocM (o := HO.lst (iv (ns.take k))) b5.sm h1
  refine ⟨_, rfl, by show 1 ≤ sizeLine; exact szOf (by decide), fun t2 h2 => ?_⟩
  have k2 : Gw [] G _ G _ := Gw.allocM (o := HO.lst (iv [o])) k1.gh h2
  refine ⟨t1, t2, _, iv [o], rfl, rfl, k2.same _ _ upd_same, upd_same, by rw [iv_len, sizeLine_eq]; have := hcut k; show _ + 1 ≤ _; omega, fun t3 h3 => ?_⟩
  rw [ivc]
  have k3 : Gw [] G _ G _ := Gw.allocM (o := HO.lst (iv (ns.take k ++ [o]))) k2.gh h3
  have k13 := (k1.trans k2).trans k3
  refine ⟨_, rfl, _, rfl, _, _, rfl, rfl, _, rfl, a, _, some (k + 1), none, rfl, SqL.of (k13.same _ _ ha5), rfl, rfl, fun t4 h4 => ?_⟩
  rw [cut_iv, cut_lo]
  have k4 : Gw [] G _ G _ := Gw.allocM (o := HO.lst (iv (ns.drop (k + 1)))) k3.gh h4
  refine ⟨t3, t4, _, _, rfl, rfl, k4.same _ _ upd_same, upd_same, by rw [iv_len, iv_len, sizeLine_eq]; have := three (k + 1) (by omega); rw [List.length_append] at this; omega, fun t5 h5 => ?_⟩
  rw [ivc]
  have k5 : Gw [] G _ G _ := Gw.allocM (o := HO.lst (iv (ns.take k ++ [o] ++ ns.drop (k + 1)))) k4.gh h5
  exact fin t5 _ _ ((k13.trans k4).trans k5) upd_same (.inl ⟨k, o, hk1, ho, .inr (.inr (.inr rfl))⟩)
end
end Mw

set_option Elab.async false
set_option linter.all false
set_option maxRecDepth 100000
set_option maxHeartbeats 1000000
/-! MwE1: what is true of the messages that the law makes. -/
namespace Mw
open PySem PySem.Spec L2
open SX (S S_cat S_len S_inj)
/-! ### numbers in them -/
mutual
theorem w0_numN : ∀ (i : Bool) (x : Nd), w0N i x → numN x
  | _, .txt _, _ => trivial
  | _, .shw _, _ => trivial
  | _, .num, _ => trivial
  | i, .cho pl n off cs ot, h => by
    unfold w0N at h
    unfold numN
    exact ⟨h.2.1, w0_numC _ _ cs h.2.2.2.1, w0_numM _ ot h.2.2.2.2.2⟩
theorem w0_numM : ∀ (i : Bool) (m : List Nd), w0M i m → numM m
  | _, [], _ => trivial
  | i, x :: r, h => by
    unfold w0M at h
    unfold numM
    exact ⟨w0_numN i x h.1, w0_numM i r h.2⟩
theorem w0_numC : ∀ (i pl : Bool) (cs : List (Ky × List Nd)), w0C i pl cs → numC cs
  | _, _, [], _ => trivial
  | i, pl, (k, m) :: r, h => by
    unfold w0C at h
    unfold numC
    refine ⟨?_, w0_numM i m h.2.1, w0_numC i pl r h.2.2⟩
    cases k with
    | ix j => exact h.1.2
    | wd w => trivial
end
/-! ### weights of what stands in front -/
structure PW (r : List Nat) (n e : Int) : Prop where
  lo : ∀ u t, r = u ++ t → 0 ≤ wS u
  hi : ∀ u t, r = u ++ t → wS u ≤ n
  all : wS r = e
theorem PW.mono {r : List Nat} {n m e : Int} (h : PW r n e) (k : n ≤ m) : PW r m e := ⟨h.lo, fun u t z => Int.le_trans (h.hi u t z) k, h.all⟩
theorem PW.nn {r : List Nat} {n e : Int} (h : PW r n e) : 0 ≤ e := by
  have := h.lo r [] (by simp)
  rw [h.all] at this; exact this
theorem PW.app {a b : List Nat} {n m e f k : Int} (h : PW a n e) (g : PW b m f) (h1 : n ≤ k) (h2 : e + m ≤ k) : PW (a ++ b) k (e + f) := by
  have key : ∀ u t, a ++ b = u ++ t → 0 ≤ wS u ∧ wS u ≤ k := fun u t z => by
    rcases List.append_eq_append_iff.mp z with ⟨c, h3, h4⟩ | ⟨c, h3, h4⟩
    · subst h3
      have q1 := g.lo c t h4
      have q2 := g.hi c t h4
      have q3 := h.nn
      rw [wS_append, h.all]
      omega
    · have q1 := h.lo u c h3
      have q2 := h.hi u c h3
      omega
  exact ⟨fun u t z => (key u t z).1, fun u t z => (key u t z).2, by rw [wS_append, h.all, g.all]⟩
theorem PW.zero {z : List Nat} (h : ∀ c ∈ z, wt c = 0) : PW z 0 0 := by
  have key : ∀ u t, z = u ++ t → wS u = 0 := fun u t e => wS_zero fun c hc => h c (by rw [e]; exact List.mem_append_left _ hc)
  exact ⟨fun u t e => by rw [key u t e]; exact Int.le_refl _, fun u t e => by rw [key u t e]; exact Int.le_refl _, key z [] (by simp)⟩
theorem PW.one {c : Nat} {e : Int} (h : wt c = e) (h0 : 0 ≤ e) : PW [c] e e := by
  have w1 : wS [c] = e := by simp [wS, h]
  have key : ∀ u t, [c] = u ++ t → wS u = 0 ∨ wS u = e := fun u t z => by
    cases u with
    | nil => exact .inl rfl
    | cons x r =>
      injection z with z1 z2
      have : r = [] := by
        cases r with
        | nil => rfl
        | cons _ _ => cases z2
      subst this z1
      exact .inr w1
  exact ⟨fun u t z => by rcases key u t z with q | q <;> omega, fun u t z => by rcases key u t z with q | q <;> omega, w1⟩
/-- at a closing brace -/
theorem PW.end_ {a : List Nat} {n e f : Int} {z : List Nat} (h : PW a n e) (hz : ∀ u t, z = u ++ t → wS u ≤ 0 ∧ 0 ≤ e + wS u) (hf : wS z = f) : PW (a ++ z) n (e + f) := by
  have key : ∀ u t, a ++ z = u ++ t → 0 ≤ wS u ∧ wS u ≤ n := fun u t q => by
    rcases List.append_eq_append_iff.mp q with ⟨c, h3, h4⟩ | ⟨c, h3, h4⟩
    · subst h3
      have q1 := hz c t h4
      have q2 := h.hi a [] (by simp)
      rw [h.all] at q2
      rw [wS_append, h.all]
      omega
    · exact ⟨h.lo u c h3, h.hi u c h3⟩
  exact ⟨fun u t q => (key u t q).1, fun u t q => (key u t q).2, by rw [wS_append, h.all, hf]⟩
theorem allO_app {a b : List Nat} (h : allO a) (g : allO b) : allO (a ++ b) := fun c hc => by
  rcases List.mem_append.mp hc with z | z
  · exact h c z
  · exact g c z
/-! ### messages by their nodes -/
theorem w0M_of {i : Bool} : ∀ {m : List Nd}, (∀ x ∈ m, w0N i x) → w0M i m
  | [], _ => by unfold w0M; trivial
  | x :: r, h => by
    unfold w0M
    exact ⟨h x (List.mem_cons_self ..), w0M_of fun y hy => h y (List.mem_cons_of_mem _ hy)⟩
theorem w0M_mem {i : Bool} : ∀ {m : List Nd}, w0M i m → ∀ x ∈ m, w0N i x
  | [], _, _, hx => by cases hx
  | y :: r, h, x, hx => by
    unfold w0M at h
    rcases List.mem_cons.mp hx with rfl | hx
    · exact h.1
    · exact w0M_mem h.2 x hx
theorem w0C_of {i pl : Bool} : ∀ {cs : List (Ky × List Nd)}, (∀ q ∈ cs, okK pl q.1 ∧ w0M i q.2) → w0C i pl cs
  | [], _ => by unfold w0C; trivial
  | (k, m) :: r, h => by
    unfold w0C
    have := h (k, m) (List.mem_cons_self ..)
    exact ⟨this.1, this.2, w0C_of fun y hy => h y (List.mem_cons_of_mem _ hy)⟩
theorem dpM_le {d : Nat} : ∀ {m : List Nd}, (∀ x ∈ m, dpN x ≤ d) → dpM m ≤ d
  | [], _ => by unfold dpM; omega
  | x :: r, h => by
    unfold dpM
    have h1 := h x (List.mem_cons_self ..)
    have h2 : dpM r ≤ d := dpM_le fun y hy => h y (List.mem_cons_of_mem _ hy)
    omega
theorem dpC_le {d : Nat} : ∀ {cs : List (Ky × List Nd)}, (∀ q ∈ cs, dpM q.2 ≤ d) → dpC cs ≤ d
  | [], _ => by unfold dpC; omega
  | (k, m) :: r, h => by
    unfold dpC
    have h1 := h (k, m) (List.mem_cons_self ..)
    have h2 : dpC r ≤ d := dpC_le fun y hy => h y (List.mem_cons_of_mem _ hy)
    dsimp only at h1
    omega
theorem szM_le {b : Nat} : ∀ {m : List Nd}, (∀ x ∈ m, szN x ≤ b) → szM m ≤ m.length * b
  | [], _ => by unfold szM; omega
  | x :: r, h => by
    unfold szM
    have h1 := h x (List.mem_cons_self ..)
    have h2 : szM r ≤ r.length * b := szM_le fun y hy => h y (List.mem_cons_of_mem _ hy)
    rw [List.length_cons, Nat.succ_mul]
    omega
theorem szC_le {b : Nat} : ∀ {cs : List (Ky × List Nd)}, (∀ q ∈ cs, (fmtK q.1).length + 6 + szM q.2 ≤ b) → szC cs ≤ cs.length * b
  | [], _ => by unfold szC; omega
  | (k, m) :: r, h => by
    unfold szC
    have h1 := h (k, m) (List.mem_cons_self ..)
    have h2 : szC r ≤ r.length * b := szC_le fun y hy => h y (List.mem_cons_of_mem _ hy)
    dsimp only at h1
    rw [List.length_cons, Nat.succ_mul]
    omega
theorem allO_fmtM : ∀ {m : List Nd}, (∀ x ∈ m, allO (fmtN x)) → allO (fmtM m)
  | [], _ => by unfold fmtM; intro c hc; cases hc
  | x :: r, h => by
    unfold fmtM
    exact allO_app (h x (List.mem_cons_self ..)) (allO_fmtM fun y hy => h y (List.mem_cons_of_mem _ hy))
theorem PW_fmtM {n : Int} (hn : 0 ≤ n) : ∀ {m : List Nd}, (∀ x ∈ m, PW (fmtN x) n 0) → PW (fmtM m) n 0
  | [], _ => by
    unfold fmtM
    exact (PW.zero (z := []) fun c hc => by cases hc).mono hn
  | x :: r, h => by
    unfold fmtM
    have h1 := h x (List.mem_cons_self ..)
    have h2 : PW (fmtM r) n 0 := PW_fmtM hn fun y hy => h y (List.mem_cons_of_mem _ hy)
    exact h1.app h2 (Int.le_refl _) (by omega)
/-! ### the law's messages -/
def bM : Nat → Nat
  | 0 => 8
  | d + 1 => 2 * (41 + 6 * (10 + bM d) + bM d)
structure NG (i : Bool) (d b : Nat) (x : Nd) : Prop where
  w0 : w0N i x
  dp : dpN x ≤ d
  sz : szN x ≤ b
  ok : allO (fmtN x)
  pw : PW (fmtN x) (4 * d + 2) 0
structure MG (i : Bool) (d b : Nat) (m : List Nd) : Prop where
  w0 : w0M i m
  dp : dpM m ≤ d
  sz : szM m ≤ b
  ok : allO (fmtM m)
  pw : PW (fmtM m) (4 * d + 2) 0
theorem MG_of {i : Bool} {d b : Nat} {m : List Nd} (hl : m.length ≤ 2) (h : ∀ x ∈ m, NG i d b x) : MG i d (2 * b) m :=
  ⟨w0M_of fun x hx => (h x hx).w0, dpM_le fun x hx => (h x hx).dp, Nat.le_trans (szM_le fun x hx => (h x hx).sz) (Nat.mul_le_mul_right b hl), allO_fmtM fun x hx => (h x hx).ok, PW_fmtM (by omega) fun x hx => (h x hx).pw⟩
theorem NG_g0 {i : Bool} {d b : Nat} {x : Nd} (h : g0 i x) (hb : 4 ≤ b) : NG i d b x := by
  rcases h with ⟨s, hs, rfl⟩ | ⟨n, hn, rfl⟩ | ⟨rfl, hi⟩
  · have h1 : ∀ s ∈ lits, (∀ c ∈ s, okC c) ∧ s.length ≤ 1 ∧ allO (fmtT s) ∧ ∀ c ∈ fmtT s, wt c = 0 := by decide
    obtain ⟨z1, z2, z3, z4⟩ := h1 s hs
    refine ⟨by unfold w0N; exact z1, by unfold dpN; omega, by unfold szN; omega, by unfold fmtN; exact z3, ?_⟩
    unfold fmtN
    exact (PW.zero z4).mono (by omega)
  · have h1 : ∀ n ∈ shws, okName n ∧ n.length = 1 ∧ allO (123 :: (n ++ [125])) ∧ ∀ c ∈ n, wt c = 0 := by decide
    obtain ⟨z1, z2, z3, z4⟩ := h1 n hn
    refine ⟨by unfold w0N; exact z1, by unfold dpN; omega, by unfold szN; omega, by unfold fmtN; exact z3, ?_⟩
    unfold fmtN
    have q1 : PW [123] 2 2 := PW.one (by decide) (by decide)
    have q2 : PW ([123] ++ n) 2 (2 + 0) := q1.app (PW.zero z4) (Int.le_refl _) (by decide)
    have q3 : PW (([123] ++ n) ++ [125]) 2 ((2 + 0) + -2) := q2.end_ (fun u t z => by
      rcases u with _ | ⟨c, u⟩
      · simp [wS]
      · injection z with z1 z2
        have : u = [] := by
          cases u with
          | nil => rfl
          | cons _ _ => cases z2
        subst this z1
        decide) (by decide)
    rw [List.append_assoc] at q3
    exact q3.mono (by omega)
  · refine ⟨by unfold w0N; exact hi, by unfold dpN; omega, by unfold szN; omega, by unfold fmtN; decide, ?_⟩
    unfold fmtN
    exact (PW.zero (by decide)).mono (by omega)
theorem key_facts {pl : Bool} {k : Ky} (h : k ∈ keysOf pl) : okK pl k ∧ (fmtK k).length ≤ 4 ∧ allO (fmtK k) ∧ ∀ c ∈ fmtK k, wt c = 0 := by
  cases pl with
  | true =>
    have e : ∀ j : Nat, j < 10 → fmtK (.ix j) = [61, 48 + j] := fun j hj => by
      show 61 :: TL.numL j = _
      rw [TL.numL_lt hj]
    have h' : k = .ix 0 ∨ k = .ix 1 ∨ k = .ix 3 ∨ k = .wd [111, 110, 101] ∨ k = .wd [102, 101, 119] ∨ k = .wd [109, 97, 110, 121] := by simpa [keysOf] using h
    rcases h' with rfl | rfl | rfl | rfl | rfl | rfl
    · rw [e 0 (by decide)]; exact ⟨⟨rfl, by decide⟩, by decide, by decide, by decide⟩
    · rw [e 1 (by decide)]; exact ⟨⟨rfl, by decide⟩, by decide, by decide, by decide⟩
    · rw [e 3 (by decide)]; exact ⟨⟨rfl, by decide⟩, by decide, by decide, by decide⟩
    · exact ⟨⟨by decide, by decide, by decide⟩, by decide, by decide, by decide⟩
    · exact ⟨⟨by decide, by decide, by decide⟩, by decide, by decide, by decide⟩
    · exact ⟨⟨by decide, by decide, by decide⟩, by decide, by decide, by decide⟩
  | false =>
    have h' : k = .wd [104, 101] ∨ k = .wd [115, 104, 101] := by simpa [keysOf] using h
    rcases h' with rfl | rfl
    · exact ⟨⟨by decide, by decide, by decide⟩, by decide, by decide, by decide⟩
    · exact ⟨⟨by decide, by decide, by decide⟩, by decide, by decide, by decide⟩
theorem keysOf_nodup (pl : Bool) : (keysOf pl).Nodup := by cases pl <;> decide
theorem allO_dec {l : List Nat} (h : decide (allO l) = true) : allO l := of_decide_eq_true h
theorem PW_fmtCs {n : Int} (hn : 0 ≤ n) : ∀ {cs : List (Ky × List Nd)}, (∀ q ∈ cs, (∀ c ∈ fmtK q.1, wt c = 0) ∧ PW (fmtM q.2) n 0) → PW (fmtCs cs) (n + 2) 0
  | [], _ => by
    unfold fmtCs
    exact (PW.zero (z := []) fun c hc => by cases hc).mono (by omega)
  | (k, m) :: r, h => by
    unfold fmtCs
    obtain ⟨h1, h2⟩ := h (k, m) (List.mem_cons_self ..)
    have h3 : PW (fmtCs r) (n + 2) 0 := PW_fmtCs hn fun y hy => h y (List.mem_cons_of_mem _ hy)
    have q1 : PW (fmtK k) 0 0 := PW.zero h1
    have q2 : PW ([32, 123] ++ fmtM m) (n + 2) (2 + 0) := by
      have z : PW ([32] ++ [123]) 2 (0 + 2) := (PW.zero (z := [32]) (by decide)).app (PW.one (c := 123) (e := 2) (by decide) (by decide)) (by decide) (by decide)
      exact z.app h2 (by omega) (by omega)
    have q3 : PW (([32, 123] ++ fmtM m) ++ [125, 32]) (n + 2) ((2 + 0) + -2) := q2.end_ (fun u t z => by
      rcases u with _ | ⟨c, u⟩
      · simp [wS]
      · injection z with z1 z2
        subst z1
        rcases u with _ | ⟨c, u⟩
        · decide
        · injection z2 with z1 z2
          have : u = [] := by
            cases u with
            | nil => rfl
            | cons _ _ => cases z2
          subst this z1
          decide) (by decide)
    have q4 : PW (fmtK k ++ ((([32, 123] ++ fmtM m) ++ [125, 32]) ++ fmtCs r)) (n + 2) (0 + (((2 + 0) + -2) + 0)) := q1.app (q3.app h3 (Int.le_refl _) (by omega)) (by omega) (by omega)
    rw [show (0 + (2 + 0 + -2 + 0) : Int) = 0 by decide] at q4
    simpa only [List.append_assoc] using q4
theorem allO_fmtCs : ∀ {cs : List (Ky × List Nd)}, (∀ q ∈ cs, allO (fmtK q.1) ∧ allO (fmtM q.2)) → allO (fmtCs cs)
  | [], _ => by unfold fmtCs; intro c hc; cases hc
  | (k, m) :: r, h => by
    unfold fmtCs
    obtain ⟨h1, h2⟩ := h (k, m) (List.mem_cons_self ..)
    exact allO_app h1 (allO_app (by decide) (allO_app h2 (allO_app (by decide) (allO_fmtCs fun y hy => h y (List.mem_cons_of_mem _ hy)))))
theorem fmtO_facts {pl : Bool} {off : Nat} (h : off ≤ 2) : allO (fmtO pl off) ∧ ∀ c ∈ fmtO pl off, wt c = 0 := by
  unfold fmtO
  split
  · have h' : off = 1 ∨ off = 2 := by omega
    rcases h' with rfl | rfl
    · rw [TL.numL_lt (by decide)]; decide
    · rw [TL.numL_lt (by decide)]; decide
  · exact ⟨by decide, by decide⟩
theorem NG_cho {i pl : Bool} {d b : Nat} {n : List Nat} {off : Nat} {cs : List (Ky × List Nd)} {ot : List Nd} (h1 : pl = true → n ∈ nums) (h2 : pl = false → n = [119] ∧ off = 0) (h3 : off ≤ 2) (h4 : (cs.map (·.1)).Sublist (keysOf pl))
    (h5 : ∀ q ∈ cs, MG (pl || i) d b q.2) (h6 : MG (pl || i) d b ot) : NG i (d + 1) (41 + 6 * (10 + b) + b) (.cho pl n off cs ot) := by
  have hn : okName n ∧ n.length = 1 ∧ allO n ∧ ∀ c ∈ n, wt c = 0 := by
    have z : ∀ n ∈ nums, okName n ∧ n.length = 1 ∧ allO n ∧ ∀ c ∈ n, wt c = 0 := by decide
    cases pl with
    | true => exact z n (h1 rfl)
    | false => rw [(h2 rfl).1]; decide
  have hk : ∀ q ∈ cs, q.1 ∈ keysOf pl := fun q hq => h4.subset (List.mem_map.mpr ⟨q, hq, rfl⟩)
  have hcl : cs.length ≤ 6 := by
    have z1 := h4.length_le
    rw [List.length_map] at z1
    have z2 : (keysOf pl).length ≤ 6 := by cases pl <;> decide
    omega
  obtain ⟨o1, o2⟩ := fmtO_facts (pl := pl) h3
  refine ⟨?_, ?_, ?_, ?_, ?_⟩
  · unfold w0N
    exact ⟨hn.1, by omega, fun z => (h2 z).2, w0C_of fun q hq => ⟨(key_facts (hk q hq)).1, (h5 q hq).w0⟩, (keysOf_nodup pl).sublist h4, h6.w0⟩
  · unfold dpN
    have z1 : dpC cs ≤ d := dpC_le fun q hq => (h5 q hq).dp
    have z2 := h6.dp
    omega
  · unfold szN
    have z1 : szC cs ≤ cs.length * (10 + b) := szC_le fun q hq => by
      have := (key_facts (hk q hq)).2.1
      have := (h5 q hq).sz
      omega
    have z2 : cs.length * (10 + b) ≤ 6 * (10 + b) := Nat.mul_le_mul_right _ hcl
    have z3 := h6.sz
    have z4 := hn.2.1
    omega
  · unfold fmtN
    refine allO_app (a := [123]) (by decide) (allO_app hn.2.2.1 (allO_app (by decide) (allO_app (by cases pl <;> decide) (allO_app (by decide) (allO_app o1 (allO_app (allO_fmtCs fun q hq => ⟨(key_facts (hk q hq)).2.2.1, (h5 q hq).ok⟩) (allO_app (by decide) (allO_app (by decide) (allO_app h6.ok (by decide))))))))))
  · unfold fmtN
    have p1 : PW ([32, 123] ++ fmtM ot) (4 * d + 2 + 2) (2 + 0) := by
      have z : PW ([32] ++ [123]) 2 (0 + 2) := (PW.zero (z := [32]) (by decide)).app (PW.one (c := 123) (e := 2) (by decide) (by decide)) (by decide) (by decide)
      exact z.app h6.pw (by omega) (by omega)
    have p2 : PW (fmtCs cs) (4 * d + 2 + 2) 0 := PW_fmtCs (by omega) fun q hq => ⟨(key_facts (hk q hq)).2.2.2, (h5 q hq).pw⟩
    have zk : ∀ c ∈ tKind pl, wt c = 0 := by cases pl <;> decide
    have z0 : PW [123] 2 2 := PW.one (by decide) (by decide)
    have a1 := z0.app (PW.zero hn.2.2.2) (Int.le_refl _) (by decide)
    have a2 := a1.app (PW.zero (z := [44, 32]) (by decide)) (Int.le_refl _) (by decide)
    have a3 := a2.app (PW.zero zk) (Int.le_refl _) (by decide)
    have a4 := a3.app (PW.zero (z := [44, 32]) (by decide)) (Int.le_refl _) (by decide)
    have a5 := a4.app (PW.zero o2) (Int.le_refl _) (by decide)
    have a6 := a5.app (k := 4 * d + 6) p2 (by omega) (by omega)
    have a7 := a6.app (PW.zero (z := tOth) (by decide)) (Int.le_refl _) (by omega)
    have a8 := a7.app p1 (Int.le_refl _) (by omega)
    have a9 := a8.end_ (z := [125, 125]) (f := -4) (fun u t z => by
      rcases u with _ | ⟨c, u⟩
      · simp [wS]
      · injection z with z1 z2
        subst z1
        rcases u with _ | ⟨c, u⟩
        · simp [wS]; decide
        · injection z2 with z1 z2
          have : u = [] := by
            cases u with
            | nil => rfl
            | cons _ _ => cases z2
          subst this z1
          simp [wS]; decide) (by decide)
    have e : (4 * ((d + 1 : Nat) : Int) + 2) = 4 * (d : Int) + 6 := by push_cast; omega
    rw [e]
    simpa using a9
theorem MG_gM : ∀ (d : Nat) (i : Bool) (m : List Nd), gM d i m → MG i d (bM d) m
  | 0, i, m, h => by
    rw [gM] at h
    exact MG_of (b := 4) h.1 fun x hx => NG_g0 (h.2 x hx) (Nat.le_refl _)
  | d + 1, i, m, h => by
    rw [gM] at h
    refine MG_of (b := 41 + 6 * (10 + bM d) + bM d) h.1 fun x hx => ?_
    rcases h.2 x hx with z | ⟨pl, n, off, cs, ot, rfl, h1, h2, h3, h4, h5, h6⟩
    · exact NG_g0 z (by omega)
    · exact NG_cho h1 h2 h3 h4 (fun q hq => MG_gM d _ _ (h5 q hq)) (MG_gM d _ _ h6)
end Mw

set_option Elab.async false
set_option linter.all false
set_option maxRecDepth 100000
set_option maxHeartbeats 1000000
/-! MwE2: messages with escaped signs; the deeds' bodies are read as they were written. -/
namespace Mw
open PySem PySem.Spec L2
open SX (S S_cat S_len S_inj)
/-- a node of a message with k texts put in -/
structure XG (x : Nd) : Prop where
  w0 : w0N false x
  dp : dpN x ≤ 2
  ok : allO (fmtN x)
  lo : ∀ u t, fmtN x = u ++ t → 0 ≤ wS u
  hi : ∀ u t, fmtN x = u ++ t → wS u ≤ 10
structure SG (k : Nat) (m : List Nd) : Prop where
  nd : ∀ x ∈ m, XG x
  sz : szM m ≤ 4598 + 13 * k
  wt : wS (fmtM m) ≤ 4 * k
/-! a message's facts, node by node -/
theorem XG_gX {d : Nat} {b : Nat} {x : Nd} (hd : d ≤ 2) (h : NG false d b x) : XG x :=
  ⟨h.w0, Nat.le_trans h.dp hd, h.ok, h.pw.lo, fun u t e => Int.le_trans (h.pw.hi u t e) (by omega)⟩
theorem NG_gM2 {m : List Nd} (h : gM 2 false m) : ∀ x ∈ m, NG false 2 2299 x := by
  rw [gM] at h
  intro x hx
  rcases h.2 x hx with z | ⟨pl, n, off, cs, ot, rfl, h1, h2, h3, h4, h5, h6⟩
  · exact NG_g0 z (by omega)
  · exact NG_cho h1 h2 h3 h4 (fun q hq => MG_gM 1 _ _ (h5 q hq)) (MG_gM 1 _ _ h6)
theorem exts_facts : ∀ s ∈ exts, (∀ c ∈ s, okC c) ∧ s.length ≤ 4 ∧ allO (fmtT s) ∧ wS (fmtT s) ≤ 4 ∧ ∀ j ≤ (fmtT s).length, 0 ≤ wS ((fmtT s).take j) ∧ wS ((fmtT s).take j) ≤ 10 := by decide +kernel
theorem XG_ext {s : List Nat} (h : s ∈ exts) : XG (.txt s) := by
  obtain ⟨h1, h2, h3, h4, h5⟩ := exts_facts s h
  have key : ∀ u t, fmtT s = u ++ t → 0 ≤ wS u ∧ wS u ≤ 10 := fun u t e => by
    have := h5 u.length (by rw [e, List.length_append]; omega)
    rwa [e, List.take_left] at this
  refine ⟨by unfold w0N; exact h1, by unfold dpN; omega, by unfold fmtN; exact h3, fun u t e => ?_, fun u t e => ?_⟩
  · unfold fmtN at e; exact (key u t e).1
  · unfold fmtN at e; exact (key u t e).2
theorem SG_sM : ∀ (k : Nat) (m : List Nd), sM k m → SG k m
  | 0, m, h => by
    rw [sM] at h
    have g := MG_gM 2 false m h
    refine ⟨fun x hx => XG_gX (by decide) (NG_gM2 h x hx), ?_, ?_⟩
    · have : bM 2 = 4598 := by decide
      have := g.sz
      omega
    · rw [g.pw.all]; omega
  | k + 1, m, h => by
    obtain ⟨m', i, s, h, hs, rfl⟩ := h
    have g := SG_sM k m' h
    obtain ⟨h1, h2, h3, h4, h5⟩ := exts_facts s hs
    have e1 : szM m' = szM (m'.take i) + szM (m'.drop i) := by rw [← szM_append, List.take_append_drop]
    have e2 : wS (fmtM m') = wS (fmtM (m'.take i)) + wS (fmtM (m'.drop i)) := by rw [← wS_append, ← fmtM_append, List.take_append_drop]
    refine ⟨fun x hx => ?_, ?_, ?_⟩
    · rcases List.mem_append.mp hx with hx | hx
      · rcases List.mem_append.mp hx with hx | hx
        · exact g.nd x (List.mem_of_mem_take hx)
        · have : x = Nd.txt s := by simpa using hx
          rw [this]; exact XG_ext hs
      · exact g.nd x (List.mem_of_mem_drop hx)
    · have := g.sz
      rw [szM_append, szM_append]
      have e3 : szM [Nd.txt s] = 1 + 3 * s.length := by simp [szM, szN]
      omega
    · have := g.wt
      rw [fmtM_append, fmtM_append, wS_append, wS_append]
      have e3 : fmtM [Nd.txt s] = fmtT s := by simp [fmtM, fmtN]
      rw [e3]
      push_cast
      omega
theorem tot_nn : ∀ {m : List Nd}, (∀ x ∈ m, XG x) → 0 ≤ wS (fmtM m)
  | [], _ => by simp [fmtM, wS]
  | x :: r, h => by
    have h1 := (h x (List.mem_cons_self ..)).lo (fmtN x) [] (by simp)
    have h2 : 0 ≤ wS (fmtM r) := tot_nn fun y hy => h y (List.mem_cons_of_mem _ hy)
    rw [fmtM, wS_append]; omega
theorem pre_all : ∀ {m : List Nd}, (∀ x ∈ m, XG x) → ∀ u t, fmtM m = u ++ t → 0 ≤ wS u ∧ wS u ≤ 10 + wS (fmtM m)
  | [], _, u, t, e => by
    rw [fmtM] at e
    have : u = [] := by
      cases u with
      | nil => rfl
      | cons _ _ => cases e
    subst this
    simp [wS, fmtM]
  | x :: r, h, u, t, e => by
    have hx := h x (List.mem_cons_self ..)
    have hr : ∀ y ∈ r, XG y := fun y hy => h y (List.mem_cons_of_mem _ hy)
    have q1 := hx.lo (fmtN x) [] (by simp)
    have q2 := tot_nn hr
    rw [fmtM] at e
    rw [fmtM, wS_append]
    rcases List.append_eq_append_iff.mp e with ⟨c, h3, h4⟩ | ⟨c, h3, h4⟩
    · subst h3
      have q3 := pre_all hr c t h4
      rw [wS_append]
      omega
    · have q4 := hx.lo u c h3
      have q5 := hx.hi u c h3
      omega
/-- what is true of a message that goes into a deed -/
structure TG (m : List Nd) : Prop where
  w0 : w0M false m
  dp : dpM m ≤ 2
  sz : szM m ≤ 4624
  ok : allO (fmtM m)
  seg : ∀ u t, fmtM m = u ++ t → 0 ≤ wS u ∧ wS u ≤ 18
theorem TG_sM {c : Nat} {m : List Nd} (hc : c ≤ 2) (h : sM c m) : TG m := by
  have g := SG_sM c m h
  refine ⟨w0M_of fun x hx => (g.nd x hx).w0, dpM_le fun x hx => (g.nd x hx).dp, ?_, allO_fmtM fun x hx => (g.nd x hx).ok, fun u t e => ?_⟩
  · have := g.sz; omega
  · have q := pre_all g.nd u t e
    have := g.wt
    omega
/-! ### the deeds -/
def tgD : Deed → Prop
  | .put k m => k ∈ keysD ∧ TG m
  | .drop k => k ∈ keysD
  | .undo => True
theorem tg_of {d : Deed} (h : gD d) : tgD d := by
  cases d with
  | put k m =>
    obtain ⟨h1, c, h2, h3⟩ := h
    exact ⟨h1, TG_sM h2 h3⟩
  | drop k => exact h
  | undo => trivial
theorem keysD_ok : ∀ k ∈ keysD, okName k ∧ ∀ c ∈ k, wt c = 0 := by decide
theorem tg_ok {d : Deed} (h : tgD d) : okD d := by
  cases d with
  | put k m =>
    obtain ⟨h1, h2⟩ := h
    have := (keysD_ok k h1).1.2.1
    exact ⟨by omega, by have := h2.dp; omega, by have := h2.sz; omega, w0_numM _ _ h2.w0⟩
  | drop k =>
    have := (keysD_ok k h).1.2.1
    show k.length ≤ 1000
    omega
  | undo => trivial
theorem tg_sm {d : Deed} (h : tgD d) : smD 3 d := by
  cases d with
  | put k m => exact ⟨by have := h.2.dp; omega, by have := h.2.sz; omega⟩
  | drop k => trivial
  | undo => trivial
theorem tg_len {m : List Nd} (h : TG m) : (fmtM m).length ≤ 4624 := Nat.le_trans (fmtM_len m (w0_numM _ _ h.w0)) h.sz
theorem msgO_tg {m : List Nd} (h : TG m) : msgO (fmtM m) = some (plainM m) := by
  rw [msgO_law h.ok]
  have := lM_fmt false m h.w0 [] [] (.inl rfl)
  rw [List.append_nil] at this
  rw [this]
  rfl
theorem deedP_tg {d : Deed} (h : tgD d) : deedP (bodyD d) = some (plD d) := by
  cases d with
  | undo => rfl
  | drop k =>
    have hk := (keysD_ok k h).1
    show deedP ([2] ++ k) = _
    unfold deedP
    rw [if_neg (by intro z; cases z), if_pos ⟨rfl, hk⟩]
    rfl
  | put k m =>
    obtain ⟨h1, h2⟩ := h
    have hk := (keysD_ok k h1).1
    show deedP ([1, k.length] ++ k ++ fmtM (plainM m)) = _
    rw [fmt_plain]
    have e1 : keyP ([1, k.length] ++ k ++ fmtM m) = k := by
      show (k ++ fmtM m).take k.length = k
      rw [List.take_left]
    have e2 : ([1, k.length] ++ k ++ fmtM m).getD 1 0 = k.length := rfl
    have e3 : ([1, k.length] ++ k ++ fmtM m).drop (2 + k.length) = fmtM m := by
      have : 2 + k.length = ([1, k.length] ++ k).length := by simp; omega
      rw [this, List.drop_left]
    unfold deedP
    rw [if_neg (by intro z; cases z), if_neg (by intro z; have := z.1; cases this), if_pos ⟨rfl, by simp⟩, e1, e2, if_pos ⟨hk, rfl⟩, e3, msgO_tg h2]
    rfl
theorem body_tg {d : Deed} (h : tgD d) : (bodyD d).length ≤ 4640 ∧ 1 ≤ (bodyD d).length := by
  cases d with
  | undo => exact ⟨by decide, by decide⟩
  | drop k =>
    have hk := (keysD_ok k h).1.2.1
    show ([2] ++ k).length ≤ 4640 ∧ 1 ≤ ([2] ++ k).length
    rw [List.length_append, List.length_singleton]; omega
  | put k m =>
    have hk := (keysD_ok k h.1).1.2.1
    have := tg_len h.2
    show ([1, k.length] ++ k ++ fmtM (plainM m)).length ≤ 4640 ∧ 1 ≤ ([1, k.length] ++ k ++ fmtM (plainM m)).length
    rw [fmt_plain, List.length_append, List.length_append]
    show 2 + _ + _ ≤ _ ∧ 1 ≤ 2 + _ + _
    omega
/-! ### a row of records is read whole -/
theorem recB_len (b : List Nat) : (recB b).length = b.length + 4 := by
  unfold recB
  rw [List.length_append, List.length_append]
  show 2 + _ + 2 = _
  omega
theorem readS_rec {f : List Nat → Option Deed} {a b r : List Nat} {d : Deed} (hb : b.length < 65536) (hf : f b = some d) : readS f (a ++ (recB b ++ r)) a.length = some (d, a.length + (recB b).length) := by
  have hdrop : (a ++ (recB b ++ r)).drop a.length = recB b ++ r := List.drop_left
  have g : ∀ j, (a ++ (recB b ++ r)).getD (a.length + j) 0 = (recB b ++ r).getD j 0 := fun j => by
    rw [List.getD_eq_getElem?_getD, List.getD_eq_getElem?_getD, List.getElem?_append_right (by omega)]
    congr 2; omega
  have g0 : (a ++ (recB b ++ r)).getD a.length 0 = b.length / 256 := by
    have := g 0
    rw [Nat.add_zero] at this
    rw [this]; rfl
  have g1 : (a ++ (recB b ++ r)).getD (a.length + 1) 0 = b.length % 256 := by rw [g 1]; rfl
  have hn : b.length / 256 * 256 + b.length % 256 = b.length := by omega
  have e1 : a.length + b.length / 256 * 256 + b.length % 256 = a.length + b.length := by omega
  have hbody : ((a ++ (recB b ++ r)).drop (a.length + 2)).take (b.length / 256 * 256 + b.length % 256) = b := by
    rw [hn, ← List.drop_drop, hdrop]
    show (b ++ [b.sum % 256, 170] ++ r).take b.length = b
    rw [List.append_assoc, List.take_left]
  have gs : (a ++ (recB b ++ r)).getD (a.length + b.length + 2) 0 = b.sum % 256 := by
    rw [Nat.add_assoc, g]
    show (b.length / 256 :: b.length % 256 :: (b ++ [b.sum % 256, 170] ++ r)).getD (b.length + 2) 0 = _
    rw [List.getD_eq_getElem?_getD]
    show ((b ++ [b.sum % 256, 170] ++ r)[b.length]?).getD 0 = _
    rw [List.append_assoc, List.getElem?_append_right (Nat.le_refl _), Nat.sub_self]; rfl
  have gm : (a ++ (recB b ++ r)).getD (a.length + b.length + 3) 0 = 170 := by
    rw [Nat.add_assoc, g]
    show (b.length / 256 :: b.length % 256 :: (b ++ [b.sum % 256, 170] ++ r)).getD (b.length + 3) 0 = _
    rw [List.getD_eq_getElem?_getD]
    show ((b ++ [b.sum % 256, 170] ++ r)[b.length + 1]?).getD 0 = _
    rw [List.append_assoc, List.getElem?_append_right (by omega), show b.length + 1 - b.length = 1 by omega]; rfl
  have hl : (a ++ (recB b ++ r)).length = a.length + (b.length + 4 + r.length) := by rw [List.length_append, List.length_append, recB_len]
  unfold readS
  rw [if_pos (by rw [hl]; omega), g0, g1, hbody, e1, gs, gm, if_neg (by rw [hl]; omega), if_neg (by simp), hf, recB_len]
  show some _ = some _
  congr 2
theorem readA_recs {f : List Nat → Option Deed} : ∀ (ds : List Deed) (es : List Deed) (a : List Nat) (n : Nat), ds.length < n → es.length = ds.length → (∀ p ∈ ds.zip es, (bodyD p.1).length < 65536 ∧ f (bodyD p.1) = some p.2) →
    readA f (a ++ ds.flatMap recD) n a.length = (es, (a ++ ds.flatMap recD).length)
  | [], es, a, n, hn, hes, _ => by
    obtain rfl : es = [] := List.eq_nil_of_length_eq_zero hes
    cases n with
    | zero => omega
    | succ n =>
      unfold readA
      have : readS f (a ++ List.flatMap recD []) a.length = none := by
        unfold readS
        rw [if_neg (by simp)]
      rw [this]
      simp
  | d :: r, [], a, n, hn, hes, _ => by cases hes
  | d :: r, e :: es, a, n, hn, hes, h => by
    cases n with
    | zero => omega
    | succ n =>
      obtain ⟨h1, h2⟩ := h (d, e) (List.mem_cons_self ..)
      have e1 : a ++ (d :: r).flatMap recD = a ++ (recB (bodyD d) ++ r.flatMap recD) := by rw [List.flatMap_cons]; rfl
      have e2 : a ++ (recB (bodyD d) ++ r.flatMap recD) = (a ++ recB (bodyD d)) ++ r.flatMap recD := by rw [List.append_assoc]
      rw [List.length_cons] at hn hes hes
      have ih := readA_recs r es (a ++ recB (bodyD d)) n (by omega) (by omega) (fun p hp => h p (List.mem_cons_of_mem _ hp))
      unfold readA
      rw [e1, readS_rec h1 h2]
      dsimp only
      rw [e2, ← List.length_append, ih]
theorem readP_recs {ds : List Deed} (h : ∀ d ∈ ds, tgD d) : readP deedP (ds.flatMap recD) = (ds.map plD, (ds.flatMap recD).length) := by
  have hl : ∀ ds : List Deed, ds.length ≤ (ds.flatMap recD).length := fun ds => by
    induction ds with
    | nil => simp
    | cons d r ih =>
      rw [List.flatMap_cons, List.length_append, List.length_cons]
      have : 4 ≤ (recD d).length := by
        show 4 ≤ (recB (bodyD d)).length
        rw [recB_len]; omega
      omega
  have := readA_recs (f := deedP) ds (ds.map plD) [] ((ds.flatMap recD).length + 1) (by have := hl ds; omega) (by simp) (fun p hp => by
    obtain ⟨d, hd, rfl⟩ : ∃ d ∈ ds, p = (d, plD d) := by
      have hz : ∀ ds : List Deed, ds.zip (ds.map plD) = ds.map fun d => (d, plD d) := fun ds => by
        induction ds with
        | nil => rfl
        | cons x r ih => rw [List.map_cons, List.zip_cons_cons, ih]; rfl
      rw [hz] at hp
      obtain ⟨d, hd, rfl⟩ := List.mem_map.mp hp
      exact ⟨d, hd, rfl⟩
    have := (body_tg (h d hd)).1
    exact ⟨by show (bodyD d).length < 65536; omega, deedP_tg (h d hd)⟩)
  simpa [readP] using this
end Mw

set_option Elab.async false
set_option linter.all false
set_option maxRecDepth 100000
set_option maxHeartbeats 1000000
/-! MwE3: the weights of rows of records, spoilt. -/
namespace Mw
open PySem PySem.Spec L2
open SX (S S_cat S_len S_inj)
/-- the weight of the first j -/
def PX (ns : List Nat) (j : Nat) : Int := wS (ns.take j)
theorem PX_zero (ns : List Nat) : PX ns 0 = 0 := by simp [PX, wS]
theorem PX_nil (j : Nat) : PX [] j = 0 := by simp [PX, wS]
theorem PX_full {ns : List Nat} {j : Nat} (h : ns.length ≤ j) : PX ns j = wS ns := by rw [PX, List.take_of_length_le h]
theorem PX_app (a b : List Nat) (j : Nat) : PX (a ++ b) j = PX a j + PX b (j - a.length) := by rw [PX, List.take_append, wS_append]; rfl
theorem PX_take (ns : List Nat) (k j : Nat) : PX (ns.take k) j = PX ns (min j k) := by rw [PX, List.take_take, PX]
theorem PX_drop (ns : List Nat) (k j : Nat) : PX (ns.drop k) j = PX ns (k + j) - PX ns k := by
  have : ns.take (k + j) = ns.take k ++ (ns.drop k).take j := by rw [List.take_add]
  rw [PX, PX, this, wS_append, PX]; omega
theorem PX_one (o : Nat) (j : Nat) (h : 1 ≤ j) : PX [o] j = wt o := by rw [PX_full (by simpa using h)]; simp [wS]
theorem wt_hi (c : Nat) : wt c ≤ 2 := by unfold wt; split; omega; split; omega; split; omega; split <;> omega
theorem wt_lo (c : Nat) : -26 ≤ wt c := by unfold wt; split; omega; split; omega; split; omega; split <;> omega
theorem PX_step (ns : List Nat) (k : Nat) : PX ns (k + 1) - PX ns k ≤ 2 ∧ -26 ≤ PX ns (k + 1) - PX ns k := by
  by_cases h : k < ns.length
  · have e : ns.take (k + 1) = ns.take k ++ [ns[k]] := by rw [List.take_add_one, List.getElem?_eq_getElem h]; rfl
    have h1 := wt_hi ns[k]
    have h2 := wt_lo ns[k]
    have e2 : PX ns (k + 1) = PX ns k + wt ns[k] := by rw [PX, e, wS_append, PX]; simp [wS]
    omega
  · rw [PX_full (j := k) (by omega), PX_full (j := k + 1) (by omega)]; omega
/-- no segment weighs more than B; what stands at the end, at most B - 26 -/
structure Inv' (B : Int) (ns : List Nat) : Prop where
  seg : ∀ i j, i ≤ j → PX ns j - PX ns i ≤ B
  suf : ∀ i, wS ns - PX ns i ≤ B - 26
theorem Inv'.dep {B : Int} {ns : List Nat} (h : Inv' B ns) : SegDep ns B := fun i u t e => by
  have : u = (ns.drop i).take u.length := by rw [e, List.take_left]
  have q := h.seg i (i + u.length) (by omega)
  have z := PX_drop ns i u.length
  rw [PX, ← this] at z
  omega
theorem Inv'.mono {B C : Int} {ns : List Nat} (h : Inv' B ns) (k : B ≤ C) : Inv' C ns := ⟨fun i j hij => Int.le_trans (h.seg i j hij) k, fun i => by have := h.suf i; omega⟩
theorem Inv'.nil : Inv' 26 [] := ⟨fun i j _ => by rw [PX_nil, PX_nil]; decide, fun i => by rw [PX_nil]; decide⟩
/-- a record, by its weights -/
structure RecW (R : List Nat) : Prop where
  seg : ∀ i j, i ≤ j → PX R j - PX R i ≤ 24
  suf : ∀ i, wS R - PX R i ≤ 0
theorem Inv'.app {B : Int} {a R : List Nat} (h : Inv' B a) (r : RecW R) (hB : 26 ≤ B) : Inv' B (a ++ R) := by
  have hall : wS R ≤ 0 := by have := r.suf 0; rw [PX_zero] at this; omega
  refine ⟨fun i j hij => ?_, fun i => ?_⟩
  · rw [PX_app, PX_app]
    by_cases h1 : i ≤ a.length
    · by_cases h2 : j ≤ a.length
      · have := h.seg i j hij
        rw [show j - a.length = 0 by omega, show i - a.length = 0 by omega]; omega
      · have q1 := h.suf i
        have q2 := r.seg 0 (j - a.length) (by omega)
        rw [PX_zero] at q2
        rw [PX_full (ns := a) (j := j) (by omega), show i - a.length = 0 by omega, PX_zero]; omega
    · have q1 := r.seg (i - a.length) (j - a.length) (by omega)
      rw [PX_full (ns := a) (j := j) (by omega), PX_full (ns := a) (j := i) (by omega)]; omega
  · rw [PX_app, wS_append]
    by_cases h1 : i ≤ a.length
    · have q1 := h.suf i
      rw [show i - a.length = 0 by omega, PX_zero]; omega
    · have q1 := r.suf (i - a.length)
      rw [PX_full (ns := a) (j := i) (by omega)]; omega
theorem recW_of {b : List Nat} (h : ∀ i j, i ≤ j → PX b j - PX b i ≤ 18) : RecW (recB b) := by
  have e : recB b = [b.length / 256] ++ ([b.length % 256] ++ (b ++ ([b.sum % 256] ++ [170]))) := by unfold recB; simp
  have w1 : ∀ o : Nat, ∀ i, PX [o] i = if i = 0 then 0 else wt o := fun o i => by
    split
    · next z => rw [z, PX_zero]
    · next z => rw [PX_one _ _ (by omega)]
  have h170 : wt 170 = -26 := by decide
  have k1 := wt_hi (b.length / 256)
  have k2 := wt_hi (b.length % 256)
  have k3 := wt_hi (b.sum % 256)
  have key : ∀ i, PX (recB b) i = (if i = 0 then 0 else wt (b.length / 256)) + ((if i - 1 = 0 then 0 else wt (b.length % 256)) + (PX b (i - 1 - 1) + ((if i - 1 - 1 - b.length = 0 then 0 else wt (b.sum % 256)) + (if i - 1 - 1 - b.length - 1 = 0 then 0 else -26)))) := fun i => by
    rw [e, PX_app, PX_app, PX_app, PX_app, w1, w1, w1, w1, h170]; rfl
  have all : wS (recB b) = wt (b.length / 256) + (wt (b.length % 256) + (wS b + (wt (b.sum % 256) + -26))) := by
    rw [e, wS_append, wS_append, wS_append, wS_append]
    simp [wS, h170]
  have hb : ∀ i, b.length ≤ i → PX b i = wS b := fun i hi => PX_full hi
  refine ⟨fun i j hij => ?_, fun i => ?_⟩
  · rw [key, key]
    have q := h (i - 1 - 1) (j - 1 - 1) (by omega)
    split <;> split <;> split <;> split <;> split <;> split <;> split <;> split <;> omega
  · rw [key, all]
    by_cases z : i - 1 - 1 - b.length - 1 = 0
    · have q := h (i - 1 - 1) (i - 1 - 1 + b.length) (by omega)
      rw [hb (i - 1 - 1 + b.length) (by omega)] at q
      rw [if_pos z]
      split <;> split <;> split <;> omega
    · rw [if_neg z, hb (i - 1 - 1) (by omega)]
      split <;> split <;> split <;> omega
theorem seg_of_pre {b : List Nat} {n : Int} (h : ∀ u t, b = u ++ t → 0 ≤ wS u ∧ wS u ≤ n) : ∀ i j, i ≤ j → PX b j - PX b i ≤ n := fun i j _ => by
  have q1 := (h (b.take j) (b.drop j) (List.take_append_drop j b).symm).2
  have q2 := (h (b.take i) (b.drop i) (List.take_append_drop i b).symm).1
  show wS (b.take j) - wS (b.take i) ≤ n
  omega
theorem recW_tg {d : Deed} (h : tgD d) : RecW (recD d) := by
  refine recW_of (seg_of_pre fun u t e => ?_)
  have zero : ∀ z : List Nat, (∀ c ∈ z, wt c = 0) → ∀ u t, z = u ++ t → 0 ≤ wS u ∧ wS u ≤ 18 := fun z hz u t e => by
    have := wS_zero (u := u) fun c hc => hz c (by rw [e]; exact List.mem_append_left _ hc)
    omega
  cases d with
  | undo => exact zero [3] (by decide) u t e
  | drop k =>
    have hk := (keysD_ok k h).2
    refine zero ([2] ++ k) (fun c hc => ?_) u t e
    rcases List.mem_append.mp hc with z | z
    · have : c = 2 := by simpa using z
      rw [this]; decide
    · exact hk c z
  | put k m =>
    obtain ⟨h1, h2⟩ := h
    obtain ⟨hk1, hk2⟩ := keysD_ok k h1
    have e' : ([1, k.length] ++ k) ++ fmtM m = u ++ t := by rw [← fmt_plain m]; exact e
    have hz : ∀ c ∈ [1, k.length] ++ k, wt c = 0 := fun c hc => by
      rcases List.mem_append.mp hc with z | z
      · have h3 : c = 1 ∨ c = k.length := by simpa using z
        rcases h3 with rfl | rfl
        · decide
        · have : k.length ≤ 8 := hk1.2.1
          generalize k.length = n at this
          have : ∀ n ≤ 8, wt n = 0 := by decide
          exact this _ ‹_›
      · exact hk2 c z
    rcases List.append_eq_append_iff.mp e' with ⟨c, h3, h4⟩ | ⟨c, h3, h4⟩
    · subst h3
      have := h2.seg c t h4
      rw [wS_append, wS_zero hz]; omega
    · exact zero _ hz u c h3
/-- the sum of what is put on -/
def wP (b : List Nat) : Int := (b.map fun c => max (wt c) 0).sum
theorem wP_append (a b : List Nat) : wP (a ++ b) = wP a + wP b := by simp [wP]
theorem wP_nn : ∀ b : List Nat, 0 ≤ wP b
  | [] => by simp [wP]
  | c :: r => by
    have := wP_nn r
    have e : wP (c :: r) = max (wt c) 0 + wP r := by simp [wP]
    omega
theorem wS_wP : ∀ b : List Nat, wS b ≤ wP b
  | [] => by simp [wP, wS]
  | c :: r => by
    have := wS_wP r
    have e : wP (c :: r) = max (wt c) 0 + wP r := by simp [wP]
    have e2 : wS (c :: r) = wt c + wS r := rfl
    omega
theorem hand_wP : ∀ b ∈ handB, wP b ≤ 18 := by decide +kernel
theorem recW_hand {b : List Nat} (h : b ∈ handB) : RecW (recB b) := by
  refine recW_of fun i j hij => ?_
  have e : b.take j = b.take i ++ (b.drop i).take (j - i) := by
    have : j = i + (j - i) := by omega
    conv => lhs; rw [this]
    rw [List.take_add]
  have q1 := wS_wP ((b.drop i).take (j - i))
  have q2 := wP_nn (b.take i)
  have q3 := wP_nn (b.drop j)
  have q4 : wP b = wP (b.take j) + wP (b.drop j) := by rw [← wP_append, List.take_append_drop]
  have q5 : wP (b.take j) = wP (b.take i) + wP ((b.drop i).take (j - i)) := by rw [e, wP_append]
  have q6 : PX b j = PX b i + wS ((b.drop i).take (j - i)) := by rw [PX, e, wS_append]; rfl
  have := hand_wP b h
  omega
theorem Inv'.spoil {B : Int} {ns ms : List Nat} (h : Inv' B ns) (hB : 26 ≤ B) (s : spoils ns ms) : Inv' (B + 28) ms := by
  rcases s with ⟨k, o, hk, _, rfl | rfl | rfl | rfl⟩ | ⟨b, hb, rfl⟩
  · -- an octet put in
    have w1 := wt_hi o
    have hl : (ns.take k).length = k := by rw [List.length_take]; omega
    have P' : ∀ j, PX (ns.take k ++ [o] ++ ns.drop k) j = if j ≤ k then PX ns j else PX ns (j - 1) + wt o := fun j => by
      rw [List.append_assoc, PX_app, PX_app, PX_take, PX_drop, hl]
      split
      · next z => rw [show min j k = j by omega, show j - k = 0 by omega, PX_zero]; simp
      · next z =>
        rw [show min j k = k by omega, PX_one _ _ (by omega), show k + (j - k - [o].length) = j - 1 by simp; omega]; omega
    have all : wS (ns.take k ++ [o] ++ ns.drop k) = wS ns + wt o := by
      have e : wS ns = wS (ns.take k) + wS (ns.drop k) := by rw [← wS_append, List.take_append_drop]
      have e1 : wS [o] = wt o := by simp [wS]
      rw [wS_append, wS_append]; omega
    refine ⟨fun i j hij => ?_, fun i => ?_⟩
    · rw [P', P']
      split <;> split
      · have := h.seg i j hij; omega
      · omega
      · next z1 z2 => have := h.seg i (j - 1) (by omega); omega
      · have := h.seg (i - 1) (j - 1) (by omega); omega
    · rw [P', all]
      split
      · have := h.suf i; omega
      · have := h.suf (i - 1); omega
  · -- an octet left out
    have hl : (ns.take k).length = k := by rw [List.length_take]; omega
    have st := PX_step ns k
    have P' : ∀ j, PX (ns.take k ++ ns.drop (k + 1)) j = if j ≤ k then PX ns j else PX ns (j + 1) - (PX ns (k + 1) - PX ns k) := fun j => by
      rw [PX_app, PX_take, PX_drop, hl]
      split
      · next z => rw [show min j k = j by omega, show j - k = 0 by omega, Nat.add_zero]; omega
      · next z => rw [show min j k = k by omega, show k + 1 + (j - k) = j + 1 by omega]; omega
    have all : wS (ns.take k ++ ns.drop (k + 1)) = wS ns - (PX ns (k + 1) - PX ns k) := by
      have e : wS ns = wS (ns.take (k + 1)) + wS (ns.drop (k + 1)) := by rw [← wS_append, List.take_append_drop]
      rw [wS_append]
      show PX ns k + _ = _
      have : PX ns (k + 1) = wS (ns.take (k + 1)) := rfl
      omega
    refine ⟨fun i j hij => ?_, fun i => ?_⟩
    · rw [P', P']
      split <;> split
      · have := h.seg i j hij; omega
      · omega
      · next z1 z2 => have := h.seg i (j + 1) (by omega); omega
      · have := h.seg (i + 1) (j + 1) (by omega); omega
    · rw [P', all]
      split
      · have := h.suf i; omega
      · have := h.suf (i + 1); omega
  · -- cut off
    refine ⟨fun i j hij => ?_, fun i => ?_⟩
    · rw [PX_take, PX_take]
      have := h.seg (min i k) (min j k) (by omega)
      omega
    · rw [PX_take]
      have := h.seg (min i k) k (by omega)
      show PX ns k - _ ≤ _
      omega
  · -- an octet set
    have w1 := wt_hi o
    have hl : (ns.take k).length = k := by rw [List.length_take]; omega
    have st := PX_step ns k
    have P' : ∀ j, PX (ns.take k ++ [o] ++ ns.drop (k + 1)) j = if j ≤ k then PX ns j else PX ns j - (PX ns (k + 1) - PX ns k) + wt o := fun j => by
      rw [List.append_assoc, PX_app, PX_app, PX_take, PX_drop, hl]
      split
      · next z => rw [show min j k = j by omega, show j - k = 0 by omega, PX_zero]; simp
      · next z =>
        rw [show min j k = k by omega, PX_one _ _ (by omega), show k + 1 + (j - k - [o].length) = j by simp; omega]; omega
    have all : wS (ns.take k ++ [o] ++ ns.drop (k + 1)) = wS ns - (PX ns (k + 1) - PX ns k) + wt o := by
      have e : wS ns = wS (ns.take (k + 1)) + wS (ns.drop (k + 1)) := by rw [← wS_append, List.take_append_drop]
      have e1 : wS [o] = wt o := by simp [wS]
      rw [wS_append, wS_append]
      show PX ns k + _ + _ = _
      have : PX ns (k + 1) = wS (ns.take (k + 1)) := rfl
      omega
    refine ⟨fun i j hij => ?_, fun i => ?_⟩
    · rw [P', P']
      split <;> split
      · have := h.seg i j hij; omega
      · omega
      · next z1 z2 => have := h.seg i j (by omega); omega
      · have := h.seg i j (by omega); omega
    · rw [P', all]
      split
      · have := h.suf i; omega
      · have := h.suf i; omega
  · exact (h.app (recW_hand hb) hB).mono (by omega)
theorem spoil_len {ns ms : List Nat} (s : spoils ns ms) : ms.length ≤ ns.length + 100 := by
  rcases s with ⟨k, o, hk, _, rfl | rfl | rfl | rfl⟩ | ⟨b, hb, rfl⟩
  · rw [List.length_append, List.length_append, List.length_take, List.length_drop]; simp; omega
  · rw [List.length_append, List.length_take, List.length_drop]; omega
  · rw [List.length_take]; omega
  · rw [List.length_append, List.length_append, List.length_take, List.length_drop]; simp; omega
  · rw [List.length_append]
    have := handB_len b hb
    omega
end Mw

set_option Elab.async false
set_option linter.all false
set_option maxRecDepth 100000
set_option maxHeartbeats 1000000
/-! MwE4: how long what is shown can get. -/
namespace Mw
open PySem PySem.Spec L2
open SX (S S_cat S_len S_inj)
/-! ### data that is small: ints from 0 on, signs -/
def rz : PyData → Nat
  | .none => 4
  | .bool _ => 5
  | .int _ => 12
  | .str x => 10 * x.length + 2
  | .list xs => 3 + rzA xs
  | .tuple xs => 3 + rzA xs
  | .dict _ => 0
where rzA : List PyData → Nat
  | [] => 0
  | x :: r => rz x + 2 + rzA r
abbrev rzA := rz.rzA
def fine : PyData → Prop
  | .none => True
  | .bool _ => True
  | .int i => ∃ n : Nat, i = n ∧ n < 10 ^ 10
  | .str x => ∀ c ∈ x.cps.toList, c < 16 ^ 8
  | .list xs => fineA xs
  | .tuple xs => fineA xs
  | .dict _ => False
where fineA : List PyData → Prop
  | [] => True
  | x :: r => fine x ∧ fineA r
abbrev fineA := fine.fineA
theorem rzA_append : ∀ a b : List PyData, rzA (a ++ b) = rzA a + rzA b
  | [], b => by simp [rzA, rz.rzA]
  | x :: r, b => by
    have := rzA_append r b
    show rz x + 2 + rzA (r ++ b) = rz x + 2 + rzA r + rzA b
    omega
theorem fineA_append : ∀ a b : List PyData, fineA a → fineA b → fineA (a ++ b)
  | [], _, _, h => h
  | _ :: r, b, h, g => ⟨h.1, fineA_append r b h.2 g⟩
theorem text_len : ∀ (ts : List Str) (k : Nat) (acc : Str), (textFrom k acc ts).length ≤ acc.length + (ts.map fun t => t.length + 2).sum
  | [], k, acc => by simp [textFrom]
  | t :: r, k, acc => by
    have ih := text_len r (k + 1) (acc ++ (if k > 0 then ", " else "" : String) ++ t)
    have e : ((if k > 0 then ", " else "" : String) : Str).length ≤ 2 := by split <;> decide
    rw [strLen_append, strLen_append] at ih
    show (textFrom (k + 1) _ r).length ≤ _
    rw [List.map_cons, List.sum_cons]
    omega
theorem listText_len (ts : List Str) : (listText ts).length ≤ 2 + (ts.map fun t => t.length + 2).sum := by
  unfold listText
  rw [strLen_append]
  have h1 := text_len ts 0 "["
  have e1 : (("[" : String) : Str).length = 1 := rfl
  have e2 : (("]" : String) : Str).length = 1 := rfl
  omega
theorem tupleText_len (ts : List Str) : (tupleText ts).length ≤ 3 + (ts.map fun t => t.length + 2).sum := by
  unfold tupleText
  rw [strLen_append, strLen_append]
  have e1 : (("(" : String) : Str).length = 1 := rfl
  have e3 : (((if ts.length == 1 then ",)" else ")" : String) : Str)).length ≤ 2 := by split <;> decide
  by_cases h : ts = []
  · subst h
    have e2 : (Str.join ", " ([] : List Str)).length = 0 := rfl
    omega
  · have q : (Str.join ", " ts).length + 2 = (ts.map fun t => t.length + 2).sum := join_length_add ts h
    omega
theorem log2_small {n : Nat} (h : n < 10 ^ 10) : ((n : Nat) : Int).natAbs.log2 < 1920 := by
  have e : ((n : Nat) : Int).natAbs = n := by omega
  rw [e]
  by_cases z : n = 0
  · subst z; decide
  · have : n.log2 < 40 := (Nat.log2_lt z).mpr (by omega)
    omega
mutual
theorem fine_shown : ∀ d : PyData, fine d → d.showable = true ∧ d.shown.length ≤ rz d
  | .none, _ => ⟨by simp only [PyData.showable], by simp only [PyData.shown, rz]; decide⟩
  | .bool b, _ => ⟨by simp only [PyData.showable], by simp only [PyData.shown, rz]; cases b <;> decide⟩
  | .int i, h => by
    obtain ⟨n, rfl, hn⟩ := h
    refine ⟨by simp only [PyData.showable]; exact decide_eq_true (log2_small hn), ?_⟩
    simp only [PyData.shown, rz]
    show (Str.ofString (toString ((n : Nat) : Int))).length ≤ 12
    rw [SX.num_S, S_len]
    have := TL.numL_len (k := 10) (by decide) hn
    omega
  | .str x, h => ⟨by simp only [PyData.showable], by simp only [PyData.shown, rz]; exact StrLaws.reprText_len x h⟩
  | .list xs, h => by
    obtain ⟨h1, h2⟩ := fine_shownA xs h
    refine ⟨by simp only [PyData.showable]; exact h1, ?_⟩
    simp only [PyData.shown, rz]
    have := listText_len (PyData.shownAll xs)
    show _ ≤ 3 + rzA xs
    omega
  | .tuple xs, h => by
    obtain ⟨h1, h2⟩ := fine_shownA xs h
    refine ⟨by simp only [PyData.showable]; exact h1, ?_⟩
    simp only [PyData.shown, rz]
    have := tupleText_len (PyData.shownAll xs)
    show _ ≤ 3 + rzA xs
    omega
  | .dict _, h => h.elim
theorem fine_shownA : ∀ xs : List PyData, fineA xs → PyData.showableAll xs = true ∧ ((PyData.shownAll xs).map fun t => t.length + 2).sum ≤ rzA xs
  | [], _ => ⟨by simp only [PyData.showableAll], by simp [PyData.shownAll]⟩
  | x :: r, h => by
    obtain ⟨h1, h2⟩ := fine_shown x h.1
    obtain ⟨h3, h4⟩ := fine_shownA r h.2
    refine ⟨by simp only [PyData.showableAll, h1, h3, Bool.and_self], ?_⟩
    simp only [PyData.shownAll, List.map_cons, List.sum_cons]
    show _ ≤ rz x + 2 + rzA r
    omega
end
/-! ### messages -/
mutual
def zzN : Nd → Nat
  | .txt s => 53 + 10 * s.length
  | .shw n => 53 + 10 * n.length
  | .num => 69
  | .cho _ n _ cs ot => 99 + 10 * n.length + zzC cs + zzM ot
def zzM : List Nd → Nat
  | [] => 0
  | x :: r => zzN x + zzM r
def zzC : List (Ky × List Nd) → Nat
  | [] => 0
  | (k, m) :: r => 24 + 10 * (fmtK k).length + zzM m + zzC r
end
theorem zzM_append : ∀ a b : List Nd, zzM (a ++ b) = zzM a + zzM b
  | [], b => by simp [zzM]
  | x :: r, b => by simp [zzM, zzM_append r b]; omega
theorem zzM_push (acc : List Nd) (x : Nd) : zzM (pushN acc x) ≤ zzM acc + zzN x := by
  cases x with
  | txt s =>
    by_cases h : ∃ b t, acc = b ++ [.txt t]
    · obtain ⟨b, t, rfl⟩ := h
      rw [pushN_merge, zzM_append, zzM_append]
      simp [zzM, zzN]; omega
    · rw [pushN_new acc s (fun b t z => h ⟨b, t, z⟩)]
      split
      · omega
      · rw [zzM_append]; simp [zzM]
  | shw n => rw [pushN_other _ _ rfl, zzM_append]; simp [zzM]
  | num => rw [pushN_other _ _ rfl, zzM_append]; simp [zzM]
  | cho pl n off cs ot => rw [pushN_other _ _ rfl, zzM_append]; simp [zzM]
mutual
theorem zzN_plain : ∀ x : Nd, zzN (plainN x) ≤ zzN x
  | .txt s => by simp [plainN]
  | .shw n => by simp [plainN]
  | .num => by simp [plainN]
  | .cho pl n off cs ot => by
    have h1 := zzC_plain cs
    have h2 := zzA_plain ot []
    simp [plainN, zzN, zzM] at h2 ⊢; omega
theorem zzA_plain : ∀ (m acc : List Nd), zzM (plainA acc m) ≤ zzM acc + zzM m
  | [], acc => by simp [plainA, zzM]
  | x :: r, acc => by
    have h1 := zzN_plain x
    have h2 := zzM_push acc (plainN x)
    have h3 := zzA_plain r (pushN acc (plainN x))
    simp [plainA, zzM]; omega
theorem zzC_plain : ∀ cs : List (Ky × List Nd), zzC (plainC cs) ≤ zzC cs
  | [] => by simp [plainC]
  | (k, m) :: r => by
    have h1 := zzA_plain m []
    have h2 := zzC_plain r
    simp [plainC, zzC, zzM] at h1 ⊢; omega
end
theorem zzM_plain (m : List Nd) : zzM (plainM m) ≤ zzM m := by
  have := zzA_plain m []
  simp [zzM] at this
  exact this
theorem fmtT_ge : ∀ s : List Nat, s.length ≤ (fmtT s).length
  | [] => by simp [fmtT]
  | c :: r => by
    have := fmtT_ge r
    have e : fmtT (c :: r) = fmtC c ++ fmtT r := by simp [fmtT]
    have h1 : 1 ≤ (fmtC c).length := by unfold fmtC; split; decide; split <;> simp
    rw [e, List.length_append, List.length_cons]; omega
mutual
theorem zzN_fmt : ∀ (i : Bool) (x : Nd), wfN i x → zzN x ≤ 69 * (fmtN x).length
  | _, .txt s, h => by
    have h' : s ≠ [] := h.1
    have := fmtT_ge s
    have := List.length_pos_iff.mpr h'
    simp only [zzN, fmtN]; omega
  | _, .shw n, _ => by simp only [zzN, fmtN, List.length_cons, List.length_append, List.length_nil]; omega
  | _, .num, _ => by simp [zzN, fmtN]
  | i, .cho pl n off cs ot, h => by
    unfold wfN at h
    have h1 := zzC_fmt _ _ cs h.2.2.2.1
    have h2 := zzM_fmt _ ot h.2.2.2.2.2
    simp only [zzN, fmtN, List.length_cons, List.length_append, List.length_nil]
    omega
theorem zzM_fmt : ∀ (i : Bool) (m : List Nd), wfM i m → zzM m ≤ 69 * (fmtM m).length
  | _, [], _ => by simp [zzM]
  | i, x :: r, h => by
    unfold wfM at h
    have h1 := zzN_fmt i x h.1
    have h2 := zzM_fmt i r h.2
    simp only [zzM, fmtM, List.length_append]; omega
theorem zzC_fmt : ∀ (i pl : Bool) (cs : List (Ky × List Nd)), wfC i pl cs → zzC cs ≤ 69 * (fmtCs cs).length
  | _, _, [], _ => by simp [zzC]
  | i, pl, (k, m) :: r, h => by
    unfold wfC at h
    have h1 := zzM_fmt i m h.2.1
    have h2 := zzC_fmt i pl r h.2.2
    simp only [zzC, fmtCs, List.length_append, List.length_cons, List.length_nil]; omega
end
theorem rz_key (k : Ky) : rz (encK k) ≤ 12 + 10 * (fmtK k).length := by
  cases k with
  | ix i => simp only [encK, rz]; omega
  | wd w => simp only [encK, rz, S_len, fmtK]; omega
mutual
theorem rz_N : ∀ x : Nd, rz (encN x) + 2 ≤ zzN x
  | .txt s => by simp only [encN, rz, rz.rzA, zzN, S_len, List.length_cons, List.length_nil]; omega
  | .shw n => by simp only [encN, rz, rz.rzA, zzN, S_len, List.length_cons, List.length_nil]; omega
  | .num => by simp only [encN, rz, rz.rzA, zzN, S_len, List.length_cons, List.length_nil]; omega
  | .cho false n off cs ot => by
    have h1 := rz_C cs
    have h2 := rz_M ot
    simp only [encN, rz, rz.rzA, zzN, S_len, List.length_cons, List.length_nil]
    omega
  | .cho true n off cs ot => by
    have h1 := rz_C cs
    have h2 := rz_M ot
    simp only [encN, rz, rz.rzA, zzN, S_len, List.length_cons, List.length_nil]
    omega
theorem rz_M : ∀ m : List Nd, rz.rzA (encM m) ≤ zzM m
  | [] => by simp only [encM, rz.rzA, zzM]; omega
  | x :: r => by
    have h1 := rz_N x
    have h2 := rz_M r
    simp only [encM, rz.rzA, zzM]; omega
theorem rz_C : ∀ cs : List (Ky × List Nd), rz.rzA (encC cs) ≤ zzC cs
  | [] => by simp only [encC, rz.rzA, zzC]; omega
  | (k, m) :: r => by
    have h1 := rz_M m
    have h2 := rz_C r
    have h3 := rz_key k
    simp only [encC, rz, rz.rzA, zzC]; omega
end
theorem fine_S {s : List Nat} (h : ∀ c ∈ s, okO c) : fine (.str (S s)) := fun c hc => by
  have e : (S s).cps.toList = s := by simp [S]
  rw [e] at hc
  have := h c hc
  unfold okO at this
  omega
theorem mem_fmtT {c : Nat} : ∀ {s : List Nat}, c ∈ s → c ∈ fmtT s
  | d :: r, h => by
    have e : fmtT (d :: r) = fmtC d ++ fmtT r := by simp [fmtT]
    rw [e]
    rcases List.mem_cons.mp h with rfl | h
    · refine List.mem_append_left _ ?_
      unfold fmtC
      split
      · next z => subst z; simp
      · split <;> simp
    · exact List.mem_append_right _ (mem_fmtT h)
theorem allO_left {a b : List Nat} (h : allO (a ++ b)) : allO a := fun c hc => h c (List.mem_append_left _ hc)
theorem allO_right {a b : List Nat} (h : allO (a ++ b)) : allO b := fun c hc => h c (List.mem_append_right _ hc)
theorem fine_nat {n : Nat} (h : n < 10 ^ 10) : fine (.int (n : Nat)) := ⟨n, rfl, h⟩
mutual
theorem fine_N : ∀ x : Nd, numN x → allO (fmtN x) → fine (encN x)
  | .txt s, _, h => by
    unfold fmtN at h
    unfold encN
    exact ⟨fine_S (by decide), fine_S fun c hc => h c (mem_fmtT hc), trivial⟩
  | .shw n, _, h => by
    unfold fmtN at h
    unfold encN
    exact ⟨fine_S (by decide), fine_S (allO_left (allO_right (a := [123]) h)), trivial⟩
  | .num, _, _ => by
    unfold encN
    exact ⟨fine_S (by decide), trivial⟩
  | .cho false n off cs ot, hn, h => by
    unfold fmtN at h
    unfold numN at hn
    unfold encN
    have h1 := allO_right (a := [123]) h
    have h2 := allO_right (allO_right (allO_right (allO_right (allO_right h1))))
    exact ⟨fine_S (by decide), fine_S (allO_left h1), fine_C cs hn.2.1 (allO_left h2), fine_M ot hn.2.2 (allO_left (allO_right (allO_right (allO_right h2)))), trivial⟩
  | .cho true n off cs ot, hn, h => by
    unfold fmtN at h
    unfold numN at hn
    unfold encN
    have h1 := allO_right (a := [123]) h
    have h2 := allO_right (allO_right (allO_right (allO_right (allO_right h1))))
    exact ⟨fine_S (by decide), fine_S (allO_left h1), fine_nat (by have := hn.1; omega), fine_C cs hn.2.1 (allO_left h2), fine_M ot hn.2.2 (allO_left (allO_right (allO_right (allO_right h2)))), trivial⟩
theorem fine_M : ∀ m : List Nd, numM m → allO (fmtM m) → fine.fineA (encM m)
  | [], _, _ => by unfold encM; trivial
  | x :: r, hn, h => by
    unfold numM at hn
    unfold fmtM at h
    unfold encM
    exact ⟨fine_N x hn.1 (allO_left h), fine_M r hn.2 (allO_right h)⟩
theorem fine_C : ∀ cs : List (Ky × List Nd), numC cs → allO (fmtCs cs) → fine.fineA (encC cs)
  | [], _, _ => by unfold encC; trivial
  | (k, m) :: r, hn, h => by
    unfold numC at hn
    unfold fmtCs at h
    unfold encC
    refine ⟨⟨?_, fine_M m hn.2.1 (allO_left (allO_right (allO_right h))), trivial⟩, fine_C r hn.2.2 (allO_right (allO_right (allO_right (allO_right h))))⟩
    cases k with
    | ix j =>
      have : j ≤ 999 := hn.1
      exact fine_nat (by omega)
    | wd w => exact fine_S (allO_left h)
end
mutual
theorem dep_N : ∀ x : Nd, (encN x).depth ≤ 4 * dpN x + 1
  | .txt s => by simp [encN, PyData.depth, PyData.depthAll]
  | .shw n => by simp [encN, PyData.depth, PyData.depthAll]
  | .num => by simp [encN, PyData.depth, PyData.depthAll]
  | .cho false n off cs ot => by
    have h1 := dep_C cs
    have h2 := dep_M ot
    simp only [encN, PyData.depth, PyData.depthAll, dpN]; omega
  | .cho true n off cs ot => by
    have h1 := dep_C cs
    have h2 := dep_M ot
    simp only [encN, PyData.depth, PyData.depthAll, dpN]; omega
theorem dep_M : ∀ m : List Nd, PyData.depthAll (encM m) ≤ 4 * dpM m + 1
  | [] => by simp [encM, PyData.depthAll]
  | x :: r => by
    have h1 := dep_N x
    have h2 := dep_M r
    simp only [encM, PyData.depthAll, dpM]; omega
theorem dep_C : ∀ cs : List (Ky × List Nd), PyData.depthAll (encC cs) ≤ 4 * dpC cs + 3
  | [] => by simp [encC, PyData.depthAll]
  | (k, m) :: r => by
    have h1 := dep_M m
    have h2 := dep_C r
    have h3 : (encK k).depth = 0 := by cases k <;> simp [encK, PyData.depth]
    simp only [encC, PyData.depth, PyData.depthAll, dpC, h3]; omega
end
/-! ### what is read -/
theorem msgO_small {ns : List Nat} {m : List Nd} (h : msgO ns = some m) (hd : Dep ns 143) : zzM m ≤ 69 * ns.length ∧ fine.fineA (encM m) ∧ dpM m ≤ 35 := by
  unfold msgO at h
  split at h
  · next ha =>
    split at h
    · next m' e =>
      split at h
      · next ef =>
        cases h
        have wf := (parsed_msg e).2.1
        have q1 := zzM_plain m'
        have q2 := zzM_fmt _ m' wf
        rw [← fmt_plain, ef] at q2
        have q3 := (parsed_sz e).2 143 hd
        have q4 := dp_plain m'
        refine ⟨by omega, fine_M _ (num_plainA m' [] trivial (wf_numM _ _ wf)) ?_, by omega⟩
        show allO (fmtM (plainM m'))
        rw [ef]; exact ha
      · cases h
    · cases h
  · cases h
theorem deedP_small {b : List Nat} {d : Deed} (h : deedP b = some d) (hd : ∀ j, Dep (b.drop j) 143) : rz (encD d) + 2 ≤ 100 * (b.length + 4) ∧ fine (encD d) ∧ (encD d).depth ≤ 150 := by
  unfold deedP at h
  split at h
  · cases h
    refine ⟨?_, ⟨fine_S (by decide), trivial⟩, by simp [encD, PyData.depth, PyData.depthAll]⟩
    simp only [encD, rz, rz.rzA, S_len, List.length_cons, List.length_nil]; omega
  · split at h
    · next h1 =>
      cases h
      have hk := h1.2.2.1
      refine ⟨?_, ⟨fine_S (by decide), fine_S (okName_allO h1.2), trivial⟩, by simp [encD, PyData.depth, PyData.depthAll]⟩
      simp only [encD, rz, rz.rzA, S_len, List.length_cons, List.length_nil]; omega
    · split at h
      · split at h
        · next h2 =>
          cases hm : msgO (b.drop (2 + b.getD 1 0)) with
          | none => rw [hm] at h; cases h
          | some m =>
            rw [hm] at h
            cases h
            obtain ⟨q1, q2, q3⟩ := msgO_small hm (hd _)
            have hk := h2.1.2.1
            have hl : (b.drop (2 + b.getD 1 0)).length ≤ b.length := by rw [List.length_drop]; omega
            have hr := rz_M m
            have hdp := dep_M m
            refine ⟨?_, ⟨fine_S (by decide), fine_S (okName_allO h2.1), q2, trivial⟩, ?_⟩
            · simp only [encD, rz, rz.rzA, S_len, List.length_cons, List.length_nil]
              omega
            · simp only [encD, PyData.depth, PyData.depthAll]; omega
        · cases h
      · cases h
theorem readA_small {ns : List Nat} (hs : SegDep ns 143) : ∀ (n p : Nat), rz.rzA ((readA deedP ns n p).1.map encD) + 100 * p ≤ 100 * (readA deedP ns n p).2 ∧ fine.fineA ((readA deedP ns n p).1.map encD) ∧ PyData.depthAll ((readA deedP ns n p).1.map encD) ≤ 150 ∧ (p ≤ ns.length → (readA deedP ns n p).2 ≤ ns.length)
  | 0, p => by
    unfold readA
    simp [rz.rzA, fine.fineA, PyData.depthAll]
  | n + 1, p => by
    unfold readA
    split
    · simp [rz.rzA, fine.fineA, PyData.depthAll]
    · next d e he =>
      obtain ⟨i1, i2, i3, i4⟩ := readA_small hs n e
      obtain ⟨l1, l2⟩ := readS_lt he
      have hd : ∃ b : List Nat, deedP b = some d ∧ (∀ j, Dep (b.drop j) 143) ∧ p + b.length + 4 = e := by
        unfold readS at he
        split at he
        · split at he
          · cases he
          · next hlen =>
            split at he
            · cases he
            · cases hf : deedP ((ns.drop (p + 2)).take (ns.getD p 0 * 256 + ns.getD (p + 1) 0)) with
              | none => rw [hf] at he; cases he
              | some d' =>
                rw [hf] at he
                cases he
                refine ⟨_, hf, fun j => hs.body _ _ j, ?_⟩
                rw [List.length_take, List.length_drop]
                omega
        · cases he
      obtain ⟨b, hb, hdep, hlen⟩ := hd
      obtain ⟨s1, s2, s3⟩ := deedP_small hb hdep
      refine ⟨?_, ⟨s2, i2⟩, ?_, fun _ => i4 l2⟩
      · show rz (encD d) + 2 + rz.rzA ((readA deedP ns n e).1.map encD) + 100 * p ≤ _
        omega
      · show PyData.depthAll (encD d :: (readA deedP ns n e).1.map encD) ≤ 150
        simp only [PyData.depthAll]; omega
/-- it can be shown -/
structure Nice (d : PyData) : Prop where
  ok : d.showable = true
  dep : d.depth ≤ 200
  len : d.shown.length ≤ sizeLine
theorem nice_of {d : PyData} (h : fine d) (hr : rz d ≤ 16000000) (hd : d.depth ≤ 200) : Nice d := by
  obtain ⟨h1, h2⟩ := fine_shown d h
  exact ⟨h1, hd, by rw [sizeLine_eq]; omega⟩
theorem nice_read {ns : List Nat} (hs : SegDep ns 143) (hl : ns.length ≤ 100000) : Nice (encRes (readP deedP ns)) := by
  obtain ⟨h1, h2, h3, h4⟩ := readA_small hs (ns.length + 1) 0
  have h4 := h4 (by omega)
  refine nice_of ⟨h2, ⟨_, rfl, by show (readA deedP ns (ns.length + 1) 0).2 < _; omega⟩, trivial⟩ ?_ ?_
  · show 3 + (3 + rz.rzA ((readA deedP ns (ns.length + 1) 0).1.map encD) + 2 + (12 + 2 + 0)) ≤ _
    omega
  · show max (PyData.depthAll ((readA deedP ns (ns.length + 1) 0).1.map encD) + 1) (max 0 0) + 1 ≤ 200
    omega
theorem fine_oct : ∀ {b : List Nat}, (∀ c ∈ b, c < 10 ^ 10) → fine.fineA (octD b) ∧ rz.rzA (octD b) = 14 * b.length
  | [], _ => ⟨trivial, rfl⟩
  | c :: r, h => by
    obtain ⟨h1, h2⟩ := fine_oct (b := r) fun x hx => h x (List.mem_cons_of_mem _ hx)
    refine ⟨⟨fine_nat (h c (List.mem_cons_self ..)), h1⟩, ?_⟩
    show 12 + 2 + rz.rzA (octD r) = _
    rw [h2, List.length_cons]; omega
theorem nice_oct {b : List Nat} (h : ∀ c ∈ b, c < 10 ^ 10) (hl : b.length ≤ 100000) : Nice (.list (octD b)) := by
  obtain ⟨h1, h2⟩ := fine_oct h
  refine nice_of h1 ?_ ?_
  · show 3 + rz.rzA (octD b) ≤ _
    omega
  · show PyData.depthAll (octD b) + 1 ≤ 200
    rw [depth_oct]; omega
theorem nice_rec {d : Deed} (h : tgD d) : Nice (.list (octD (recD d))) := by
  have hl := (body_tg h).1
  have hb : ∀ c ∈ bodyD d, c < 10 ^ 10 := fun c hc => by
    cases d with
    | undo =>
      have : c = 3 := by simpa [bodyD] using hc
      omega
    | drop k =>
      rcases List.mem_append.mp (show c ∈ [2] ++ k from hc) with z | z
      · have : c = 2 := by simpa using z
        omega
      · have := okName_allO (keysD_ok k h).1 c z
        unfold okO at this
        omega
    | put k m =>
      have hc' : c ∈ ([1, k.length] ++ k) ++ fmtM m := by rw [← fmt_plain m]; exact hc
      have hk := (keysD_ok k h.1).1
      rcases List.mem_append.mp hc' with z | z
      · rcases List.mem_append.mp z with z | z
        · have h3 : c = 1 ∨ c = k.length := by simpa using z
          have : k.length ≤ 8 := hk.2.1
          omega
        · have := okName_allO hk c z
          unfold okO at this
          omega
      · have := h.2.ok c z
        unfold okO at this
        omega
  refine nice_oct (fun c hc => ?_) (by show (recB (bodyD d)).length ≤ _; rw [recB_len]; omega)
  have hc' : c ∈ [(bodyD d).length / 256, (bodyD d).length % 256] ++ bodyD d ++ [(bodyD d).sum % 256, 170] := hc
  rcases List.mem_append.mp hc' with z | z
  · rcases List.mem_append.mp z with z | z
    · have h3 : c = (bodyD d).length / 256 ∨ c = (bodyD d).length % 256 := by simpa using z
      omega
    · exact hb c z
  · have h3 : c = (bodyD d).sum % 256 ∨ c = 170 := by simpa using z
    omega
end Mw

set_option Elab.async false
set_option linter.all false
set_option maxRecDepth 100000
set_option maxHeartbeats 1000000
/-! MwF1: same; the law itself. -/
namespace Mw
open PySem PySem.Spec L2
open SX (S S_cat S_len S_inj)
section
variable {P : Program} {w : World} {K : PySem.W.Frag} {mg : Str → Option Value} {base : Heap}
def spSame : Sp := fun vs H Q _ => ∃ a b d, vs = [.ref a, .ref b] ∧ Rp H (.ref a) d ∧ Rp H (.ref b) d ∧ Nice d ∧ Q (.bl true) H
theorem ok_law_same (T : Tx K mg) : CalG P w K mg base 21 "_law_same" spSame := by
  refine calG_of T.d_law_same T.g_law_same (fun _ _ _ _ _ _ us hl => match us, hl with | [_, _], _ => rfl) sc_law_same (fun vs H Q E h => ?_) (fun cdv A outer s H vs Q E hG hr h => ?_)
  · obtain ⟨a, b, d, rfl, _⟩ := h; rfl
  obtain ⟨a, b, d, rfl, ra, rb, nd, q⟩ := h
  refine ⟨_, (pss_one (ps_ret (pe_cmpR op_eq (pe_callB (call_reprG hG) (by rfl) T.f_repr (by decide +kernel) (pa_cons (pv 0) pa_nil)) (pe_callB (call_reprG hG) (by rfl) T.f_repr (by decide +kernel) (pa_cons (pv 1) pa_nil)) (nomark _)))), ?_⟩
  have hu : (A.deeper (PyProof.Rows.envOfC "_law_same" (defScope s_law_same) s.heap.objs.size (He.ga K "_law_same") cdv)).units + (d.depth + 1) < cLine := by
    have h1 := hr.un
    have h2 := nd.dep
    omega
  refine ⟨_, rfl, a, d, rfl, ra, nd.ok, hu, nd.len, _, rfl, b, d, rfl, rb, nd.ok, hu, nd.len, rfl, ?_⟩
  have e : decide (V.str d.shown = V.str d.shown) = true := decide_eq_true rfl
  show Q (.bl (decide (V.str d.shown = V.str d.shown))) H
  rw [e]; exact q
end
end Mw

set_option Elab.async false
set_option linter.all false
set_option maxRecDepth 100000
set_option maxHeartbeats 1000000
/-! MwF2: the law itself. -/
namespace Mw
open PySem PySem.Spec L2
open SX (S S_cat S_len S_inj)
theorem rp_oct {H : Hp} {b : Addr} {ns : List Nat} (h : H b = some (.lst (iv ns))) : Rp H (.ref b) (.list (octD ns)) := by
  refine .lst h ?_
  have := RpL.ints (G := H) (ns.map fun n : Nat => (n : Int))
  rw [List.map_map, List.map_map] at this
  exact this
theorem ne_oct {K : PySem.W.Frag} {H : Hp} {a b : Addr} {ns : List Nat} {Q : VK} (ha : SqL K H a (iv ns)) (hb : SqL K H b (iv ns)) (q : Q (.bl false) H) : rNeD K (.ref a) (.ref b) H Q := by
  refine ⟨.list (octD ns), .list (octD ns), .lst ha (dp_oct ns), .lst hb (dp_oct ns), shaped_oct ns, shaped_oct ns, ?_⟩
  have e : (!PyData.eqv (.list (octD ns)) (.list (octD ns))) = false := by
    show (!PyData.eqvAll (octD ns) (octD ns)) = false
    rw [eqv_oct, decide_eq_true rfl]; rfl
  rw [e]; exact q
theorem ivc (x y : List Nat) : iv x ++ iv y = iv (x ++ y) := by rw [iv, iv, iv, List.map_append]
theorem recs_len {ds : List Deed} (h : ∀ d ∈ ds, tgD d) : (ds.flatMap recD).length ≤ ds.length * 4644 := by
  induction ds with
  | nil => simp
  | cons d r ih =>
    have h1 := (body_tg (h d (List.mem_cons_self ..))).1
    have h2 := ih fun e he => h e (List.mem_cons_of_mem _ he)
    have h3 : (recD d).length = (bodyD d).length + 4 := recB_len _
    rw [List.flatMap_cons, List.length_append, List.length_cons, Nat.succ_mul]
    omega
theorem recs_inv {ds : List Deed} (h : ∀ d ∈ ds, tgD d) : Inv' 26 (ds.flatMap recD) := by
  have key : ∀ (ds : List Deed), (∀ d ∈ ds, tgD d) → ∀ a, Inv' 26 a → Inv' 26 (a ++ ds.flatMap recD) := fun ds => by
    induction ds with
    | nil => intro _ a ha; simpa using ha
    | cons d r ih =>
      intro h a ha
      have := ih (fun e he => h e (List.mem_cons_of_mem _ he)) (a ++ recD d) (ha.app (recW_tg (h d (List.mem_cons_self ..))) (by decide))
      rw [List.flatMap_cons, ← List.append_assoc]; exact this
  have := key ds h [] Inv'.nil
  simpa using this
theorem SegDep.mono {ns : List Nat} {a b : Int} (h : SegDep ns a) (k : a ≤ b) : SegDep ns b := fun i => (h i).mono k
section
variable {P : Program} {w : World} {K : PySem.W.Frag} {mg : Str → Option Value} {base : Heap}
def spLaw (K : PySem.W.Frag) : Sp := fun vs H Q _ => ∃ a, ∃ xs : List Int, vs = [.ref a] ∧ SqL K H a (xs.map V.int) ∧ ∀ H', Q (.bl true) H'
theorem ok_law (T : Tx K mg) (X : Ex P K mg) : CalG P w K mg base 154 "law" (spLaw K) := by
  refine calG_of T.d_law T.g_law (fun _ _ _ _ _ _ us hl => match us, hl with | [_], _ => rfl) sc_law (fun vs H Q E h => ?_) (fun cdv A outer s H vs Q E hG hr h => ?_)
  · obtain ⟨a, xs, rfl, _⟩ := h; rfl
  obtain ⟨a, xs, rfl, ha, q⟩ := h
  have c_law_box : C8.Cal P w K mg base 2 "_law_box" (spBox K) [] := ok_law_box T
  have c_law_draw : C8.Cal P w K mg base 1 "_law_draw" spDraw [] := ok_law_draw T
  have c_law_some_deed : C8.Cal P w K mg base 6 "_law_some_deed" spSomeD [] := ok_law_some_deed T
  have c_record_of : C8.Cal P w K mg base 121 "record_of" (spBody recD) [] := ok_record_of T
  have c_law_record : C8.Cal P w K mg base 39 "_law_record" (spBody recD) [] := ok_law_record T
  have c_recovered : C8.Cal P w K mg base 152 "recovered" (spRec deedP) [] := ok_recovered T X
  have c_law_read : C8.Cal P w K mg base 112 "_law_read" (spRec deedP) [] := ok_law_read T
  have c_law_plainly : C8.Cal P w K mg base 5 "_law_plainly" (spPly 3) [] := ok_law_plainly T 3
  have c_law_spoilt : C8.Cal P w K mg base 3 "_law_spoilt" spSpoilt [] := ok_law_spoilt T
  have c_law_same : CalG P w K mg base 21 "_law_same" spSame := ok_law_same T
  refine ⟨_, (pss_cons (ps_set (i := 1) sc_law.nd rfl (Or.inr rfl) (C8.pe_c c_law_box hr (by omega) rfl (pa_cons (pv 0) (pa_cons pe_int (pa_cons pe_int pa_nil)))))
  (pss_cons (ps_for PassesOwn.never rfl (pi_range1 (by rfl) T.f_range (pa_cons pe_int pa_nil)) (pg_name (i := 2) sc_law.nd rfl (Or.inl rfl))
    (pss_cons (ps_setLc (i := 3) (own := [("_law_k", 8)]) (g := gName 8) (tt := tYes) rfl sc_law.nd rfl rfl (sw_true rfl rfl rfl (by decide +kernel)) (pi_range1 (by rfl) T.f_range (pa_cons (C8.pe_c c_law_draw hr (by omega) rfl (pa_cons (pv 1) (pa_cons pe_int pa_nil))) pa_nil)) (blkOk_by (own := [("_law_k", 8)]) (N := N_law) (sc := defScope s_law) (by decide +kernel)) (fun _ _ _ _ _ => pg_name (i := 8) sc_law.nd rfl (Or.inl rfl)) (fun _ _ _ _ _ => pts_nil) (fun _ _ _ _ _ => (C8.pe_c c_law_some_deed hr (by omega) rfl (pa_cons (pv 1) pa_nil))))
    (pss_cons (ps_set (i := 4) sc_law.nd rfl (Or.inl rfl) (pe_lst pa_nil))
    (pss_cons (ps_for PassesOwn.never rfl (pi_list (pv 3)) (pg_name (i := 5) sc_law.nd rfl (Or.inl rfl))
      (pss_cons (ps_if (pt_not (pt_val (pe_callG c_law_same hG hr (by omega) rfl (pa_cons (C8.pe_c c_record_of hr (by omega) rfl (pa_cons (pv 5) pa_nil)) (pa_cons (C8.pe_c c_law_record hr (by omega) rfl (pa_cons (pv 5) pa_nil)) pa_nil)))))
        (pss_one (ps_ret pe_bl))
        pss_nil)
      (pss_one (ps_set (i := 4) sc_law.nd rfl (Or.inl rfl) (pe_op op_cat (pv 4) (C8.pe_c c_law_record hr (by omega) rfl (pa_cons (pv 5) pa_nil)))))))
    (pss_cons (ps_if (pt_not (pt_val (pe_callG c_law_same hG hr (by omega) rfl (pa_cons (C8.pe_c c_recovered hr (by omega) rfl (pa_cons (pe_callTy call_list_of (by rfl) T.f_list (by decide +kernel) (pa_cons (pv 4) pa_nil)) pa_nil)) (pa_cons (pe_tup (pa_cons (C8.pe_c c_law_plainly hr (by omega) rfl (pa_cons (pv 3) pa_nil)) (pa_cons (pe_callB call_lenL (by rfl) T.f_len (by decide +kernel) (pa_cons (pv 4) pa_nil)) pa_nil))) pa_nil)))))
      (pss_one (ps_ret pe_bl))
      pss_nil)
    (pss_one (ps_for PassesOwn.never rfl (pi_range1 (by rfl) T.f_range (pa_cons pe_int pa_nil)) (pg_name (i := 6) sc_law.nd rfl (Or.inl rfl))
      (pss_cons (ps_set (i := 4) sc_law.nd rfl (Or.inl rfl) (C8.pe_c c_law_spoilt hr (by omega) rfl (pa_cons (pv 1) (pa_cons (pv 4) pa_nil))))
      (pss_cons (ps_set (i := 7) sc_law.nd rfl (Or.inl rfl) (pe_callTy call_list_of (by rfl) T.f_list (by decide +kernel) (pa_cons (pv 4) pa_nil)))
      (pss_cons (ps_if (PW.pt (pw_or (pt_not (pt_val (pe_callG c_law_same hG hr (by omega) rfl (pa_cons (C8.pe_c c_recovered hr (by omega) rfl (pa_cons (pv 7) pa_nil)) (pa_cons (C8.pe_c c_law_read hr (by omega) rfl (pa_cons (pv 4) pa_nil)) pa_nil))))) (pw_or1 (pt_cmpR (op_neD hr.units) (pv 7) (pv 4) (nomark _)))))
        (pss_one (ps_ret pe_bl))
        pss_nil)
      (pss_one (ps_set (i := 4) sc_law.nd rfl (Or.inl rfl) (pe_op op_cat (pv 4) (C8.pe_c c_law_record hr (by omega) rfl (pa_cons (C8.pe_c c_law_some_deed hr (by omega) rfl (pa_cons (pv 1) pa_nil)) pa_nil)))))))))))))))
  (pss_one (ps_ret (pe_callG c_law_same hG hr (by omega) rfl (pa_cons (C8.pe_c c_recovered hr (by omega) rfl (pa_cons (pe_lst pa_nil) pa_nil)) (pa_cons (pe_tup (pa_cons (pe_lst pa_nil) (pa_cons pe_int pa_nil))) pa_nil))))))), ?_⟩
  refine ⟨_, rfl, fun _ => none, a, xs, rfl, (fun x o z => by cases z), ha, fun bx G0 H0 _ _ b0 => ?_⟩
  refine ⟨3, rfl, by decide, by decide, for_over (runs_r (lo := 0) (n := 3)) (fun i σ H' => ∃ G' v2 v3 v4 v5 v6 v7, σ = [some (.ref a), some (.ref bx), v2, v3, v4, v5, v6, v7, none] ∧ Box G' H' bx) (fun _ _ _ _ => trivial)
    ⟨G0, none, none, none, none, none, none, rfl, b0⟩ (fun i xv σ H1 hx h => ?_) (fun σ H1 h => ?_)⟩
  · obtain ⟨G1, v2, v3, v4, v5, v6, v7, rfl, b1⟩ := h
    refine asg_lc (fun c H4 => ∃ G4 ws, ∃ ds : List Deed, Box G4 H4 bx ∧ G4 c = some (.lst ws) ∧ RpL G4 ws (ds.map encD) ∧ (∀ d ∈ ds, tgD d) ∧ ds.length ≤ 6) (fun Q' hQ => ?_) (fun dl H4 hp => ?_)
    · refine ⟨_, rfl, G1, bx, 7, rfl, b1, by decide, fun H2 n g2 b2 hn => ⟨n, rfl, by omega, by omega, ?_⟩⟩
      have hcb : ∀ D, H2 D = none → D ≠ bx := fun D hD z => b2.hne (z ▸ hD)
      refine lc_over (runs_r (lo := 0) (n := n)) (fun D j H' => H2 D = none ∧ ∃ G' ws, ∃ ds : List Deed, Gw [D, bx] G1 (upd H2 D (.lst [])) G' H' ∧ Box G' H' bx ∧ H' D = some (.lst ws) ∧ RpL G' ws (ds.map encD) ∧ (∀ d ∈ ds, tgD d) ∧ ds.length ≤ j) (fun _ _ _ _ => trivial) (fun D hD => ?_) (fun D j x H' hD hx h => ?_) (fun D H' hD h => ?_)
      · have g0 : Gw [] G1 H2 G1 _ := Gw.allocM (o := HO.lst []) b2.sm hD
        exact ⟨hD, G1, [], [], Gw.refl g0.gh, b2.up g0 (by simp), upd_same, .nil, fun d hd => (by cases hd), Nat.le_refl _⟩
      · obtain ⟨_, G', ws, ds, g, b', hDl, rws, htg, hdl⟩ := h
        have hj : j < n := by
          have := (List.getElem?_eq_some_iff.mp hx).1
          rw [List.length_map, List.length_range] at this
          exact this
        have hDb := hcb D hD
        refine ⟨rfl, _, rfl, G', bx, rfl, b', fun G6 H6 v d g6 b6 rv hg => ?_⟩
        have hD6 := g6.keep D _ (by simp [hDb]) hDl
        have hDG := none_of b2.sm hD
        have w6 := g.trans (g6.mono (fun x hx => List.mem_cons_of_mem _ hx))
        have gw : Gw [D, bx] G6 H6 G6 _ := Gw.write (M := [D, bx]) (o := HO.lst (ws ++ [v])) g6.gh (w6.none upd_ne_none hDG) (List.mem_cons_self ..)
        refine ⟨ws, hD6, by rw [rws.length, List.length_map, sizeLine_eq]; omega, hD, G6, ws ++ [v], ds ++ [d], w6.trans gw, ?_, upd_same, ?_, ?_, by rw [List.length_append, List.length_singleton]; omega⟩
        · obtain ⟨ra, xs, nn, bb⟩ := b6
          exact ⟨ra, xs, nn, gw.gh, bb.gb, bb.gr, by rw [upd_ne (Ne.symm hDb)]; exact bb.hb⟩
        · rw [List.map_append]
          exact (rws.same g6.gg).snoc rv
        · intro e he
          rcases List.mem_append.mp he with he | he
          · exact htg e he
          · have : e = d := by simpa using he
            rw [this]; exact tg_of hg
      · obtain ⟨_, G', ws, ds, g, b', hDl, rws, htg, hdl⟩ := h
        rw [List.length_map, List.length_range] at hdl
        have hDb := hcb D hD
        have hDG := none_of b2.sm hD
        have gn := g.none upd_ne_none hDG
        exact hQ D H' ⟨_, ws, ds, b'.tell hDl gn (Ne.symm hDb), upd_same, rws.same (same_upd gn), htg, by omega⟩
    · obtain ⟨G4, ws, ds, b4, hdl, rws, htg, hdn⟩ := hp
      dsimp only
      refine ⟨by show 0 ≤ sizeLine; exact Nat.zero_le _, fun oa hoa => ?_⟩
      have g5 : Gw [] G4 H4 G4 _ := Gw.allocM (o := HO.lst (iv [])) b4.sm hoa
      have b5 := b4.up g5 (by simp)
      generalize hH5 : upd H4 oa (.lst []) = H5
      have hH5' : upd H4 oa (.lst (iv [])) = H5 := hH5
      rw [hH5'] at g5 b5
      have hoa5 : H5 oa = some (.lst (iv [])) := by rw [← hH5']; exact upd_same
      refine ⟨_, rfl, dl, rfl, ⟨ws, SqL.of (g5.gh _ _ hdl)⟩, for_over (runs_l (xs := ws)) (fun k σ H' => ∃ G' oa v5, σ = [some (.ref a), some (.ref bx), some xv, some (.ref dl), some (.ref oa), v5, v6, v7, none] ∧ Gw [] G4 H5 G' H' ∧ H' oa = some (.lst (iv ((ds.take k).flatMap recD)))) (fun k σ H' h => ?_)
        ⟨G4, oa, v5, rfl, Gw.refl g5.gh, hoa5⟩ (fun k x σ H6 hx h => ?_) (fun σ H6 h => ?_)⟩
      · obtain ⟨G', oa, v5, rfl, g, _⟩ := h
        exact SqL.of (g.sh _ _ hdl)
      · obtain ⟨G6, oa, v5, rfl, g, ho⟩ := h
        obtain ⟨e, he, rv⟩ := rws.get hx
        rw [List.getElem?_map] at he
        cases hk : ds[k]? with
        | none => rw [hk] at he; cases he
        | some d =>
        rw [hk] at he
        cases he
        have hd := htg d (List.mem_of_getElem? hk)
        refine ⟨_, rfl, G6, x, d, rfl, g.gh, rv.same g.gg, tg_ok hd, fun G7 H7 r1 g7 h7 => ?_⟩
        refine ⟨_, rfl, G7, x, d, rfl, g7.gh, (rv.same g.gg).same g7.gg, tg_ok hd, fun G8 H8 r2 g8 h8 => ?_⟩
        refine ⟨r1, r2, .list (octD (recD d)), rfl, rp_oct (g8.same _ _ h7), rp_oct h8, nice_rec hd, ?_⟩
        refine ⟨true, rfl, iteF ?_⟩
        have w8 := g7.trans g8
        have ho8 := w8.same _ _ ho
        refine ⟨_, rfl, _, rfl, G8, x, d, rfl, g8.gh, (rv.same g.gg).same w8.gg, tg_ok hd, fun G9 H9 r3 g9 h9 => ?_⟩
        have ho9 := g9.same _ _ ho8
        have hlen := recs_len (ds := ds.take k) (fun e he => htg e (List.mem_of_mem_take he))
        have hk6 : (ds.take k).length ≤ 6 := by rw [List.length_take]; omega
        have hlen2 : (recD d).length ≤ 4644 := by show (recB (bodyD d)).length ≤ _; rw [recB_len]; have := (body_tg hd).1; omega
        refine ⟨oa, r3, _, _, rfl, rfl, ho9, h9, by rw [iv_len, iv_len, sizeLine_eq]; omega, fun p hp => ?_⟩
        rw [ivc]
        have g10 : Gw [] G9 H9 G9 _ := Gw.allocM (o := HO.lst (iv ((ds.take k).flatMap recD ++ recD d))) g9.gh hp
        refine ⟨G9, p, _, rfl, ((g.trans w8).trans g9).trans g10, ?_⟩
        rw [upd_same, List.take_add_one, hk, List.flatMap_append]
        simp
      · obtain ⟨G6, oa, v5, rfl, g, ho⟩ := h
        have hwl : ws.length = ds.length := by rw [rws.length, List.length_map]
        rw [hwl, List.take_length] at ho
        have b6 := b5.up g (by simp)
        have hlen := recs_len htg
        have hinv := recs_inv htg
        have hlist : (ds.flatMap recD).length ≤ 30000 := by omega
        have hread := readP_recs htg
        generalize hns : ds.flatMap recD = ns at ho hlen hinv hlist hread
        -- recovered(list(octets))
        refine ⟨_, rfl, oa, iv ns, rfl, .inl (SqL.of ho), fun la hla => ?_⟩
        have g7 : Gw [] G6 H6 G6 _ := Gw.allocM (o := HO.lst (iv ns)) g.gh hla
        refine ⟨G6, la, ns, rfl, g7.gh, upd_same, by omega, hinv.dep.mono (by decide), fun G8 H8 v g8 rv => ?_⟩
        have w8 := (g.trans g7).trans g8
        have b8 := b5.up w8 (by simp)
        have ho8 := (g7.trans g8).same _ _ ho
        refine ⟨_, rfl, G8, dl, ws, ds, rfl, g8.gh, w8.gg _ _ hdl, rws.same w8.gg, fun d hd => tg_sm (htg d hd), by omega, fun G9 H9 v2 g9 rv2 => ?_⟩
        have ho9 := g9.same _ _ ho8
        refine ⟨_, rfl, oa, iv ns, rfl, SqL.of ho9, ?_⟩
        refine ⟨by show 2 ≤ sizeLine; exact szOf (by decide), fun t ht => ?_⟩
        rw [iv_len]
        have gt : Gw [] G9 H9 _ _ := Gw.alloc (o := HO.tup [v2, V.int (ns.length : Nat)]) g9.gh ht
        have ho10 := gt.same _ _ ho9
        have b10 := (b8.up g9 (by simp)).up gt (by simp)
        obtain ⟨va, vxs, rfl, _, _⟩ := rv.tup_inv
        refine ⟨va, t, encRes (readP deedP ns), rfl, ((rv.same g9.gg).same gt.gg).same gt.gh, ?_, nice_read (hinv.dep.mono (by decide)) (by omega), ?_⟩
        · rw [hread]
          exact Rp.same gt.gh (.tup upd_same (.cons (rv2.same gt.gg) (.cons (.int _) .nil)))
        refine ⟨true, rfl, iteF ?_⟩
        refine ⟨4, rfl, by decide, by decide, for_over (runs_r (lo := 0) (n := 4)) (fun j σ H' => ∃ G' oa ns v6 v7, σ = [some (.ref a), some (.ref bx), some xv, some (.ref dl), some (.ref oa), v5, v6, v7, none] ∧ Box G' H' bx ∧ H' oa = some (.lst (iv ns)) ∧ Inv' (26 + 28 * (j : Nat)) ns ∧ ns.length ≤ 30000 + 5000 * j) (fun _ _ _ _ => trivial)
          ⟨_, oa, ns, v6, v7, rfl, b10, ho10, hinv.mono (by decide), hlist⟩ (fun j x σ H11 hx h => ?_) (fun σ H11 h => ?_)⟩
        · obtain ⟨G11, oa, ns, v6, v7, rfl, b11, ho, hinv, hnl⟩ := h
          have hj : j < 4 := by
            have := (List.getElem?_eq_some_iff.mp hx).1
            rw [List.length_map, List.length_range] at this
            exact this
          refine ⟨_, rfl, _, rfl, G11, bx, oa, ns, rfl, b11, ho, by omega, fun G12 H12 p ms g12 b12 hp hsp => ?_⟩
          have hms := spoil_len hsp
          have hinv2 : Inv' (26 + 28 * ((j + 1 : Nat) : Int)) ms := (hinv.spoil (by omega) hsp).mono (by push_cast; omega)
          have hdep : SegDep ms 143 := hinv2.dep.mono (by omega)
          have hml : ms.length ≤ 100000 := by omega
          have hpb := b12.iv hp
          refine ⟨_, rfl, p, iv ms, rfl, .inl (SqL.of hp), fun la hla => ?_⟩
          have g13 : Gw [] G12 H12 G12 _ := Gw.allocM (o := HO.lst (iv ms)) b12.sm hla
          refine ⟨_, rfl, G12, la, ms, rfl, g13.gh, upd_same, hml, hdep, fun G14 H14 v g14 rv => ?_⟩
          have hp14 := (g13.trans g14).same _ _ hp
          refine ⟨_, rfl, G14, p, ms, rfl, g14.gh, hp14, hml, hdep, fun G15 H15 v2 g15 rv2 => ?_⟩
          have hp15 := g15.same _ _ hp14
          have hla15 := (g14.trans g15).same _ _ upd_same
          have b15 := ((b12.up g13 (by simp)).up g14 (by simp)).up g15 (by simp)
          obtain ⟨va, vxs, rfl, _, _⟩ := rv.tup_inv
          obtain ⟨vb, vys, rfl, _, _⟩ := rv2.tup_inv
          refine ⟨va, vb, encRes (readP deedP ms), rfl, (rv.same g15.gg).same g15.gh, rv2.same g15.gh, nice_read hdep hml, ?_⟩
          refine ⟨true, rfl, iteF ?_⟩
          refine ⟨_, rfl, _, rfl, ne_oct (SqL.of hla15) (SqL.of hp15) ⟨_, rfl, iteF ?_⟩⟩
          refine ⟨_, rfl, _, rfl, G15, bx, rfl, b15, fun G16 H16 v3 d g16 b16 rv3 hg => ?_⟩
          have hd := tg_of hg
          have hp16 := g16.keep p _ (by simp [hpb]) hp15
          refine ⟨G16, v3, d, rfl, g16.gh, rv3, tg_ok hd, fun G17 H17 r g17 h17 => ?_⟩
          have hp17 := g17.same _ _ hp16
          have hlen2 : (recD d).length ≤ 4644 := by show (recB (bodyD d)).length ≤ _; rw [recB_len]; have := (body_tg hd).1; omega
          refine ⟨p, r, _, _, rfl, rfl, hp17, h17, by rw [iv_len, iv_len, sizeLine_eq]; omega, fun p2 hp2 => ?_⟩
          rw [ivc]
          have g18 : Gw [] G17 H17 G17 _ := Gw.allocM (o := HO.lst (iv (ms ++ recD d))) g17.gh hp2
          refine ⟨G17, p2, ms ++ recD d, _, _, rfl, (b16.up g17 (by simp)).up g18 (by simp), upd_same, hinv2.app (recW_tg hd) (by omega), by rw [List.length_append]; omega⟩
        · obtain ⟨G11, oa, ns, v6, v7, rfl, b11, ho, hinv, hnl⟩ := h
          exact ⟨G11, _, _, _, _, _, _, rfl, b11⟩
  · obtain ⟨G1, v2, v3, v4, v5, v6, v7, rfl, b1⟩ := h
    refine ⟨by show 0 ≤ sizeLine; exact Nat.zero_le _, fun l hl => ?_⟩
    have g2 : Gw [] G1 H1 G1 _ := Gw.allocM (o := HO.lst (iv [])) b1.sm hl
    refine ⟨G1, l, [], rfl, g2.gh, upd_same, by decide, Inv'.nil.dep.mono (by decide), fun G3 H3 v g3 rv => ?_⟩
    refine ⟨by show 0 ≤ sizeLine; exact Nat.zero_le _, fun l2 hl2 => ?_⟩
    have g4 : Gw [] G3 H3 _ _ := Gw.alloc (o := HO.lst []) g3.gh hl2
    refine ⟨by show 2 ≤ sizeLine; exact szOf (by decide), fun t ht => ?_⟩
    have g5 : Gw [] _ _ _ _ := Gw.alloc (o := HO.tup [V.ref l2, V.int 0]) g4.gh ht
    obtain ⟨va, vxs, rfl, _, _⟩ := rv.tup_inv
    have hr0 : encRes (readP deedP []) = .tuple [.list [], .int 0] := rfl
    refine ⟨va, t, encRes (readP deedP []), rfl, ((rv.same g4.gg).same g5.gg).same g5.gh, ?_, nice_read (Inv'.nil.dep.mono (by decide)) (by decide), q _⟩
    rw [hr0]
    exact Rp.same g5.gh (.tup upd_same (.cons (.lst (g5.gg _ _ upd_same) .nil) (.cons (.int _) .nil)))
end
end Mw

set_option Elab.async false
set_option linter.all false
set_option maxRecDepth 100000
set_option maxHeartbeats 0
/-! MwHead: what the program's top leaves (printed by genh.py). -/
namespace Mw
open PySem PySem.Spec PyProof.Rows L2
open SX (S S_cat S_len S_inj)
/-! ### the defs -/
def dF0 : He.DefD := ⟨("cases_of", none), "cases_of", "cases_of", defArgs s_cases_of, defBody s_cases_of, defScope s_cases_of, [], []⟩
def dF1 : He.DefD := ⟨("other_of", none), "other_of", "other_of", defArgs s_other_of, defBody s_other_of, defScope s_other_of, [], []⟩
def dF2 : He.DefD := ⟨("plain_node", none), "plain_node", "plain_node", defArgs s_plain_node, defBody s_plain_node, defScope s_plain_node, [], []⟩
def dF3 : He.DefD := ⟨("plain", none), "plain", "plain", defArgs s_plain, defBody s_plain, defScope s_plain, [], []⟩
def dF4 : He.DefD := ⟨("format_text", none), "format_text", "format_text", defArgs s_format_text, defBody s_format_text, defScope s_format_text, [], []⟩
def dF5 : He.DefD := ⟨("format_key", none), "format_key", "format_key", defArgs s_format_key, defBody s_format_key, defScope s_format_key, [], []⟩
def dF6 : He.DefD := ⟨("format_choice", none), "format_choice", "format_choice", defArgs s_format_choice, defBody s_format_choice, defScope s_format_choice, [], []⟩
def dF7 : He.DefD := ⟨("format_node", none), "format_node", "format_node", defArgs s_format_node, defBody s_format_node, defScope s_format_node, [], []⟩
def dF8 : He.DefD := ⟨("format_message", none), "format_message", "format_message", defArgs s_format_message, defBody s_format_message, defScope s_format_message, [], []⟩
def dF9 : He.DefD := ⟨("is_sign", none), "is_sign", "is_sign", defArgs s_is_sign, defBody s_is_sign, defScope s_is_sign, [], []⟩
def dF10 : He.DefD := ⟨("parse_message", none), "parse_message", "parse_message", defArgs s_parse_message, defBody s_parse_message, defScope s_parse_message, [], []⟩
def dF11 : He.DefD := ⟨("octets_of", none), "octets_of", "octets_of", defArgs s_octets_of, defBody s_octets_of, defScope s_octets_of, [], []⟩
def dF12 : He.DefD := ⟨("text_of", none), "text_of", "text_of", defArgs s_text_of, defBody s_text_of, defScope s_text_of, [], []⟩
def dF13 : He.DefD := ⟨("body_of", none), "body_of", "body_of", defArgs s_body_of, defBody s_body_of, defScope s_body_of, [], []⟩
def dF14 : He.DefD := ⟨("record_of", none), "record_of", "record_of", defArgs s_record_of, defBody s_record_of, defScope s_record_of, [], []⟩
def dF15 : He.DefD := ⟨("key_of", none), "key_of", "key_of", defArgs s_key_of, defBody s_key_of, defScope s_key_of, [], []⟩
def dF16 : He.DefD := ⟨("message_of", none), "message_of", "message_of", defArgs s_message_of, defBody s_message_of, defScope s_message_of, [], []⟩
def dF17 : He.DefD := ⟨("deed_of", none), "deed_of", "deed_of", defArgs s_deed_of, defBody s_deed_of, defScope s_deed_of, [], []⟩
def dF18 : He.DefD := ⟨("recovered", none), "recovered", "recovered", defArgs s_recovered, defBody s_recovered, defScope s_recovered, [], []⟩
def dF19 : He.DefD := ⟨("_law_cell", none), "_law_cell", "_law_cell", defArgs s_law_cell, defBody s_law_cell, defScope s_law_cell, [], []⟩
def dF20 : He.DefD := ⟨("_law_row", none), "_law_row", "_law_row", defArgs s_law_row, defBody s_law_row, defScope s_law_row, [], []⟩
def dF21 : He.DefD := ⟨("_law_box", none), "_law_box", "_law_box", defArgs s_law_box, defBody s_law_box, defScope s_law_box, [], []⟩
def dF22 : He.DefD := ⟨("_law_draw", none), "_law_draw", "_law_draw", defArgs s_law_draw, defBody s_law_draw, defScope s_law_draw, [], []⟩
def dF23 : He.DefD := ⟨("_law_same", none), "_law_same", "_law_same", defArgs s_law_same, defBody s_law_same, defScope s_law_same, [], []⟩
def dF24 : He.DefD := ⟨("_law_message", none), "_law_message", "_law_message", defArgs s_law_message, defBody s_law_message, defScope s_law_message, [], []⟩
def dF25 : He.DefD := ⟨("_law_plain", none), "_law_plain", "_law_plain", defArgs s_law_plain, defBody s_law_plain, defScope s_law_plain, [], []⟩
def dF26 : He.DefD := ⟨("_law_notation", none), "_law_notation", "_law_notation", defArgs s_law_notation, defBody s_law_notation, defScope s_law_notation, [], []⟩
def dF27 : He.DefD := ⟨("_law_word", none), "_law_word", "_law_word", defArgs s_law_word, defBody s_law_word, defScope s_law_word, [], []⟩
def dF28 : He.DefD := ⟨("_law_key_at", none), "_law_key_at", "_law_key_at", defArgs s_law_key_at, defBody s_law_key_at, defScope s_law_key_at, [], []⟩
def dF29 : He.DefD := ⟨("_law_choice", none), "_law_choice", "_law_choice", defArgs s_law_choice, defBody s_law_choice, defScope s_law_choice, [], []⟩
def dF30 : He.DefD := ⟨("_law_node", none), "_law_node", "_law_node", defArgs s_law_node, defBody s_law_node, defScope s_law_node, [], []⟩
def dF31 : He.DefD := ⟨("_law_parsed", none), "_law_parsed", "_law_parsed", defArgs s_law_parsed, defBody s_law_parsed, defScope s_law_parsed, [], []⟩
def dF32 : He.DefD := ⟨("_law_signs", none), "_law_signs", "_law_signs", defArgs s_law_signs, defBody s_law_signs, defScope s_law_signs, [], []⟩
def dF33 : He.DefD := ⟨("_law_body_told", none), "_law_body_told", "_law_body_told", defArgs s_law_body_told, defBody s_law_body_told, defScope s_law_body_told, [], []⟩
def dF34 : He.DefD := ⟨("_law_read", none), "_law_read", "_law_read", defArgs s_law_read, defBody s_law_read, defScope s_law_read, [], []⟩
def dF35 : He.DefD := ⟨("_law_record", none), "_law_record", "_law_record", defArgs s_law_record, defBody s_law_record, defScope s_law_record, [], []⟩
def dF36 : He.DefD := ⟨("_law_some", none), "_law_some", "_law_some", defArgs s_law_some, defBody s_law_some, defScope s_law_some, [], []⟩
def dF37 : He.DefD := ⟨("_law_plainly", none), "_law_plainly", "_law_plainly", defArgs s_law_plainly, defBody s_law_plainly, defScope s_law_plainly, [], []⟩
def dF38 : He.DefD := ⟨("_law_some_deed", none), "_law_some_deed", "_law_some_deed", defArgs s_law_some_deed, defBody s_law_some_deed, defScope s_law_some_deed, [], []⟩
def dF39 : He.DefD := ⟨("_law_by_hand", none), "_law_by_hand", "_law_by_hand", defArgs s_law_by_hand, defBody s_law_by_hand, defScope s_law_by_hand, [], []⟩
def dF40 : He.DefD := ⟨("_law_spoilt", none), "_law_spoilt", "_law_spoilt", defArgs s_law_spoilt, defBody s_law_spoilt, defScope s_law_spoilt, [], []⟩
def dF41 : He.DefD := ⟨("law", none), "law", "law", defArgs s_law, defBody s_law, defScope s_law, [], []⟩
def dF42 : He.DefD := ⟨("Reader", some "__init__"), "__init__", "Reader.__init__", defArgs s_Reader_init, defBody s_Reader_init, defScope s_Reader_init, [], []⟩
def dF43 : He.DefD := ⟨("Reader", some "sign"), "sign", "Reader.sign", defArgs s_Reader_sign, defBody s_Reader_sign, defScope s_Reader_sign, [], []⟩
def dF44 : He.DefD := ⟨("Reader", some "skip"), "skip", "Reader.skip", defArgs s_Reader_skip, defBody s_Reader_skip, defScope s_Reader_skip, [], []⟩
def dF45 : He.DefD := ⟨("Reader", some "expect"), "expect", "Reader.expect", defArgs s_Reader_expect, defBody s_Reader_expect, defScope s_Reader_expect, [], []⟩
def dF46 : He.DefD := ⟨("Reader", some "run"), "run", "Reader.run", defArgs s_Reader_run, defBody s_Reader_run, defScope s_Reader_run, [], []⟩
def dF47 : He.DefD := ⟨("Reader", some "word"), "word", "Reader.word", defArgs s_Reader_word, defBody s_Reader_word, defScope s_Reader_word, [], []⟩
def dF48 : He.DefD := ⟨("Reader", some "natural"), "natural", "Reader.natural", defArgs s_Reader_natural, defBody s_Reader_natural, defScope s_Reader_natural, [], []⟩
def dF49 : He.DefD := ⟨("Reader", some "offset"), "offset", "Reader.offset", defArgs s_Reader_offset, defBody s_Reader_offset, defScope s_Reader_offset, [], []⟩
def dF50 : He.DefD := ⟨("Reader", some "key"), "key", "Reader.key", defArgs s_Reader_key, defBody s_Reader_key, defScope s_Reader_key, [], []⟩
def dF51 : He.DefD := ⟨("Reader", some "choice"), "choice", "Reader.choice", defArgs s_Reader_choice, defBody s_Reader_choice, defScope s_Reader_choice, [], []⟩
def dF52 : He.DefD := ⟨("Reader", some "braces"), "braces", "Reader.braces", defArgs s_Reader_braces, defBody s_Reader_braces, defScope s_Reader_braces, [], []⟩
def dF53 : He.DefD := ⟨("Reader", some "escape"), "escape", "Reader.escape", defArgs s_Reader_escape, defBody s_Reader_escape, defScope s_Reader_escape, [], []⟩
def dF54 : He.DefD := ⟨("Reader", some "node"), "node", "Reader.node", defArgs s_Reader_node, defBody s_Reader_node, defScope s_Reader_node, [], []⟩
def dF55 : He.DefD := ⟨("Reader", some "message"), "message", "Reader.message", defArgs s_Reader_message, defBody s_Reader_message, defScope s_Reader_message, [], []⟩
def fnP0 : List He.DefD := [dF0, dF1, dF2, dF3, dF4, dF5, dF6, dF7, dF8, dF9, dF10, dF11, dF12, dF13, dF14, dF15, dF16, dF17, dF18, dF19]
def fnP1 : List He.DefD := [dF20, dF21, dF22, dF23, dF24, dF25, dF26, dF27, dF28, dF29, dF30, dF31, dF32, dF33, dF34, dF35, dF36, dF37, dF38, dF39]
def fnP2 : List He.DefD := [dF40, dF41, dF42, dF43, dF44, dF45, dF46, dF47, dF48, dF49, dF50, dF51, dF52, dF53, dF54, dF55]
def fnM : List He.DefD := fnP0 ++ fnP1 ++ fnP2
def faP0 : List He.Fa := [.str "TEXT" (S [116, 101, 120, 116]), .str "SHOW" (S [115, 104, 111, 119]), .str "NUMBER" (S [110, 117, 109, 98, 101, 114]), .str "SELECT" (S [115, 101, 108, 101, 99, 116]), .str "PLURAL" (S [112, 108, 117, 114, 97, 108]), .str "OTHER" (S [111, 116, 104, 101, 114]), .str "LETTERS_notation" (S [97, 98, 99, 100, 101, 102, 103, 104, 105, 106, 107, 108, 109, 110, 111, 112, 113, 114, 115, 116, 117, 118, 119, 120, 121, 122]), .str "FIGURES" (S [48, 49, 50, 51, 52, 53, 54, 55, 56, 57]), .str "QUOTE" (S [39]), .str "ESCAPED" (S [123, 125, 35, 39]), .str "SPACES" (S [32, 10]), .str "OFFSET" (S [111, 102, 102, 115, 101, 116, 58]), .str "LETTERS_journal" (S [97, 98, 99, 100, 101, 102, 103, 104, 105, 106, 107, 108, 109, 110, 111, 112, 113, 114, 115, 116, 117, 118, 119, 120, 121, 122]), .str "PRINTED" (S [32, 33, 34, 35, 36, 38, 39, 40, 41, 42, 43, 44, 45, 46, 47, 48, 49, 50, 51, 52, 53, 54, 55, 56, 57, 58, 59, 60, 61, 62, 63, 64, 65, 66, 67, 68, 69, 70, 71, 72, 73, 74, 75, 76, 77, 78, 79, 80, 81, 82, 83, 84, 85, 86, 87, 88, 89, 90, 91, 92, 93, 94, 95, 96, 97, 98, 99, 100, 101, 102, 103, 104, 105, 106, 107, 108, 109, 110, 111, 112, 113, 114, 115, 116, 117, 118, 119, 120, 121, 122, 123, 124, 125, 126]), .int "NAME_MOST" 8, .int "OFFSET_MOST" 9, .int "EXACT_MOST" 999, .int "MARK" 170, .int "PUT" 1, .int "DROP" 2]
def faP1 : List He.Fa := [.int "UNDO" 3, .free "len", .free "isinstance", .free "int", .free "str", .free "range", .free "list", .free "ord", .free "sum", .free "repr", .free "super", .free "ValueError", .glo "cases_of", .glo "other_of", .glo "plain_node", .glo "plain", .glo "format_text", .glo "format_key", .glo "format_choice", .glo "format_node"]
def faP2 : List He.Fa := [.glo "format_message", .glo "is_sign", .glo "parse_message", .glo "octets_of", .glo "text_of", .glo "body_of", .glo "record_of", .glo "key_of", .glo "message_of", .glo "deed_of", .glo "recovered", .glo "_law_cell", .glo "_law_row", .glo "_law_box", .glo "_law_draw", .glo "_law_same", .glo "_law_message", .glo "_law_plain", .glo "_law_notation", .glo "_law_word"]
def faP3 : List He.Fa := [.glo "_law_key_at", .glo "_law_choice", .glo "_law_node", .glo "_law_parsed", .glo "_law_signs", .glo "_law_body_told", .glo "_law_read", .glo "_law_record", .glo "_law_some", .glo "_law_plainly", .glo "_law_some_deed", .glo "_law_by_hand", .glo "_law_spoilt", .glo "law", .glo "Reader", .glo "CATEGORIES", .glo "CHOICES", .glo "TokenError", .glo "EndError", .cls "Reader"]
def faP4 : List He.Fa := [.noat "Reader" "text", .noat "Reader" "place", .noat "Reader" "inside", .mkr "Reader", .meth "Reader" "sign", .meth "Reader" "skip", .meth "Reader" "expect", .meth "Reader" "run", .meth "Reader" "word", .meth "Reader" "natural", .meth "Reader" "offset", .meth "Reader" "key", .meth "Reader" "choice", .meth "Reader" "braces", .meth "Reader" "escape", .meth "Reader" "node", .meth "Reader" "message", .exc "EndError", .noat "TokenError" "place", .meth "TokenError" "__init__"]
def faP5 : List He.Fa := [.keep "TokenError"]
def faM : List He.Fa := faP0 ++ faP1 ++ faP2 ++ faP3 ++ faP4 ++ faP5
/-! ### TokenError, the tables -/
def clsTokB (K : PySem.W.Frag) (C : Addr) : Bool := match K.lookup C with
  | some ⟨.type t, _, .cls cd, sl⟩ => (match cd.mro, sl.toList with
    | .ref C1 :: bm, [_, _, _, _, some (.builtin b), _] => decide (t = "type" ∧ C1 = C ∧ b = "ValueError.__new__" ∧ cd.hasDel = false ∧ cd.hasDict = true ∧ PySem.HandSPX.refsVE bm = true)
    | _, _ => false)
  | _ => false
theorem clsTokB_ok {K : PySem.W.Frag} {C : Addr} (h : clsTokB K C = true) : ∃ nm q N bs bm sn sub ab col dd k0 k1 k2 k3 k5, K.lookup C = some (excClassObj nm q C N bs bm true sn sub ab col dd k0 k1 k2 k3 k5 "ValueError.__new__") ∧ PySem.HandSPX.refsVE bm = true := by
  unfold clsTokB at h
  split at h
  · next t dd cd sl e =>
    split at h
    · next C1 bm k0 k1 k2 k3 b k5 e1 e2 =>
      obtain ⟨rfl, rfl, rfl, e3, e4, e5⟩ := of_decide_eq_true h
      obtain ⟨nm, bs, mro, N, qn, hd, sn, sub, ab, col, del⟩ := cd
      dsimp only at e1 e3 e4
      subst e1 e3 e4
      obtain ⟨sl⟩ := sl
      dsimp only at e2
      subst e2
      exact ⟨nm, qn, N, bs, bm, sn, sub, ab, col, dd, k0, k1, k2, k3, k5, e, e5⟩
    · cases h
  · cases h
abbrev FnV1 : Type := Option (Str × Str × Arguments × FuncBody × Scope × Addr × Value × Addr)
def tokFn (K : PySem.W.Frag) (f : Addr) : FnV1 := match K.lookup f with
  | some ⟨_, _, .func d, _⟩ => some (d.name, d.qualname, d.params, d.body, d.scope, d.globals, d.defaults, d.builtins)
  | _ => none
def tokFnV : FnV1 := some ("__init__", "TokenError.__init__", defArgs sTok, .stmts (defBody sTok), defScope sTok, mainGlobals, .none, builtinsNs)
def cellB (K : PySem.W.Frag) (cc C : Addr) : Bool := match K.lookup cc with
  | some ⟨_, _, .cell (some (.ref a)), _⟩ => decide (a = C)
  | _ => false
def fileB (K : PySem.W.Frag) (x : Str) (cda : Addr) : Bool := match K.lookup cda with
  | some ⟨_, _, .fields vs, _⟩ => (match (vs[2]? : Option Value) with
    | some (Value.str y _) => x == y
    | _ => false)
  | _ => false
def fnTokB (K : PySem.W.Frag) (x : Str) (C f : Addr) : Bool := match K.lookup f with
  | some ⟨_, _, .func d, _⟩ => (match d.closure, d.code with
    | [(y, cc)], .ref cda => decide (y = "__class__") && (cellB K cc C && (PySem.W.codeIn K (.ref cda) "TokenError.__init__" && fileB K x cda))
    | _, _ => false)
  | _ => false
theorem cellB_ok {K : PySem.W.Frag} {cc C : Addr} (h : cellB K cc C = true) : ∃ cl cld csl, K.lookup cc = some ⟨cl, cld, .cell (some (.ref C)), csl⟩ := by
  unfold cellB at h
  split at h
  · next o1 o2 a o3 e =>
    obtain rfl := of_decide_eq_true h
    exact ⟨o1, o2, o3, e⟩
  · cases h
theorem fileB_ok {K : PySem.W.Frag} {x : Str} {cda : Addr} (h : fileB K x cda = true) : ∃ ccl cdd vs ccs file tf, K.lookup cda = some ⟨ccl, cdd, .fields vs, ccs⟩ ∧ vs[2]? = some (.str file tf) ∧ ((x : Str) == file) = true := by
  unfold fileB at h
  split at h
  · next o1 o2 vs o3 e =>
    split at h
    · next y t e2 => exact ⟨o1, o2, vs, o3, y, t, e, e2, h⟩
    · cases h
  · cases h
theorem fnTok_ok {K : PySem.W.Frag} {x : Str} {C f : Addr} (h : fnTokB K x C f = true) (e : tokFn K f = tokFnV) : ∃ (oc : Value) (od : Option Addr) (kV doc pm : Value) (an : Option Addr) (cda : Addr) (ct : Value) (osl : Array (Option Value)) (cc : Addr),
    K.lookup f = some ⟨oc, od, .func (PySem.W.ksFn "__init__" "TokenError.__init__" (defArgs sTok) (defBody sTok) (defScope sTok) .none kV doc pm an (.ref cda) ct cc), osl⟩ ∧ PySem.W.codeIn K (.ref cda) "TokenError.__init__" = true ∧
    (∃ ccl cdd vs ccs file tf, K.lookup cda = some ⟨ccl, cdd, .fields vs, ccs⟩ ∧ vs[2]? = some (.str file tf) ∧ ((x : Str) == file) = true) ∧
    ∃ cl cld csl, K.lookup cc = some ⟨cl, cld, .cell (some (.ref C)), csl⟩ := by
  unfold fnTokB at h
  unfold tokFn at e
  split at h
  · next oc od d osl ho =>
    rw [ho] at e
    obtain ⟨n1, n2, n3, n4, n5, n6, n7, n8, n9, n10, n11, n12, n13, n14, n15⟩ := d
    dsimp only at e h
    unfold tokFnV at e
    simp only [Option.some.injEq, Prod.mk.injEq] at e
    obtain ⟨e1, e2, e3, e4, e5, e6, e7, e8⟩ := e
    split at h
    · next _ _ y cc cda =>
      obtain ⟨h1, h2⟩ := He.ba h
      obtain ⟨h3, h4⟩ := He.ba h2
      obtain ⟨h5, h6⟩ := He.ba h4
      obtain rfl := of_decide_eq_true h1
      subst e1 e2 e3 e4 e5 e6 e7 e8
      exact ⟨oc, od, _, _, _, _, cda, _, osl, cc, ho, h5, fileB_ok h6, cellB_ok h3⟩
    · cases h
  · cases h
def eqA (a b : Option Value) : Bool := decide (a = b)
def eqBo (a b : Option Bool) : Bool := decide (a = b)
abbrev fTok (K : PySem.W.Frag) : Addr := He.ma K (cTok K) "__init__"
def tokB (K : PySem.W.Frag) : Bool := clsTokB K (cTok K) && (He.eqO (PySem.W.findIn K (.ref (cTok K)) "__setattr__") (some (some (.builtin "object.__setattr__"))) && (eqA (PySem.W.typeIn K (.ref (fTok K))) (some (.type "function")) &&
  (eqBo (PySem.W.subIn K (.ref (cTok K)) (.type "BaseException")) (some true) && (eqBo (PySem.W.subIn K (.ref (cTok K)) (.type "ValueError")) (some true) && (eqA (PySem.W.typeIn K (.ref (cTok K))) (some (.type "type")) &&
  (eqBo (PySem.W.mroIn K (cTok K) (.ref (cTok K))) (some true) && (He.eqO (PySem.W.nsIn K cStatics "thirdparty.any") (some none) && (He.eqO (PySem.W.ks_superIn K (cTok K) (cTok K) "__init__") (some (some (.builtin "ValueError.__init__"))) &&
  fnTokB K PySem.Challenge.pw_messageways_k52_records.main.file (cTok K) (fTok K)))))))))
def exnB (K : PySem.W.Frag) : Bool := eqBo (PySem.W.exmAny K (.ref (cTok K)) [.ref (cTok K), .ref (cEnd K)]) (some true) && eqBo (PySem.W.exmAny K (.ref (cEnd K)) [.ref (cTok K), .ref (cEnd K)]) (some true)
def tabsM (K : PySem.W.Frag) : Bool := He.tupB K "CATEGORIES" (cats.map fun c => He.Dv.str (S c)) && He.tupB K "CHOICES" [.str (S tSel), .str (S tPlu)]
def exB (K : PySem.W.Frag) : Bool := tokB K && (exnB K && tabsM K)
/-! ### the Hook -/
def asM (g : Addr → Option Obj) : List Addr := cStatics :: He.asD g 5
abbrev AlM : Type := (He.AlD × FnV1) × Bool
def seeM (K : PySem.W.Frag) : AlM := ((He.obsD faM fnM K, tokFn K (fTok K)), exB K)
def goalM : AlM := ((He.valD fnM, tokFnV), true)
def obM (g : Addr → Option Obj) : AlM := seeM (He.frG g (asM g))
def hkM : PySem.W.Hook where
  α := AlM
  obs := fun s => obM s.heap.get?
  val := fun _ => goalM
  says := fun _ h => ∃ K : PySem.W.Frag, K.In h ∧ seeM K = goalM
  of := fun _ _ e => ⟨_, He.frG_in, e⟩
  keeps := fun _ _ _ h k => match h with
    | ⟨K, hK, c⟩ => ⟨K, hK.keeps k, c⟩
theorem obM_eq {g : Addr → Option Obj} {s : Shared} (h : ∀ a, g a = s.heap.get? a) : obM g = hkM.obs s := by
  obtain rfl : g = s.heap.get? := funext h
  rfl
abbrev RwM : PySem.W.OpenRow := PySem.W.OpenLaw.row PySem.Challenge.rw_messageways_k52_records
def obS (s : PySem.W.SharedT) : AlM := obM (HandSHeadRun.getT s)
theorem obS_eq (s : PySem.W.SharedT) : obS s = hkM.obs s.abs := obM_eq (HandSHeadRun.getT_eq s)
abbrev vwM : Program := PySem.W.view RwM.prog [73]
def loP0 : List Str := ["MessagewaysError", "TokenError", "EndError", "TEXT", "SHOW", "NUMBER", "SELECT", "PLURAL", "OTHER", "CATEGORIES", "CHOICES", "cases_of", "other_of", "plain_node", "plain", "LETTERS_notation", "FIGURES", "NAME_MOST", "OFFSET_MOST", "EXACT_MOST"]
def loP1 : List Str := ["QUOTE", "ESCAPED", "SPACES", "OFFSET", "format_text", "format_key", "format_choice", "format_node", "format_message", "is_sign", "Reader", "parse_message", "MARK", "PUT", "DROP", "UNDO", "LETTERS_journal", "PRINTED", "octets_of", "text_of"]
def loP2 : List Str := ["body_of", "record_of", "key_of", "message_of", "deed_of", "recovered", "_law_cell", "_law_row", "_law_box", "_law_draw", "_law_same", "_law_message", "_law_plain", "_law_notation", "_law_word", "_law_key_at", "_law_choice", "_law_node", "_law_parsed", "_law_signs"]
def loP3 : List Str := ["_law_body_told", "_law_read", "_law_record", "_law_some", "_law_plainly", "_law_some_deed", "_law_by_hand", "_law_spoilt"]
def loM : List Str := loP0 ++ loP1 ++ loP2 ++ loP3
end Mw

set_option Elab.async false
set_option linter.all false
set_option maxRecDepth 100000
set_option maxHeartbeats 0
/-! MwHeadR: the run. -/
namespace Mw
open PySem PySem.Spec PyProof.Rows L2
theorem runM (w : World) : HandSHeadRun.RunEq RwM vwM hkM obS 3000 loM w := by
  intro os
  kernel_rfl
end Mw

set_option Elab.async false
set_option linter.all false
set_option maxRecDepth 100000
set_option maxHeartbeats 4000000
/-! MwHead2: Tx and Ex out of the head's facts (printed by genh.py). -/
namespace Mw
open PySem PySem.Spec PyProof.Rows L2
open SX (S S_cat S_len S_inj)
section
variable {K : PySem.W.Frag} {h : Heap} {mg : Str → Option Value}
theorem seeM.d (c : seeM K = goalM) : He.SaysD faM fnM K := congrArg (fun z : AlM => z.1.1) c
theorem seeM.f (c : seeM K = goalM) : tokFn K (fTok K) = tokFnV := congrArg (fun z : AlM => z.1.2) c
theorem seeM.x (c : seeM K = goalM) : exB K = true := congrArg (fun z : AlM => z.2) c
theorem tx_of (X : K.In h) (G : h.Ns mainGlobals mg) (c : seeM K = goalM) : Tx K mg :=
  have d := seeM.d c
  have tb := (He.ba (He.ba (seeM.x c)).2).2
  { s_TEXT := He.str_ok X G (d.fact 0 (f := .str "TEXT" (S [116, 101, 120, 116])) rfl)
    s_SHOW := He.str_ok X G (d.fact 1 (f := .str "SHOW" (S [115, 104, 111, 119])) rfl)
    s_NUMBER := He.str_ok X G (d.fact 2 (f := .str "NUMBER" (S [110, 117, 109, 98, 101, 114])) rfl)
    s_SELECT := He.str_ok X G (d.fact 3 (f := .str "SELECT" (S [115, 101, 108, 101, 99, 116])) rfl)
    s_PLURAL := He.str_ok X G (d.fact 4 (f := .str "PLURAL" (S [112, 108, 117, 114, 97, 108])) rfl)
    s_OTHER := He.str_ok X G (d.fact 5 (f := .str "OTHER" (S [111, 116, 104, 101, 114])) rfl)
    s_LETTERS_notation := He.str_ok X G (d.fact 6 (f := .str "LETTERS_notation" (S [97, 98, 99, 100, 101, 102, 103, 104, 105, 106, 107, 108, 109, 110, 111, 112, 113, 114, 115, 116, 117, 118, 119, 120, 121, 122])) rfl)
    s_FIGURES := He.str_ok X G (d.fact 7 (f := .str "FIGURES" (S [48, 49, 50, 51, 52, 53, 54, 55, 56, 57])) rfl)
    s_QUOTE := He.str_ok X G (d.fact 8 (f := .str "QUOTE" (S [39])) rfl)
    s_ESCAPED := He.str_ok X G (d.fact 9 (f := .str "ESCAPED" (S [123, 125, 35, 39])) rfl)
    s_SPACES := He.str_ok X G (d.fact 10 (f := .str "SPACES" (S [32, 10])) rfl)
    s_OFFSET := He.str_ok X G (d.fact 11 (f := .str "OFFSET" (S [111, 102, 102, 115, 101, 116, 58])) rfl)
    s_LETTERS_journal := He.str_ok X G (d.fact 12 (f := .str "LETTERS_journal" (S [97, 98, 99, 100, 101, 102, 103, 104, 105, 106, 107, 108, 109, 110, 111, 112, 113, 114, 115, 116, 117, 118, 119, 120, 121, 122])) rfl)
    s_PRINTED := He.str_ok X G (d.fact 13 (f := .str "PRINTED" (S [32, 33, 34, 35, 36, 38, 39, 40, 41, 42, 43, 44, 45, 46, 47, 48, 49, 50, 51, 52, 53, 54, 55, 56, 57, 58, 59, 60, 61, 62, 63, 64, 65, 66, 67, 68, 69, 70, 71, 72, 73, 74, 75, 76, 77, 78, 79, 80, 81, 82, 83, 84, 85, 86, 87, 88, 89, 90, 91, 92, 93, 94, 95, 96, 97, 98, 99, 100, 101, 102, 103, 104, 105, 106, 107, 108, 109, 110, 111, 112, 113, 114, 115, 116, 117, 118, 119, 120, 121, 122, 123, 124, 125, 126])) rfl)
    i_NAME_MOST := He.int_ok X G (d.fact 14 (f := .int "NAME_MOST" 8) rfl)
    i_OFFSET_MOST := He.int_ok X G (d.fact 15 (f := .int "OFFSET_MOST" 9) rfl)
    i_EXACT_MOST := He.int_ok X G (d.fact 16 (f := .int "EXACT_MOST" 999) rfl)
    i_MARK := He.int_ok X G (d.fact 17 (f := .int "MARK" 170) rfl)
    i_PUT := He.int_ok X G (d.fact 18 (f := .int "PUT" 1) rfl)
    i_DROP := He.int_ok X G (d.fact 19 (f := .int "DROP" 2) rfl)
    i_UNDO := He.int_ok X G (d.fact 20 (f := .int "UNDO" 3) rfl)
    f_len := He.free_ok X G (d.fact 21 (f := .free "len") rfl)
    f_isinstance := He.free_ok X G (d.fact 22 (f := .free "isinstance") rfl)
    f_int := He.free_ok X G (d.fact 23 (f := .free "int") rfl)
    f_str := He.free_ok X G (d.fact 24 (f := .free "str") rfl)
    f_range := He.free_ok X G (d.fact 25 (f := .free "range") rfl)
    f_list := He.free_ok X G (d.fact 26 (f := .free "list") rfl)
    f_ord := He.free_ok X G (d.fact 27 (f := .free "ord") rfl)
    f_sum := He.free_ok X G (d.fact 28 (f := .free "sum") rfl)
    f_repr := He.free_ok X G (d.fact 29 (f := .free "repr") rfl)
    f_super := He.free_ok X G (d.fact 30 (f := .free "super") rfl)
    f_ValueError := He.free_ok X G (d.fact 31 (f := .free "ValueError") rfl)
    g_cases_of := He.glo_ok X G (d.fact 32 (f := .glo "cases_of") rfl)
    d_cases_of := d.def_ 0 (d := dF0) rfl
    g_other_of := He.glo_ok X G (d.fact 33 (f := .glo "other_of") rfl)
    d_other_of := d.def_ 1 (d := dF1) rfl
    g_plain_node := He.glo_ok X G (d.fact 34 (f := .glo "plain_node") rfl)
    d_plain_node := d.def_ 2 (d := dF2) rfl
    g_plain := He.glo_ok X G (d.fact 35 (f := .glo "plain") rfl)
    d_plain := d.def_ 3 (d := dF3) rfl
    g_format_text := He.glo_ok X G (d.fact 36 (f := .glo "format_text") rfl)
    d_format_text := d.def_ 4 (d := dF4) rfl
    g_format_key := He.glo_ok X G (d.fact 37 (f := .glo "format_key") rfl)
    d_format_key := d.def_ 5 (d := dF5) rfl
    g_format_choice := He.glo_ok X G (d.fact 38 (f := .glo "format_choice") rfl)
    d_format_choice := d.def_ 6 (d := dF6) rfl
    g_format_node := He.glo_ok X G (d.fact 39 (f := .glo "format_node") rfl)
    d_format_node := d.def_ 7 (d := dF7) rfl
    g_format_message := He.glo_ok X G (d.fact 40 (f := .glo "format_message") rfl)
    d_format_message := d.def_ 8 (d := dF8) rfl
    g_is_sign := He.glo_ok X G (d.fact 41 (f := .glo "is_sign") rfl)
    d_is_sign := d.def_ 9 (d := dF9) rfl
    g_parse_message := He.glo_ok X G (d.fact 42 (f := .glo "parse_message") rfl)
    d_parse_message := d.def_ 10 (d := dF10) rfl
    g_octets_of := He.glo_ok X G (d.fact 43 (f := .glo "octets_of") rfl)
    d_octets_of := d.def_ 11 (d := dF11) rfl
    g_text_of := He.glo_ok X G (d.fact 44 (f := .glo "text_of") rfl)
    d_text_of := d.def_ 12 (d := dF12) rfl
    g_body_of := He.glo_ok X G (d.fact 45 (f := .glo "body_of") rfl)
    d_body_of := d.def_ 13 (d := dF13) rfl
    g_record_of := He.glo_ok X G (d.fact 46 (f := .glo "record_of") rfl)
    d_record_of := d.def_ 14 (d := dF14) rfl
    g_key_of := He.glo_ok X G (d.fact 47 (f := .glo "key_of") rfl)
    d_key_of := d.def_ 15 (d := dF15) rfl
    g_message_of := He.glo_ok X G (d.fact 48 (f := .glo "message_of") rfl)
    d_message_of := d.def_ 16 (d := dF16) rfl
    g_deed_of := He.glo_ok X G (d.fact 49 (f := .glo "deed_of") rfl)
    d_deed_of := d.def_ 17 (d := dF17) rfl
    g_recovered := He.glo_ok X G (d.fact 50 (f := .glo "recovered") rfl)
    d_recovered := d.def_ 18 (d := dF18) rfl
    g_law_cell := He.glo_ok X G (d.fact 51 (f := .glo "_law_cell") rfl)
    d_law_cell := d.def_ 19 (d := dF19) rfl
    g_law_row := He.glo_ok X G (d.fact 52 (f := .glo "_law_row") rfl)
    d_law_row := d.def_ 20 (d := dF20) rfl
    g_law_box := He.glo_ok X G (d.fact 53 (f := .glo "_law_box") rfl)
    d_law_box := d.def_ 21 (d := dF21) rfl
    g_law_draw := He.glo_ok X G (d.fact 54 (f := .glo "_law_draw") rfl)
    d_law_draw := d.def_ 22 (d := dF22) rfl
    g_law_same := He.glo_ok X G (d.fact 55 (f := .glo "_law_same") rfl)
    d_law_same := d.def_ 23 (d := dF23) rfl
    g_law_message := He.glo_ok X G (d.fact 56 (f := .glo "_law_message") rfl)
    d_law_message := d.def_ 24 (d := dF24) rfl
    g_law_plain := He.glo_ok X G (d.fact 57 (f := .glo "_law_plain") rfl)
    d_law_plain := d.def_ 25 (d := dF25) rfl
    g_law_notation := He.glo_ok X G (d.fact 58 (f := .glo "_law_notation") rfl)
    d_law_notation := d.def_ 26 (d := dF26) rfl
    g_law_word := He.glo_ok X G (d.fact 59 (f := .glo "_law_word") rfl)
    d_law_word := d.def_ 27 (d := dF27) rfl
    g_law_key_at := He.glo_ok X G (d.fact 60 (f := .glo "_law_key_at") rfl)
    d_law_key_at := d.def_ 28 (d := dF28) rfl
    g_law_choice := He.glo_ok X G (d.fact 61 (f := .glo "_law_choice") rfl)
    d_law_choice := d.def_ 29 (d := dF29) rfl
    g_law_node := He.glo_ok X G (d.fact 62 (f := .glo "_law_node") rfl)
    d_law_node := d.def_ 30 (d := dF30) rfl
    g_law_parsed := He.glo_ok X G (d.fact 63 (f := .glo "_law_parsed") rfl)
    d_law_parsed := d.def_ 31 (d := dF31) rfl
    g_law_signs := He.glo_ok X G (d.fact 64 (f := .glo "_law_signs") rfl)
    d_law_signs := d.def_ 32 (d := dF32) rfl
    g_law_body_told := He.glo_ok X G (d.fact 65 (f := .glo "_law_body_told") rfl)
    d_law_body_told := d.def_ 33 (d := dF33) rfl
    g_law_read := He.glo_ok X G (d.fact 66 (f := .glo "_law_read") rfl)
    d_law_read := d.def_ 34 (d := dF34) rfl
    g_law_record := He.glo_ok X G (d.fact 67 (f := .glo "_law_record") rfl)
    d_law_record := d.def_ 35 (d := dF35) rfl
    g_law_some := He.glo_ok X G (d.fact 68 (f := .glo "_law_some") rfl)
    d_law_some := d.def_ 36 (d := dF36) rfl
    g_law_plainly := He.glo_ok X G (d.fact 69 (f := .glo "_law_plainly") rfl)
    d_law_plainly := d.def_ 37 (d := dF37) rfl
    g_law_some_deed := He.glo_ok X G (d.fact 70 (f := .glo "_law_some_deed") rfl)
    d_law_some_deed := d.def_ 38 (d := dF38) rfl
    g_law_by_hand := He.glo_ok X G (d.fact 71 (f := .glo "_law_by_hand") rfl)
    d_law_by_hand := d.def_ 39 (d := dF39) rfl
    g_law_spoilt := He.glo_ok X G (d.fact 72 (f := .glo "_law_spoilt") rfl)
    d_law_spoilt := d.def_ 40 (d := dF40) rfl
    g_law := He.glo_ok X G (d.fact 73 (f := .glo "law") rfl)
    d_law := d.def_ 41 (d := dF41) rfl
    g_Reader := He.glo_ok X G (d.fact 74 (f := .glo "Reader") rfl)
    cls := He.cls_ok (d.fact 79 (f := .cls "Reader") rfl)
    no_text := He.noat_ok (d.fact 80 (f := .noat "Reader" "text") rfl)
    no_place := He.noat_ok (d.fact 81 (f := .noat "Reader" "place") rfl)
    no_inside := He.noat_ok (d.fact 82 (f := .noat "Reader" "inside") rfl)
    mkr := He.mkr_ok (d.fact 83 (f := .mkr "Reader") rfl)
    d_Reader_init := d.def_ 42 (d := dF42) rfl
    m_sign := He.meth_ok (d.fact 84 (f := .meth "Reader" "sign") rfl)
    d_Reader_sign := d.def_ 43 (d := dF43) rfl
    m_skip := He.meth_ok (d.fact 85 (f := .meth "Reader" "skip") rfl)
    d_Reader_skip := d.def_ 44 (d := dF44) rfl
    m_expect := He.meth_ok (d.fact 86 (f := .meth "Reader" "expect") rfl)
    d_Reader_expect := d.def_ 45 (d := dF45) rfl
    m_run := He.meth_ok (d.fact 87 (f := .meth "Reader" "run") rfl)
    d_Reader_run := d.def_ 46 (d := dF46) rfl
    m_word := He.meth_ok (d.fact 88 (f := .meth "Reader" "word") rfl)
    d_Reader_word := d.def_ 47 (d := dF47) rfl
    m_natural := He.meth_ok (d.fact 89 (f := .meth "Reader" "natural") rfl)
    d_Reader_natural := d.def_ 48 (d := dF48) rfl
    m_offset := He.meth_ok (d.fact 90 (f := .meth "Reader" "offset") rfl)
    d_Reader_offset := d.def_ 49 (d := dF49) rfl
    m_key := He.meth_ok (d.fact 91 (f := .meth "Reader" "key") rfl)
    d_Reader_key := d.def_ 50 (d := dF50) rfl
    m_choice := He.meth_ok (d.fact 92 (f := .meth "Reader" "choice") rfl)
    d_Reader_choice := d.def_ 51 (d := dF51) rfl
    m_braces := He.meth_ok (d.fact 93 (f := .meth "Reader" "braces") rfl)
    d_Reader_braces := d.def_ 52 (d := dF52) rfl
    m_escape := He.meth_ok (d.fact 94 (f := .meth "Reader" "escape") rfl)
    d_Reader_escape := d.def_ 53 (d := dF53) rfl
    m_node := He.meth_ok (d.fact 95 (f := .meth "Reader" "node") rfl)
    d_Reader_node := d.def_ 54 (d := dF54) rfl
    m_message := He.meth_ok (d.fact 96 (f := .meth "Reader" "message") rfl)
    d_Reader_message := d.def_ 55 (d := dF55) rfl
    g_CATEGORIES := He.glo_ok X G (d.fact 75 (f := .glo "CATEGORIES") rfl)
    t_CATEGORIES := fun H => He.tupB_ok (He.ba tb).1 H
    g_CHOICES := He.glo_ok X G (d.fact 76 (f := .glo "CHOICES") rfl)
    t_CHOICES := fun H => He.tupB_ok (He.ba tb).2 H }
theorem ex_of (X : K.In h) (G : h.Ns mainGlobals mg) (c : seeM K = goalM) : Ex PySem.Challenge.pw_messageways_k52_records K mg := by
  have d := seeM.d c
  obtain ⟨t, x2⟩ := He.ba (seeM.x c)
  obtain ⟨x, _⟩ := He.ba x2
  obtain ⟨a1, a2⟩ := He.ba x
  obtain ⟨t1, t⟩ := He.ba t
  obtain ⟨t2, t⟩ := He.ba t
  obtain ⟨t3, t⟩ := He.ba t
  obtain ⟨t4, t⟩ := He.ba t
  obtain ⟨t5, t⟩ := He.ba t
  obtain ⟨t6, t⟩ := He.ba t
  obtain ⟨t7, t⟩ := He.ba t
  obtain ⟨t8, t⟩ := He.ba t
  obtain ⟨t9, t10⟩ := He.ba t
  obtain ⟨m1, m2, m3⟩ := He.meth_ok (K := K) (d.fact 99 (f := .meth "TokenError" "__init__") rfl)
  obtain ⟨e1, e2, e3, e4⟩ := He.exc_ok (K := K) (d.fact 97 (f := .exc "EndError") rfl)
  refine ⟨⟨He.glo_ok X G (d.fact 77 (f := .glo "TokenError") rfl), He.free_ok X G (d.fact 30 (f := .free "super") rfl), clsTokB_ok t1, He.eqO_ok t2, He.noat_ok (d.fact 98 (f := .noat "TokenError" "place") rfl), m1, of_decide_eq_true t3, He.keep_ok (d.fact 100 (f := .keep "TokenError") rfl), of_decide_eq_true t4, of_decide_eq_true t5, of_decide_eq_true t6, of_decide_eq_true t7, He.eqO_ok t8, He.eqO_ok t9, by decide +kernel, fnTok_ok t10 (seeM.f c)⟩, of_decide_eq_true a1, of_decide_eq_true a2, ?_, He.glo_ok X G (d.fact 78 (f := .glo "EndError") rfl), e2, e3, e4⟩
  exact ⟨_, _, _, _, F.excBase_ValueError, e1⟩
end
end Mw

set_option Elab.async false
set_option linter.all false
set_option maxRecDepth 100000
set_option maxHeartbeats 1000000
/-! MwG: the law's call behind the top, where no repr is under way. -/
namespace Mw
open PySem PySem.Spec PyProof.Rows L2
/-- the script as it is locked, if it is no object of the module -/
def lockH (K : PySem.W.Frag) (a : Addr) (ob : Obj) (xs : List V) : Hp := fun b => if b = a ∧ K.lookup a = none then some (.frz ob (.lst xs)) else none
theorem lockH_some {K : PySem.W.Frag} {a b : Addr} {ob : Obj} {xs : List V} {u : HO} (h : lockH K a ob xs b = some u) : (b = a ∧ K.lookup a = none) ∧ u = .frz ob (.lst xs) := by
  unfold lockH at h
  split at h
  · next c => cases h; exact ⟨c, rfl⟩
  · cases h
theorem lockH_none {K : PySem.W.Frag} {a b : Addr} {ob : Obj} {xs : List V} (h : ¬ (b = a ∧ K.lookup a = none)) : lockH K a ob xs b = none := if_neg h
theorem law_end {P : Program} {w : World} {K : PySem.W.Frag} {mg mb : Str → Option Value} {k : Nat} {fa a : Addr} {x : Str} {sp : Sp} {s : Shared} {vs : List Value} {ns : List Int}
    (hK : K.In s.heap) (hmg : s.heap.Ns mainGlobals mg) (hmb : s.heap.Ns builtinsNs mb) (hbt : ∀ y : Str, y ≠ "__name__" → mb y = bootBuiltins y) (hnl : s.heap.NoLimit) (hgs : s.gens = #[])
    (hob : s.heap.get? a = some { cls := .type "list", data := .seq vs.toArray }) (hin : IntsAre vs ns) (hsz : ns.length ≤ sizeLine) (hrm : Room k callerA)
    (C : ∀ base : Heap, CalG P w K mg base k x sp) (hx : mg x = some (.ref fa))
    (hsp : ∀ H : Hp, SqL K H a (ns.map V.int) → sp [.ref a] H (fun v _ => v = .bl true) fun _ _ _ => False) :
    codeAny (model P w) callerA (.call (.ref fa) ⟨[.ref a], []⟩) (fun r s' => r = .ok (.ret (.bool true)) ∧ OldK s.heap s'.heap ∧ s'.os = s.os ∧ AllBare s'.gens) s := by
  have rv := vals_ints hin
  have hvl := hin.length
  let ob : Obj := { cls := .type "list", data := .seq vs.toArray }
  let H : Hp := lockH K a ob (ns.map V.int)
  have base : ∀ {b : Addr} {o : Obj}, s.heap.get? b = some o → (b = a → K.lookup a ≠ none) → (hidT s.heap H).get? b = some o := fun {b o} e n => hidT_get e (lockH_none fun z => n z.1 z.2)
  have dic : ∀ {b : Addr} {o : Obj} {es : Array DictEntry} {ep : Nat}, s.heap.get? b = some o → o.data = .dict es ep → b ≠ a := fun {b o es ep} e d z => by
    subst z
    rw [hob] at e
    cases e
    cases (show Data.seq vs.toArray _ = Data.dict es ep from d)
  have nsp : ∀ {b : Addr} {m : Str → Option Value}, s.heap.Ns b m → (hidT s.heap H).Ns b m := fun {b m} h => by
    obtain ⟨o, es, ep, e, d, r⟩ := h
    exact ⟨o, es, ep, base e fun z => absurd z (dic e d), d, r⟩
  have hKb : K.In (hidT s.heap H) := fun b o e => base (hK b o e) fun z z2 => by
    rw [z, z2] at e
    cases e
  have hM : Mod K mg (hidT s.heap H) := by
    refine ⟨hKb, nsp hmg, ⟨mb, nsp hmb, hbt⟩, ?_⟩
    obtain ⟨mc, h1, h2⟩ := hnl
    exact ⟨mc, nsp h1, h2⟩
  have hok : HOk P w H s.heap := fun b u e => by
    obtain ⟨⟨rfl, _⟩, rfl⟩ := lockH_some e
    exact ⟨hob, by rw [List.length_map]; exact hsz, vs, _, rv, hob⟩
  have hS : SqL K H a (ns.map V.int) := by
    cases z : K.lookup a with
    | none => exact .inl (.inr ⟨ob, if_pos ⟨rfl, z⟩⟩)
    | some o =>
      have e := hK a o z
      rw [hob] at e
      cases e
      exact .inr ⟨_, vs.toArray, _, z, rfl, rfl, rfl, by rw [List.size_toArray, hvl]; exact hsz, by simpa using rv⟩
  obtain ⟨f, fd, ps, F, hf, _, bd⟩ := (C (hidT s.heap H)).ex
  have ef : f = fa := by
    rw [hx] at hf
    cases hf
    rfl
  subst ef
  have hsp0 := hsp H hS
  have hlen : ps.length = 1 := (F.len _ _ _ _ hsp0).symm
  have bb := bd s [.ref a] hK (by rw [List.append_nil]; exact hlen.symm)
  rw [List.append_nil] at bb
  have env : Env0 P w K mg (hidT s.heap H) callerA [] s H :=
    { frames := rfl, mod := hM, bs := fun b o e => of_hidT e, bsz := Nat.le_of_eq (hidT_size _ _), funs := trivial, frf := (fun b hb => by cases hb), hok := hok, bare := .of_eq hgs }
  refine codeAny_mono (F.run callerA [] s H _ [.ref a] [.ref a] _ _ rfl hrm env bb (.cons rfl .nil) hsp0) fun r s' hq => ?_
  match r, hq with
  | .error e, hq => exact False.elim hq
  | .ok .next, hq => exact False.elim hq
  | .ok .brk, hq => exact False.elim hq
  | .ok .cont, hq => exact False.elim hq
  | .ok (.ret u), hq =>
    obtain ⟨v, H', e1, e2, un, hok', rvu, ev⟩ := hq
    have ev : v = .bl true := ev
    subst ev
    obtain rfl : u = Value.bool true := rvu
    refine ⟨rfl, .of_keep fun b o e => ?_, e1, e2⟩
    by_cases z : b = a ∧ K.lookup a = none
    · have hb : H b = some (.frz ob (.lst (ns.map V.int))) := if_pos z
      have h1 := (hok b _ hb).1
      have h2 := (hok' b _ (un.frzs b _ _ hb)).1
      rw [h1] at e
      cases e
      exact h2
    · exact un.keep b o e (lockH_none z) (fun q => by cases q) (fun q => by cases q)
end Mw
open PySem PySem.W PyProof.Rows
set_option maxRecDepth 100000 in
set_option maxHeartbeats 8000000 in
theorem PySem.Challenge.cw_messageways_k52_records_holds : PySem.Challenge.rw_messageways_k52_records.Holds := by
  w_on; o_law
  refine HandSHeadRun.head_any (r := Mw.RwM) (q := Mw.vwM) (H := Mw.hkM) (ob := Mw.obS) (M := 3000) (loose := Mw.loM) (d := HandSHeadRun.topDef Mw.RwM.prog 73) (kwd := []) Mw.obS_eq
    (by kernel_rfl) (fun s => by kernel_rfl) Mw.runM (by kernel_rfl) (by kernel_rfl) (by kernel_rfl) (by rfl) (by first | assumption | decide +kernel) (by decide +kernel) ⟨rfl, rfl, rfl, rfl, rfl, by decide +kernel⟩ ?hw ?hc
  case hw => w_witness2
  case hc =>
    refine Att.attach_call (l := PySem.Challenge.rw_messageways_k52_records) (n := 63) rfl (by kernel_rfl) fun w s₀ s mg mb fa o pm cd doc a vs ns G Y ho hd hcd hmg hobj hints hlen hg => ?_
    obtain ⟨K, hK, c⟩ := Y
    have T := Mw.tx_of hK G.T.g c
    have X := Mw.ex_of hK G.T.g c
    have en : (HandSHeadRun.topDef Mw.RwM.prog 73).name = ("law" : PySem.Str) := by kernel_rfl
    rw [en] at hmg
    exact Mw.law_end hK G.T.g G.T.b G.T.builtins G.T.nolimit hg hobj hints (Nat.le_trans hlen (by decide)) ⟨rfl, by decide, by decide⟩ (fun base => Mw.ok_law T X) hmg fun H hS => ⟨a, ns, rfl, hS, fun _ => rfl⟩

