import PyProof.Rows.All
import Wide.All
import OpenK.AllK
import Wide.FinOn
import HandS.ForMost
import HandS.ForDict
import HandS.Defaults
import HandS.MakeKw
import HandS.MakeKwOnly
import HandS.IsInst
import HandS.Wide
import HandS.Codes
import HandS.More
import HandS.Ends
import HandS.Style
import PyProof.InstEq
import PyProof.ReprRoads
import PyProof.CallFns
import PySem.Challenge.RW_boxfillings_k82_classes_made_by_hand
set_option Elab.async false
set_option linter.all false
set_option maxRecDepth 100000
set_option maxHeartbeats 4000000
namespace Kc
open PySem PySem.Spec PyProof.Rows L2
/-! ### the text -/
def topS (i : Nat) : Stmt := PySem.Challenge.pw_boxfillings_k82_classes_made_by_hand.main.body.getD i (.Pass ⟨0, 0, 0, 0⟩)
abbrev sPen : Stmt := topS 36
abbrev sDraw : Stmt := topS 37
abbrev sPick : Stmt := topS 38
theorem scPen : FnScope ["script", "fold", "cell"] ["script"] (defScope sPen) := ⟨rfl, rfl, rfl, by decide +kernel, rfl, by decide +kernel, by decide +kernel⟩
theorem scDraw : FnScope ["pen", "many", "cell", "digit", "blend"] ["pen", "many"] (defScope sDraw) := ⟨rfl, rfl, rfl, by decide +kernel, rfl, by decide +kernel, by decide +kernel⟩
theorem scPick : FnScope ["pen", "some"] ["pen", "some"] (defScope sPick) := ⟨rfl, rfl, rfl, by decide +kernel, rfl, by decide +kernel, by decide +kernel⟩
/-! ### the pen -/
structure Pen where
  cells : List Int
  at_ : Nat
  digits : Int
  count : Int
  fold : Int
abbrev kCells : Key := .inr ("cells" : Str)
abbrev kAt : Key := .inr ("at" : Str)
abbrev kDigits : Key := .inr ("digits" : Str)
abbrev kCount : Key := .inr ("count" : Str)
abbrev kFold : Key := .inr ("fold" : Str)
def penKV (c : Addr) (p : Pen) : List (Key × V) := [(kCells, .ref c), (kAt, .int p.at_), (kDigits, .int p.digits), (kCount, .int p.count), (kFold, .int p.fold)]
theorem n1 : ¬ kCells = kAt := by decide +kernel
theorem n2 : ¬ kCells = kDigits := by decide +kernel
theorem n3 : ¬ kCells = kCount := by decide +kernel
theorem n4 : ¬ kCells = kFold := by decide +kernel
theorem n5 : ¬ kAt = kDigits := by decide +kernel
theorem n6 : ¬ kAt = kCount := by decide +kernel
theorem n7 : ¬ kAt = kFold := by decide +kernel
theorem n8 : ¬ kDigits = kCount := by decide +kernel
theorem n9 : ¬ kDigits = kFold := by decide +kernel
theorem n10 : ¬ kCount = kFold := by decide +kernel
theorem g1 (c : Addr) (p : Pen) : valV (penKV c p) kCells = some (.ref c) := valV_pos rfl
theorem g2 (c : Addr) (p : Pen) : valV (penKV c p) kAt = some (.int p.at_) := (valV_neg n1).trans (valV_pos rfl)
theorem g3 (c : Addr) (p : Pen) : valV (penKV c p) kDigits = some (.int p.digits) := (valV_neg n2).trans ((valV_neg n5).trans (valV_pos rfl))
theorem g4 (c : Addr) (p : Pen) : valV (penKV c p) kCount = some (.int p.count) := (valV_neg n3).trans ((valV_neg n6).trans ((valV_neg n8).trans (valV_pos rfl)))
theorem g5 (c : Addr) (p : Pen) : valV (penKV c p) kFold = some (.int p.fold) := (valV_neg n4).trans ((valV_neg n7).trans ((valV_neg n9).trans ((valV_neg n10).trans (valV_pos rfl))))
theorem put_eq {c : Addr} {p : Pen} {k : Key} {v : V} (h : valV (penKV c p) k ≠ none) : putK (penKV c p) k v = (penKV c p).map fun kv => if kv.1 = k then (kv.1, v) else kv := by
  have e : ((penKV c p).any fun kv => decide (kv.1 = k)) = true := by
    rw [valV_any]
    cases q : valV (penKV c p) k with
    | none => exact absurd q h
    | some _ => rfl
  unfold putK
  rw [if_pos e]
theorem p2 (c : Addr) (p : Pen) (n : Nat) : putK (penKV c p) kAt (.int n) = penKV c { p with at_ := n } := by
  rw [put_eq (by rw [g2]; exact fun z => nomatch z)]
  simp only [penKV, List.map_cons, List.map_nil, if_neg n1, if_pos, if_neg (Ne.symm n5), if_neg (Ne.symm n6), if_neg (Ne.symm n7)]
theorem p3 (c : Addr) (p : Pen) (n : Int) : putK (penKV c p) kDigits (.int n) = penKV c { p with digits := n } := by
  rw [put_eq (by rw [g3]; exact fun z => nomatch z)]
  simp only [penKV, List.map_cons, List.map_nil, if_neg n2, if_pos, if_neg n5, if_neg (Ne.symm n8), if_neg (Ne.symm n9)]
theorem p4 (c : Addr) (p : Pen) (n : Int) : putK (penKV c p) kCount (.int n) = penKV c { p with count := n } := by
  rw [put_eq (by rw [g4]; exact fun z => nomatch z)]
  simp only [penKV, List.map_cons, List.map_nil, if_neg n3, if_pos, if_neg n6, if_neg n8, if_neg (Ne.symm n10)]
theorem p5 (c : Addr) (p : Pen) (n : Int) : putK (penKV c p) kFold (.int n) = penKV c { p with fold := n } := by
  rw [put_eq (by rw [g5]; exact fun z => nomatch z)]
  simp only [penKV, List.map_cons, List.map_nil, if_neg n4, if_pos, if_neg n7, if_neg n9, if_neg n10]
/-- m draws may still come -/
structure PenOk (m : Nat) (p : Pen) : Prop where
  at_ : p.at_ ≤ p.cells.length
  len : p.cells.length ≤ 1000
  dg : 0 ≤ p.digits
  c0 : 0 ≤ p.count
  c1 : p.count + m ≤ 2 ^ 40
  f0 : 0 ≤ p.fold
  f1 : p.fold < 2147483489
def PenAt (K : PySem.W.Frag) (H : Hp) (a : Addr) (c : Addr) (p : Pen) : Prop := H a = some (.dK (penKV c p)) ∧ H c = some (.lst (p.cells.map V.int)) ∧ c ≠ a
theorem pen_put {K : PySem.W.Frag} {H : Hp} {a c : Addr} {p : Pen} {kvs : List (Key × V)} (h : PenAt K H a c p) (q : Pen) (hq : q.cells = p.cells) (e : kvs = penKV c q) : PenAt K (upd H a (.dK kvs)) a c q := by
  subst e
  refine ⟨upd_same, ?_, h.2.2⟩
  rw [hq]
  rw [upd_ne h.2.2]
  exact h.2.1
end Kc

namespace Kc
open PySem PySem.Spec PyProof.Rows L2
section
variable {K : PySem.W.Frag} {H H1 H2 : Hp} {a c : Addr} {p : Pen}
theorem d1 (h : PenAt K H a c p) : DGet H a (.str ("cells" : Str)) (some (.ref c)) := by have := DGet.k (k := kCells) h.1; rw [g1] at this; exact this
theorem d2 (h : PenAt K H a c p) : DGet H a (.str ("at" : Str)) (some (.int p.at_)) := by have := DGet.k (k := kAt) h.1; rw [g2] at this; exact this
theorem d3 (h : PenAt K H a c p) : DGet H a (.str ("digits" : Str)) (some (.int p.digits)) := by have := DGet.k (k := kDigits) h.1; rw [g3] at this; exact this
theorem d4 (h : PenAt K H a c p) : DGet H a (.str ("count" : Str)) (some (.int p.count)) := by have := DGet.k (k := kCount) h.1; rw [g4] at this; exact this
theorem d5 (h : PenAt K H a c p) : DGet H a (.str ("fold" : Str)) (some (.int p.fold)) := by have := DGet.k (k := kFold) h.1; rw [g5] at this; exact this
theorem five : (5 : Nat) < sizeLine := by decide
theorem w2 (h : PenAt K H a c p) (n : Nat) : DPut H a (.str ("at" : Str)) (.int n) (upd H a (.dK (penKV c { p with at_ := n }))) := by
  have := DPut.k (k := kAt) (v := .int n) h.1 five; rw [p2] at this; exact this
theorem w3 (h : PenAt K H a c p) (n : Int) : DPut H a (.str ("digits" : Str)) (.int n) (upd H a (.dK (penKV c { p with digits := n }))) := by
  have := DPut.k (k := kDigits) (v := .int n) h.1 five; rw [p3] at this; exact this
theorem w4 (h : PenAt K H a c p) (n : Int) : DPut H a (.str ("count" : Str)) (.int n) (upd H a (.dK (penKV c { p with count := n }))) := by
  have := DPut.k (k := kCount) (v := .int n) h.1 five; rw [p4] at this; exact this
theorem w5 (h : PenAt K H a c p) (n : Int) : DPut H a (.str ("fold" : Str)) (.int n) (upd H a (.dK (penKV c { p with fold := n }))) := by
  have := DPut.k (k := kFold) (v := .int n) h.1 five; rw [p5] at this; exact this
/-- all but the object at a stays -/
def Keep (a : Addr) (H H' : Hp) : Prop := ∀ b o, b ≠ a → H b = some o → H' b = some o
theorem Keep.refl : Keep a H H := fun _ _ _ h => h
theorem Keep.trans (x : Keep a H H1) (y : Keep a H1 H2) : Keep a H H2 := fun b o n h => y b o n (x b o n h)
theorem Keep.put {o : HO} (x : Keep a H H1) : Keep a H (upd H1 a o) := fun b u n h => by rw [upd_ne n]; exact x b u n h
end
/-- _law_draw(pen, many) -/
def spDraw (K : PySem.W.Frag) : Sp := fun vs H Q _ => ∃ (a c : Addr) (p : Pen) (m : Nat) (many : Int), vs = [.ref a, .int many] ∧ PenAt K H a c p ∧ PenOk (m + 1) p ∧ (0 < many ∧ many < 1073741824) ∧
  ∀ H' p' d, Keep a H H' → PenAt K H' a c p' → PenOk m p' → 0 ≤ d → d < many → Q (.int d) H'
section
variable {P : Program} {w : World} {K : PySem.W.Frag} {mg : Str → Option Value} {base : Heap}
theorem ok_draw {f : Addr} {fd : FuncData} {k : Nat} (F : Fun K "_law_draw" "_law_draw" sDraw f fd) (ml : mg "len" = none) (mi : mg "int" = none) : FnOk P w K mg base CX0 (k + 1) f fd ["pen", "many"] (spDraw K) := by
  refine F.ok scDraw (fun vs H Q E h => ?_) (fun cdv A outer s H vs Q E hr h => ?_)
  · obtain ⟨a, c, p, m, many, rfl, _⟩ := h
    rfl
  · obtain ⟨a, c, p, m, many, rfl, hp, ok, ⟨hm0, hm1⟩, q⟩ := h
    have hu := hu_of hr
    obtain ⟨tr, hrest, hread⟩ : ∃ tr, PSs (cxOf CX0 P w K mg base ["pen", "many", "cell", "digit", "blend"] "_law_draw" (defScope sDraw) f cdv A outer s H E).nox ((defBody sDraw).drop 2) tr ∧
        ∀ y H' p', Keep a H H' → PenAt K H' a c p' → PenOk m p' → tr { nx := fun _ H' => Q .non H', rt := Q } [some (.ref a), some (.int many), y, none, none] H' := by
      refine ⟨_, (pss_cons (ps_if (pt_cmpR op_gt (pe_dget hu (pv 0) pe_str (fun _ _ => rfl)) pe_int (nomark _))
        (pss_cons (ps_set (i := 3) scDraw.nd rfl (.inl rfl) (pe_op op_mod (pe_callTy call_int1 (by rfl) mi PyProof.Rows.boot_int (pa_cons (pe_dget hu (pv 0) pe_str (fun _ _ => rfl)) pa_nil)) (pv 1)))
        (pss_cons (ps_dput hu (pv 0) pe_str (pe_op op_fdiv (pe_dget hu (pv 0) pe_str (fun _ _ => rfl)) (pv 1)) rfl)
        (pss_one (ps_ret (pv 3))))) pss_nil)
      (pss_cons (ps_set (i := 4) scDraw.nd rfl (.inl rfl) (pe_op op_add (pe_op op_add (pe_dget hu (pv 0) pe_str (fun _ _ => rfl)) (pe_op op_mul (pe_dget hu (pv 0) pe_str (fun _ _ => rfl)) pe_int)) pe_int))
      (pss_one (ps_ret (pe_op op_mod (pe_op op_fdiv (pe_callTy call_int1 (by rfl) mi PyProof.Rows.boot_int (pa_cons (pe_op op_mod (pe_op op_pow (pv 4) pe_int) pe_int) pa_nil)) pe_int) (pv 1)))))), fun y H' p' kp hp ok => ?_⟩
      refine ⟨.ref a, rfl, a, _, rfl, d3 hp, p'.digits, 0, rfl, rfl, _, rfl, ite2 (fun hd => ?_) (fun hd => ?_)⟩
      · have hd : 0 < p'.digits := of_decide_eq_true hd
        refine ⟨.ref a, rfl, a, _, rfl, d3 hp, .inl ⟨p'.digits, rfl, .int many, rfl, p'.digits, many, rfl, rfl, hm0, ?_⟩⟩
        refine ⟨.ref a, rfl, a, _, rfl, d3 hp, .int many, rfl, p'.digits, many, rfl, rfl, ⟨hm0, hm1⟩, .ref a, rfl, a, _, rfl, w3 hp (p'.digits / many), ?_⟩
        refine ⟨_, rfl, q _ { p' with digits := p'.digits / many } _ kp.put (pen_put hp _ rfl rfl) { ok with dg := Int.ediv_nonneg ok.dg (by omega) } (Int.emod_nonneg _ (by omega)) (Int.emod_lt_of_pos _ hm0)⟩
      · have c1 := ok.c1
        have c0 := ok.c0
        have f0 := ok.f0
        have f1 := ok.f1
        refine ⟨.ref a, rfl, a, _, rfl, d5 hp, .ref a, rfl, a, _, rfl, d4 hp, p'.count, 7951, rfl, rfl, .inr ⟨by decide, by decide⟩, p'.fold, p'.count * 7951, rfl, rfl, p'.fold + p'.count * 7951, 67, rfl, rfl, ?_⟩
        refine ⟨_, rfl, p'.fold + p'.count * 7951 + 67, 27, rfl, rfl, ⟨by decide, by decide, ?_⟩, (p'.fold + p'.count * 7951 + 67) ^ 27, 2305843009213693951, rfl, rfl, (show (0 : Int) < 2305843009213693951 by decide), .inl ⟨_, rfl, _, 256, rfl, rfl, ⟨by decide, by decide⟩, .int many, rfl, _, many, rfl, rfl, hm0, ?_⟩⟩
        · have e : (2 : Nat) ^ 64 = 18446744073709551616 := by decide
          have e2 : (2 : Int) ^ 40 = 1099511627776 := by decide
          rw [e]
          rw [e2] at c1
          omega
        · exact q _ p' _ kp hp ok (Int.emod_nonneg _ (by omega)) (Int.emod_lt_of_pos _ hm0)
    refine ⟨_, pss_cons (ps_dput hu (pv 0) pe_str (pe_op op_add (pe_dget hu (pv 0) pe_str (fun _ _ => rfl)) pe_int) rfl)
      (pss_cons (ps_if (pw_and (pt_cmpR op_eq (pe_dget hu (pv 0) pe_str (fun _ _ => rfl)) pe_int (nomark _)) (pw_and1 (pt_cmpR op_lt (pe_dget hu (pv 0) pe_str (fun _ _ => rfl)) (pe_callB call_len_seq (by rfl) ml PySem.boot_len (pa_cons (pe_dget hu (pv 0) pe_str (fun _ _ => rfl)) pa_nil)) (nomark _)))).pt
        (pss_cons (ps_set (i := 2) scDraw.nd rfl (.inl rfl) (pe_ix ix_list (pe_dget hu (pv 0) pe_str (fun _ _ => rfl)) (pe_dget hu (pv 0) pe_str (fun _ _ => rfl)) (fun _ _ => rfl)))
        (pss_cons (ps_dput hu (pv 0) pe_str (pe_op op_add (pe_dget hu (pv 0) pe_str (fun _ _ => rfl)) pe_int) rfl)
        (pss_one (ps_if (pt_cmpR op_ge (pv 2) (pe_op op_pow pe_int pe_int) (nomark _))
          (pss_one (ps_dput hu (pv 0) pe_str (pe_op op_sub (pv 2) (pe_op op_pow pe_int pe_int)) rfl))
          (pss_one (ps_dput hu (pv 0) pe_str (pe_op op_mod (pe_callTy call_int1 (by rfl) mi PyProof.Rows.boot_int (pa_cons (pe_op op_add (pe_op op_mul (pe_dget hu (pv 0) pe_str (fun _ _ => rfl)) pe_int) (pv 2)) pa_nil)) pe_int) rfl)))))) pss_nil) hrest), ?_⟩
    -- count
    refine ⟨.ref a, rfl, a, _, rfl, d4 hp, p.count, 1, rfl, rfl, .ref a, rfl, a, _, rfl, w4 hp (p.count + 1), ?_⟩
    have hp1 : PenAt K (upd H a (.dK (penKV c { p with count := p.count + 1 }))) a c { p with count := p.count + 1 } := pen_put hp _ rfl rfl
    have c1 := ok.c1
    have ok1 : PenOk m { p with count := p.count + 1 } := { ok with c0 := by have := ok.c0; show (0 : Int) ≤ p.count + 1; omega, c1 := by show p.count + 1 + (m : Int) ≤ 2 ^ 40; rw [Int.natCast_add] at c1; omega }
    generalize hH1 : upd H a (.dK (penKV c { p with count := p.count + 1 })) = H1 at hp1 ⊢
    have kp1 : Keep a H H1 := hH1 ▸ Keep.refl.put
    generalize { p with count := p.count + 1 } = p1 at hp1 ok1 ⊢
    refine ⟨.ref a, rfl, a, _, rfl, d3 hp1, rfl, _, rfl, ite2 (fun z => ?_) (fun z => iteF (hread _ _ _ kp1 hp1 ok1))⟩
    refine ⟨.ref a, rfl, a, _, rfl, d2 hp1, .ref a, rfl, a, _, rfl, d1 hp1, c, _, rfl, .inl (.of hp1.2.1), p1.at_, (p1.cells.map V.int).length, rfl, rfl, _, rfl, ite2 (fun z2 => ?_) (fun z2 => hread _ _ _ kp1 hp1 ok1)⟩
    have z2 : (p1.at_ : Int) < ((p1.cells.map V.int).length : Nat) := of_decide_eq_true z2
    rw [List.length_map] at z2
    have hlt : p1.at_ < p1.cells.length := by omega
    have hat : (p1.cells.map V.int)[p1.at_]? = some (.int p1.cells[p1.at_]) := by rw [List.getElem?_map, List.getElem?_eq_getElem hlt]; rfl
    generalize p1.cells[p1.at_] = cell at hat
    refine ⟨.ref a, rfl, a, _, rfl, d1 hp1, .ref a, rfl, a, _, rfl, d2 hp1, c, _, _, _, rfl, rfl, .of hp1.2.1, atI_nat hat, ?_⟩
    refine ⟨.ref a, rfl, a, _, rfl, d2 hp1, p1.at_, 1, rfl, rfl, .ref a, rfl, a, _, rfl, w2 hp1 (p1.at_ + 1), ?_⟩
    have hp2 : PenAt K (upd H1 a (.dK (penKV c { p1 with at_ := p1.at_ + 1 }))) a c { p1 with at_ := p1.at_ + 1 } := pen_put hp1 _ rfl rfl
    have ok2 : PenOk m { p1 with at_ := p1.at_ + 1 } := { ok1 with at_ := hlt }
    have kp2 := kp1.put (o := .dK (penKV c { p1 with at_ := p1.at_ + 1 }))
    generalize upd H1 a (.dK (penKV c { p1 with at_ := p1.at_ + 1 })) = H2 at hp2 kp2 ⊢
    generalize { p1 with at_ := p1.at_ + 1 } = p2 at hp2 ok2 ⊢
    have e18 : (10 : Int) ^ (18 : Int).toNat = 1000000000000000000 := by decide
    refine ⟨.int cell, rfl, 10, 18, rfl, rfl, ⟨by decide, by decide, by decide⟩, cell, (10 : Int) ^ (18 : Int).toNat, rfl, rfl, _, rfl, ite2 (fun z3 => ?_) (fun z3 => ?_)⟩
    · have z3 : (10 : Int) ^ (18 : Int).toNat ≤ cell := of_decide_eq_true z3
      rw [e18] at z3
      refine ⟨.int cell, rfl, 10, 18, rfl, rfl, ⟨by decide, by decide, by decide⟩, cell, (10 : Int) ^ (18 : Int).toNat, rfl, rfl, .ref a, rfl, a, _, rfl, w3 hp2 _, ?_⟩
      exact hread _ _ { p2 with digits := cell - (10 : Int) ^ (18 : Int).toNat } kp2.put (pen_put hp2 _ rfl rfl) { ok2 with dg := by show (0 : Int) ≤ cell - (10 : Int) ^ (18 : Int).toNat; rw [e18]; omega }
    · refine ⟨.ref a, rfl, a, _, rfl, d5 hp2, p2.fold, 41959, rfl, rfl, .inr ⟨by decide, by decide⟩, .int cell, rfl, p2.fold * 41959, cell, rfl, rfl, .inl ⟨_, rfl, _, 2147483489, rfl, rfl, (show (0 : Int) < 2147483489 by decide), .ref a, rfl, a, _, rfl, w5 hp2 _, ?_⟩⟩
      exact hread _ _ { p2 with fold := (p2.fold * 41959 + cell) % 2147483489 } kp2.put (pen_put hp2 _ rfl rfl) { ok2 with f0 := Int.emod_nonneg (p2.fold * 41959 + cell) (show (2147483489 : Int) ≠ 0 by decide), f1 := Int.emod_lt_of_pos (p2.fold * 41959 + cell) (show (0 : Int) < 2147483489 by decide) }
end
end Kc

namespace Kc
open PySem PySem.Spec PyProof.Rows L2
def Ex (H H' : Hp) : Prop := ∀ b o, H b = some o → H' b = some o
theorem Ex.refl {H : Hp} : Ex H H := fun _ _ h => h
theorem Ex.trans {H H1 H2 : Hp} (x : Ex H H1) (y : Ex H1 H2) : Ex H H2 := fun b o h => y b o (x b o h)
theorem Ex.laid {H H1 : Hp} {a : Addr} {o : HO} (x : Ex H H1) (h : H1 a = none) : Ex H (upd H1 a o) := fun b u e => by rw [upd_ne (ne_of_none (x b u e) h)]; exact x b u e
theorem Ex.sqL {K : PySem.W.Frag} {H H' : Hp} (e : Ex H H') {a : Addr} {xs : List V} (h : SqL K H a xs) : SqL K H' a xs := by
  rcases h with (h | ⟨o, h⟩) | h
  · exact .inl (.inl (e _ _ h))
  · exact .inl (.inr ⟨o, e _ _ h⟩)
  · exact .inr h
theorem Keep.sqL {K : PySem.W.Frag} {a : Addr} {H H' : Hp} (e : Keep a H H') {l : Addr} {xs : List V} (n : l ≠ a) (h : SqL K H l xs) : SqL K H' l xs := by
  rcases h with (h | ⟨o, h⟩) | h
  · exact .inl (.inl (e _ _ n h))
  · exact .inl (.inr ⟨o, e _ _ n h⟩)
  · exact .inr h
/-- _law_pick(pen, some), some a list -/
def spPick (K : PySem.W.Frag) : Sp := fun vs H Q _ => ∃ (a c l : Addr) (p : Pen) (m : Nat) (xs : List V), vs = [.ref a, .ref l] ∧ PenAt K H a c p ∧ PenOk (m + 1) p ∧ H l = some (.lst xs) ∧ 0 < xs.length ∧ xs.length < 1073741824 ∧
  ∀ H' p' x, x ∈ xs → Keep a H H' → PenAt K H' a c p' → PenOk m p' → Q x H'
/-- _law_pen(script) -/
def spPen (K : PySem.W.Frag) : Sp := fun vs H Q _ => ∃ (l : Addr) (ns : List Int), vs = [.ref l] ∧ SqL K H l (ns.map V.int) ∧ ns.length ≤ 1000 ∧
  ∀ H' a c p, Ex H H' → H a = none → PenAt K H' a c p → PenOk (2 ^ 39) p → Q (.ref a) H'
section
variable {P : Program} {w : World} {K : PySem.W.Frag} {mg : Str → Option Value} {base : Heap}
theorem ok_pick {f fD : Addr} {fd fdD : FuncData} (F : Fun K "_law_pick" "_law_pick" sPick f fd) (FD : Fun K "_law_draw" "_law_draw" sDraw fD fdD) (bD : Binds K fdD ["pen", "many"] []) (gD : mg "_law_draw" = some (.ref fD))
    (ml : mg "len" = none) (mi : mg "int" = none) : FnOk P w K mg base CX0 2 f fd ["pen", "some"] (spPick K) := by
  have GD : FnOk P w K mg base CX0 1 fD fdD ["pen", "many"] (spDraw K) := ok_draw FD ml mi
  refine F.ok scPick (fun vs H Q E h => ?_) (fun cdv A outer s H vs Q E hr h => ?_)
  · obtain ⟨a, c, l, p, m, xs, rfl, _⟩ := h
    rfl
  · obtain ⟨a, c, l, p, m, xs, rfl, hp, ok, hl, h0, h1, q⟩ := h
    have na : l ≠ a := fun z => by
      have := hp.1
      rw [← z, hl] at this
      cases this
    refine ⟨_, pss_one (ps_ret (pe_ix ix_list (pv 1) (pe_call GD hr (by rfl) gD FD.kp bD .nil pass0 (pa_cons (pv 0) (pa_cons (pe_callB call_len_seq (by rfl) ml PySem.boot_len (pa_cons (pv 1) pa_nil)) pa_nil))) (fun _ _ => rfl))), ?_⟩
    refine ⟨.ref l, rfl, .ref a, rfl, .ref l, rfl, l, xs, rfl, .inl (.inl (.inl hl)), a, c, p, m, xs.length, rfl, hp, ok, ⟨by omega, by omega⟩, fun H' p' d kp hp' ok' d0 d1 => ?_⟩
    obtain ⟨i, rfl⟩ := Int.eq_ofNat_of_zero_le d0
    have hi : i < xs.length := by omega
    refine ⟨l, xs, _, xs[i], rfl, rfl, kp.sqL na (.inl (.inl hl)), atI_nat (List.getElem?_eq_getElem hi), ?_⟩
    exact q H' p' _ (List.getElem_mem hi) kp hp' ok'
theorem ok_pen {f : Addr} {fd : FuncData} (F : Fun K "_law_pen" "_law_pen" sPen f fd) (mi : mg "int" = none) (mls : mg "list" = none) : FnOk P w K mg base CX0 1 f fd ["script"] (spPen K) := by
  refine F.ok scPen (fun vs H Q E h => ?_) (fun cdv A outer s H vs Q E hr h => ?_)
  · obtain ⟨l, ns, rfl, _⟩ := h
    rfl
  · obtain ⟨l, ns, rfl, hl, hn, q⟩ := h
    refine ⟨_, pss_cons (ps_set (i := 1) scPen.nd rfl (.inl rfl) pe_int)
      (pss_cons (ps_for PassesOwn.never rfl (pi_list (pv 0)) (pg_name (i := 2) scPen.nd rfl (.inl rfl))
        (pss_one (ps_set (i := 1) scPen.nd rfl (.inl rfl) (pe_op op_mod (pe_callTy call_int1 (by rfl) mi PyProof.Rows.boot_int (pa_cons (pe_op op_add (pe_op op_mul (pv 1) pe_int) (pv 2)) pa_nil)) pe_int))))
      (pss_one (ps_ret (pe_disp (pps_cons pe_str (pe_callTy call_list_of (by rfl) mls PyProof.Rows.boot_list (pa_cons (pv 0) pa_nil)) (pps_cons pe_str pe_int (pps_cons pe_str pe_int (pps_cons pe_str pe_int (pps_cons pe_str (pv 1) pps_nil))))) rfl rfl (by decide) (by decide))))), ?_⟩
    refine ⟨.ref l, rfl, l, rfl, ⟨_, hl⟩, for_list (K := K) (a := l) (xs := ns.map V.int) (fun i σ H' => ∃ (fo : Int) (y : Option V), σ = [some (.ref l), some (.int fo), y] ∧ 0 ≤ fo ∧ fo < 999999739 ∧ H' = H) ⟨0, none, rfl, by decide, by decide, rfl⟩ (fun i σ H' _ ⟨_, _, _, _, _, e⟩ => e ▸ hl) ?_ ?_⟩
    · rintro i x σ H' hx ⟨fo, y, rfl, f0, f1, rfl⟩
      rw [List.getElem?_map] at hx
      cases e : ns[i]? with
      | none => rw [e] at hx; cases hx
      | some z =>
        rw [e] at hx
        cases hx
        refine ⟨_, rfl, fo, 89, rfl, rfl, .inr ⟨by decide, by decide⟩, .int z, rfl, fo * 89, z, rfl, rfl, .inl ⟨_, rfl, _, 999999739, rfl, rfl, (show (0 : Int) < 999999739 by decide), ?_⟩⟩
        exact ⟨_, _, rfl, Int.emod_nonneg _ (show (999999739 : Int) ≠ 0 by decide), Int.emod_lt_of_pos _ (show (0 : Int) < 999999739 by decide), rfl⟩
    · rintro σ H' ⟨fo, y, rfl, f0, f1, rfl⟩
      intro a ha
      have e1 : Ex H' (upd H' a (.dK [])) := Ex.refl.laid ha
      refine ⟨.ref l, rfl, l, _, rfl, .inl (e1.sqL hl), fun c hc => ?_⟩
      have nca : c ≠ a := fun z => by rw [z, upd_same] at hc; cases hc
      have e2 : Ex H' (upd (upd H' a (.dK [])) c (.lst (ns.map V.int))) := e1.laid hc
      refine ⟨_, rfl, ?_⟩
      refine ⟨by rw [upd_ne (Ne.symm nca), upd_same], [(kCells, .ref c), (kAt, .int 0), (kDigits, .int 0), (kCount, .int 0), (kFold, .int fo)], rfl, (show (5 : Nat) ≤ 15 by decide), ?_⟩
      have em : mergeK [] [(kCells, .ref c), (kAt, .int 0), (kDigits, .int 0), (kCount, .int 0), (kFold, .int fo)] = penKV c ⟨ns, 0, 0, 0, fo⟩ := by
        simp only [mergeK, List.foldl, putK, List.any_nil, List.any_cons, List.nil_append, List.cons_append, n1, n2, n3, n4, n5, n6, n7, n8, n9, n10, decide_false, Bool.or_false, Bool.false_eq_true, if_false, penKV]
        rfl
      rw [em]
      refine q _ a c ⟨ns, 0, 0, 0, fo⟩ ?_ ha ⟨upd_same, ?_, nca⟩ ⟨Nat.zero_le _, hn, (show (0 : Int) ≤ 0 by decide), (show (0 : Int) ≤ 0 by decide), (show (0 : Int) + ((2 ^ 39 : Nat) : Int) ≤ 2 ^ 40 by decide), f0, by show fo < 2147483489; omega⟩
      · intro b o e
        have nb : b ≠ a := ne_of_none e ha
        rw [upd_ne nb]
        exact e2 b o e
      · rw [upd_ne nca, upd_same]
end
end Kc

namespace KcE
open PySem PySem.Spec PyProof.Rows PySem.SeqAt
/-- what == and != of two instances ask of the class: nothing of its own -/
structure EqC (K : PySem.W.Frag) (C : Addr) : Prop where
  mro : ∃ cd, PySem.W.clsIn K C = some cd ∧ cd.mro = [.ref C, .type "object"]
  eq : PySem.W.findIn K (.ref C) "__eq__" = some (some (.builtin "object.__eq__"))
  ne : PySem.W.findIn K (.ref C) "__ne__" = some (some (.builtin "object.__ne__"))
section
variable {prog : Program} {w : World} {A : Around} {E : Value → Shared → Prop} {s : Shared} {K : PySem.W.Frag} {x y C D : Addr} {ox oy : Obj} {od oe : Option Obj}
theorem EqC.obj (q : EqC K C) : PySem.W.mroIn K C (.type "object") = some true := by
  obtain ⟨cd, h1, h2⟩ := q.mro
  unfold PySem.W.mroIn
  rw [h1]
  show (if cd.mro.isEmpty = true then none else some (cd.mro.contains (.type "object"))) = some true
  rw [h2]
  simp
theorem EqC.sub (q : EqC K D) (h : C ≠ D) : PySem.W.subIn K (.ref D) (.ref C) = some false := by
  obtain ⟨cd, h1, h2⟩ := q.mro
  show PySem.W.mroIn K D (.ref C) = some false
  unfold PySem.W.mroIn
  rw [h1]
  show (if cd.mro.isEmpty = true then none else some (cd.mro.contains (.ref C))) = some false
  rw [h2]
  simp [h]
theorem noTup (I : PySem.W.InstAt s.heap x ox C od) : ox.cls ≠ .type "tuple" := by rw [I.cls]; intro z; cases z
theorem call_eq_same {Q : Value → Shared → Prop} (X : K.In s.heap) (I : PySem.W.InstAt s.heap x ox C od) (q : EqC K C) (hq : Q (.bool true) s) :
    wpAny (model prog w) A (call (.builtin "object.__eq__") [.ref x, .ref x]) Q E s :=
  wpAny_call (codeAny_call_builtin F.cmp_object.eq.plain F.cmpEntry_eq (PySem.W.check_slot F.cmpKind_eq F.cmpSplit_eq (I.type.andThen (PySem.W.looks_mroIn X q.obj)) (F.cmpArgs_eq _ _) (objEq_entry_same hq)))
theorem call_eq_other {Q : Value → Shared → Prop} (X : K.In s.heap) (I : PySem.W.InstAt s.heap x ox C od) (q : EqC K C) (hxy : x ≠ y) (hy : s.heap.get? y = some oy) (hq : Q .notImplemented s) :
    wpAny (model prog w) A (call (.builtin "object.__eq__") [.ref x, .ref y]) Q E s :=
  wpAny_call (codeAny_call_builtin F.cmp_object.eq.plain F.cmpEntry_eq (PySem.W.check_slot F.cmpKind_eq F.cmpSplit_eq (I.type.andThen (PySem.W.looks_mroIn X q.obj)) (F.cmpArgs_eq _ _) (objEq_entry_other hxy I.at_ hy (noTup I) hq)))
theorem sp_eq_same {Q : Option Value → Shared → Prop} (X : K.In s.heap) (I : PySem.W.InstAt s.heap x ox C od) (q : EqC K C) (hq : Q (some (.bool true)) s) : wpAny (model prog w) A (callSpecialIfBound? (.ref x) "__eq__" [.ref x]) Q E s :=
  HN.ifBound_objEq X I q.eq (call_eq_same X I q hq)
theorem sp_eq_other {Q : Option Value → Shared → Prop} (X : K.In s.heap) (I : PySem.W.InstAt s.heap x ox C od) (q : EqC K C) (hxy : x ≠ y) (hy : s.heap.get? y = some oy) (hq : Q (some .notImplemented) s) : wpAny (model prog w) A (callSpecialIfBound? (.ref x) "__eq__" [.ref y]) Q E s :=
  HN.ifBound_objEq X I q.eq (call_eq_other X I q hxy hy hq)
theorem ifBound_objNe {args : List Value} {Q : Option Value → Shared → Prop} (X : K.In s.heap) (I : PySem.W.InstAt s.heap x ox C od) (hs : PySem.W.findIn K (.ref C) "__ne__" = some (some (.builtin "object.__ne__")))
    (h : wpAny (model prog w) A (call (.builtin "object.__ne__") (.ref x :: args)) (fun v => Q (some v)) E s) : wpAny (model prog w) A (callSpecialIfBound? (.ref x) "__ne__" args) Q E s := by
  simp only [callSpecialIfBound?, bindSpecialIfBound?]
  refine wpAny_holding (wpAny_bind (wpAny_bind (wpAny_bind (I.type.here ((PySem.W.looks_findIn X hs).here ?_)))))
  refine wpAny_bind (wpAny_askSetting (wpAny_ite ?_))
  have fin : wpAny (model prog w) A (call (.builtin "object.__ne__") ([.ref x] ++ args) >>= fun v => pure (some v)) Q E s := wpAny_bind (wpAny_mono h (fun v s' h' => wpAny_pure h') fun _ _ h' => h')
  split
  · exact wpAny_bind (wpAny_of_eq (F.cmp_object.ne.bind _) (wpAny_pure (by exact fin)))
  · exact wpAny_tryCatch (wpAny_bind (wpAny_of_eq (F.cmp_object.ne.bind _) (wpAny_pure (by exact fin))))
theorem ne_entry_same {Q : Fin → Shared → Prop} (X : K.In s.heap) (I : PySem.W.InstAt s.heap x ox C od) (q : EqC K C) (hu : A.units < cLine) (hq : Q (.done (.ret (.bool false))) s) :
    wpAny (model prog w) A (Builtin.«object.__ne__» ⟨[.ref x, .ref x], []⟩) Q E s := by
  unfold Builtin.«object.__ne__»
  repeat (first | with_reducible refine wpAny_cRoomFor hu ?_ | with_reducible refine sp_eq_same X I q ?_ | wp_step)
  exact hq
theorem ne_entry_other {Q : Fin → Shared → Prop} (X : K.In s.heap) (I : PySem.W.InstAt s.heap x ox C od) (q : EqC K C) (hxy : x ≠ y) (hy : s.heap.get? y = some oy) (hu : A.units < cLine) (hq : Q (.done (.ret .notImplemented)) s) :
    wpAny (model prog w) A (Builtin.«object.__ne__» ⟨[.ref x, .ref y], []⟩) Q E s := by
  unfold Builtin.«object.__ne__»
  repeat (first | with_reducible refine wpAny_cRoomFor hu ?_ | with_reducible refine sp_eq_other X I q hxy hy ?_ | wp_step)
  exact hq
theorem sp_ne_same {Q : Option Value → Shared → Prop} (X : K.In s.heap) (I : PySem.W.InstAt s.heap x ox C od) (q : EqC K C) (hu : A.units + 1 < cLine) (hq : Q (some (.bool false)) s) : wpAny (model prog w) A (callSpecialIfBound? (.ref x) "__ne__" [.ref x]) Q E s :=
  ifBound_objNe X I q.ne (wpAny_call (codeAny_call_builtin F.cmp_object.ne.plain F.cmpEntry_ne (PySem.W.check_slot F.cmpKind_ne F.cmpSplit_ne (I.type.andThen (PySem.W.looks_mroIn X q.obj)) (F.cmpArgs_ne _ _) (ne_entry_same X I q hu hq))))
theorem sp_ne_other {Q : Option Value → Shared → Prop} (X : K.In s.heap) (I : PySem.W.InstAt s.heap x ox C od) (q : EqC K C) (hxy : x ≠ y) (hy : s.heap.get? y = some oy) (hu : A.units + 1 < cLine) (hq : Q (some .notImplemented) s) : wpAny (model prog w) A (callSpecialIfBound? (.ref x) "__ne__" [.ref y]) Q E s :=
  ifBound_objNe X I q.ne (wpAny_call (codeAny_call_builtin F.cmp_object.ne.plain F.cmpEntry_ne (PySem.W.check_slot F.cmpKind_ne F.cmpSplit_ne (I.type.andThen (PySem.W.looks_mroIn X q.obj)) (F.cmpArgs_ne _ _) (ne_entry_other X I q hxy hy hu hq))))
/-- the other one is not asked first -/
theorem right_first {α : Type} {k : Bool → Sem α} {Q : α → Shared → Prop} (X : K.In s.heap) (q : EqC K D) (hq : wpAny (model prog w) A (k false) Q E s) :
    wpAny (model prog w) A (if Value.ref C != Value.ref D then isSubtype (.ref D) (.ref C) >>= k else pure false >>= k) Q E s := by
  by_cases hCD : C = D
  · subst hCD
    rw [if_neg (by simp)]
    exact wpAny_bind (wpAny_pure hq)
  · rw [if_pos (by simp [hCD])]
    exact wpAny_bind ((PySem.W.looks_subIn X (q.sub hCD)).here hq)
theorem try_eq_same {Q : Option Value → Shared → Prop} (X : K.In s.heap) (I : PySem.W.InstAt s.heap x ox C od) (q : EqC K C) (hq : Q (some (.bool true)) s) : wpAny (model prog w) A (tryCompare (.ref x) "__eq__" (.ref x)) Q E s := by
  simp only [tryCompare]
  exact wpAny_bind (sp_eq_same X I q (wpAny_pure hq))
theorem try_eq_other {Q : Option Value → Shared → Prop} (X : K.In s.heap) (I : PySem.W.InstAt s.heap x ox C od) (q : EqC K C) (hxy : x ≠ y) (hy : s.heap.get? y = some oy) (hq : Q none s) : wpAny (model prog w) A (tryCompare (.ref x) "__eq__" (.ref y)) Q E s := by
  simp only [tryCompare]
  exact wpAny_bind (sp_eq_other X I q hxy hy (wpAny_pure hq))
theorem try_ne_other {Q : Option Value → Shared → Prop} (X : K.In s.heap) (I : PySem.W.InstAt s.heap x ox C od) (q : EqC K C) (hxy : x ≠ y) (hy : s.heap.get? y = some oy) (hu : A.units + 1 < cLine) (hq : Q none s) : wpAny (model prog w) A (tryCompare (.ref x) "__ne__" (.ref y)) Q E s := by
  simp only [tryCompare]
  exact wpAny_bind (sp_ne_other X I q hxy hy hu (wpAny_pure hq))
theorem rc_eq_same {Q : Value → Shared → Prop} (X : K.In s.heap) (I : PySem.W.InstAt s.heap x ox C od) (q : EqC K C) (hu : A.units < cLine) (hq : Q (.bool true) s) : wpAny (model prog w) A (richCompare .Eq (.ref x) (.ref x)) Q E s := by
  simp only [richCompare, cmpInfo_Eq, oneThing_ref]
  refine wpAny_holding (wpAny_bind (wpAny_cRoomFor hu ?_))
  refine wpAny_bind (I.type.here ?_)
  refine wpAny_bind (I.type.here ?_)
  refine right_first X q ?_
  simp only [Bool.false_eq_true, if_false, Bool.not_false, if_true]
  refine wpAny_bind (m := tryCompare (.ref x) _ (.ref x)) (try_eq_same X I q ?_)
  repeat (first | wp_step)
  exact hq
theorem rc_eq_other {Q : Value → Shared → Prop} (X : K.In s.heap) (I : PySem.W.InstAt s.heap x ox C od) (J : PySem.W.InstAt s.heap y oy D oe) (q : EqC K C) (q' : EqC K D) (hxy : x ≠ y) (hu : A.units < cLine) (hq : Q (.bool false) s) : wpAny (model prog w) A (richCompare .Eq (.ref x) (.ref y)) Q E s := by
  simp only [richCompare, cmpInfo_Eq, oneThing_ref]
  refine wpAny_holding (wpAny_bind (wpAny_cRoomFor hu ?_))
  refine wpAny_bind (I.type.here ?_)
  refine wpAny_bind (J.type.here ?_)
  refine right_first X q' ?_
  simp only [Bool.false_eq_true, if_false, Bool.not_false, if_true]
  refine wpAny_bind (m := tryCompare (.ref x) _ (.ref y)) (try_eq_other X I q hxy J.at_ ?_)
  repeat (first | with_reducible refine try_eq_other X J q' hxy.symm I.at_ ?_ | with_reducible refine wpAny_isSame_ref_other hxy I.at_ J.at_ (noTup I) ?_ | wp_step)
  exact hq
theorem rc_ne_other {Q : Value → Shared → Prop} (X : K.In s.heap) (I : PySem.W.InstAt s.heap x ox C od) (J : PySem.W.InstAt s.heap y oy D oe) (q : EqC K C) (q' : EqC K D) (hxy : x ≠ y) (hu : A.units + 1 < cLine) (hq : Q (.bool true) s) : wpAny (model prog w) A (richCompare .NotEq (.ref x) (.ref y)) Q E s := by
  have hu0 : A.units < cLine := Nat.lt_of_succ_lt hu
  simp only [richCompare, cmpInfo_NotEq, oneThing_ref]
  refine wpAny_holding (wpAny_bind (wpAny_cRoomFor hu0 ?_))
  refine wpAny_bind (I.type.here ?_)
  refine wpAny_bind (J.type.here ?_)
  refine right_first X q' ?_
  simp only [Bool.false_eq_true, if_false, Bool.not_false, if_true]
  refine wpAny_bind (m := tryCompare (.ref x) _ (.ref y)) (try_ne_other X I q hxy J.at_ hu ?_)
  repeat (first | with_reducible refine try_ne_other X J q' hxy.symm I.at_ hu ?_ | with_reducible refine wpAny_isSame_ref_other hxy I.at_ J.at_ (noTup I) ?_ | wp_step)
  exact hq
end
end KcE

namespace Kc
open PySem PySem.Spec PyProof.Rows L2 KcE
abbrev sCopied : Stmt := topS 1
theorem scCopied : FnScope ["value"] ["value"] (defScope sCopied) := ⟨rfl, rfl, rfl, by decide +kernel, rfl, by decide +kernel, by decide +kernel⟩
/-- a value that is no list -/
inductive Nl (H : Hp) : V → Prop
  | non : Nl H .non
  | bl (b : Bool) : Nl H (.bl b)
  | int (i : Int) : Nl H (.int i)
  | str (x : Str) : Nl H (.str x)
  | tup {a : Addr} {xs : List V} (e : H a = some (.tup xs)) : Nl H (.ref a)
  | dK {a : Addr} {kvs : List (Key × V)} (e : H a = some (.dK kvs)) : Nl H (.ref a)
inductive Vl (H : Hp) : V → Prop
  | lst {a : Addr} {xs : List V} (e : H a = some (.lst xs)) : Vl H (.ref a)
  | oth {v : V} (n : Nl H v) : Vl H v
/-- c is what copied(v) gives -/
inductive Cp (H : Hp) : V → V → Prop
  | lst {a p : Addr} {xs : List V} (e : H a = some (.lst xs)) (e' : H p = some (.tup xs)) : Cp H (.ref a) (.ref p)
  | oth {v : V} (n : Nl H v) : Cp H v v
/-- what H tells but of x is kept: x is no list, tuple, dict in H -/
structure Kp (x : Addr) (H H' : Hp) : Prop where
  k : Keep x H H'
  n1 : ∀ xs, H x ≠ some (.lst xs)
  n2 : ∀ xs, H x ≠ some (.tup xs)
  n3 : ∀ xs, H x ≠ some (.dK xs)
section
variable {H H' : Hp} {x : Addr} {v c : V}
theorem Nl.kp (k : Kp x H H') (h : Nl H v) : Nl H' v := by
  cases h with
  | non => exact .non
  | bl b => exact .bl b
  | int b => exact .int b
  | str b => exact .str b
  | tup e => exact .tup (k.k _ _ (fun z => k.n2 _ (z ▸ e)) e)
  | dK e => exact .dK (k.k _ _ (fun z => k.n3 _ (z ▸ e)) e)
theorem Vl.kp (k : Kp x H H') (h : Vl H v) : Vl H' v := by
  cases h with
  | lst e => exact .lst (k.k _ _ (fun z => k.n1 _ (z ▸ e)) e)
  | oth n => exact .oth (n.kp k)
theorem Cp.kp (k : Kp x H H') (h : Cp H v c) : Cp H' v c := by
  cases h with
  | lst e e' => exact .lst (k.k _ _ (fun z => k.n1 _ (z ▸ e)) e) (k.k _ _ (fun z => k.n2 _ (z ▸ e')) e')
  | oth n => exact .oth (n.kp k)
theorem Nl.ex (k : Ex H H') (h : Nl H v) : Nl H' v := by
  cases h with
  | non => exact .non
  | bl b => exact .bl b
  | int b => exact .int b
  | str b => exact .str b
  | tup e => exact .tup (k _ _ e)
  | dK e => exact .dK (k _ _ e)
theorem Vl.ex (k : Ex H H') (h : Vl H v) : Vl H' v := by
  cases h with
  | lst e => exact .lst (k _ _ e)
  | oth n => exact .oth (n.ex k)
theorem Cp.ex (k : Ex H H') (h : Cp H v c) : Cp H' v c := by
  cases h with
  | lst e e' => exact .lst (k _ _ e) (k _ _ e')
  | oth n => exact .oth (n.ex k)
theorem kp_ins {C dx : Addr} {fs : List (Str × V)} (k : Keep x H H') (e : H x = some (.ins C dx fs)) : Kp x H H' := ⟨k, (fun _ z => by rw [e] at z; cases z), (fun _ z => by rw [e] at z; cases z), (fun _ z => by rw [e] at z; cases z)⟩
end
def spCopied : Sp := fun vs H Q _ => ∃ v, vs = [v] ∧ Vl H v ∧ ∀ H' c, Ex H H' → Cp H' v c → Q c H'
section
variable {P : Program} {w : World} {K : PySem.W.Frag} {mg : Str → Option Value} {base : Heap}
theorem isi_list {H : Hp} {v : V} {Q : VK} (h : Vl H v) (hl : ∀ a xs, v = .ref a → H a = some (.lst xs) → Q (.bl true) H) (hn : Nl H v → Q (.bl false) H) : rIsi K [v, .ty "list"] H Q := by
  cases h with
  | lst e => exact ⟨_, _, _, _, true, rfl, .ty _, .base (.lst e), kit_ty (by decide +kernel), hl _ _ rfl e⟩
  | oth n =>
    cases n with
    | non => exact ⟨_, _, _, _, false, rfl, .ty _, .base .non, kit_ty (by decide +kernel), hn .non⟩
    | bl b => exact ⟨_, _, _, _, false, rfl, .ty _, .base (.bl b), kit_ty (by decide +kernel), hn (.bl b)⟩
    | int b => exact ⟨_, _, _, _, false, rfl, .ty _, .base (.int b), kit_ty (by decide +kernel), hn (.int b)⟩
    | str b => exact ⟨_, _, _, _, false, rfl, .ty _, .base (.str b), kit_ty (by decide +kernel), hn (.str b)⟩
    | tup e => exact ⟨_, _, _, _, false, rfl, .ty _, .base (.tup e), kit_ty (by decide +kernel), hn (.tup e)⟩
    | dK e => exact ⟨_, _, _, _, false, rfl, .ty _, .base (.dK e), kit_ty (by decide +kernel), hn (.dK e)⟩
theorem ok_copied {f : Addr} {fd : FuncData} (F : Fun K "copied" "copied" sCopied f fd) (ms : mg "isinstance" = none) (mls : mg "list" = none) (mt : mg "tuple" = none) : FnOk P w K mg base CX0 1 f fd ["value"] spCopied := by
  refine F.ok scCopied (fun vs H Q E h => ?_) (fun cdv A outer s H vs Q E hr h => ?_)
  · obtain ⟨v, rfl, _⟩ := h
    rfl
  · obtain ⟨v, rfl, hv, q⟩ := h
    refine ⟨_, pss_one (ps_ret (pe_ifExp (pt_val (pe_callB call_isi (by rfl) ms PyProof.Rows.boot_isinstance (pa_cons (pv 0) (pa_cons (pe_bltn (v := .ty "list") (by rfl) mls PyProof.Rows.boot_list rfl) pa_nil)))) (pe_callTy call_tuple_of (by rfl) mt PyProof.Rows.boot_tuple (pa_cons (pv 0) pa_nil)) (pv 0))), ?_⟩
    refine ⟨v, rfl, ?_⟩
    simp only [tCons, tC, tNil]
    show rIsi K _ H _
    refine isi_list hv (fun a xs e ha => ?_) (fun n => ?_)
    · subst e
      refine ⟨true, rfl, iteT ⟨_, rfl, a, xs, rfl, .inl ⟨.inl (.inl ha), fun l hl => ?_⟩⟩⟩
      exact q _ _ (Ex.refl.laid hl) (.lst (Ex.refl.laid hl _ _ ha) upd_same)
    · exact ⟨false, rfl, iteF ⟨_, rfl, q _ _ .refl (.oth n)⟩⟩
theorem fld_go {σ : L2.St} {H : Hp} {D : Ends} {a C dx : Addr} {fs : List (Str × V)} {v : V} {i : Nat} {f : Str} (h0 : σ[0]? = some (some (.ref a))) (hi : σ[i]? = some (some v)) (hv : Vl H v) (ha : H a = some (.ins C dx fs)) (c : Cls K C) (n : NoAttr K C f) (hl : fs.length < 1000)
    (k : ∀ H' c, Kp a H H' → H' a = some (.ins C dx (putF f c fs)) → Cp H' v c → D.nx σ H') : sFld K (tVar 0) (tCall spCopied [] E0 (tCons (tVar i) tNil)) f D σ H := by
  refine ⟨v, hi, v, rfl, hv, fun H1 y ex cp => ⟨_, h0, a, C, dx, fs, rfl, ex _ _ ha, c, n, hl, ?_⟩⟩
  have kp : Kp a H1 (upd H1 a (.ins C dx (putF f y fs))) := kp_ins Keep.refl.put (ex _ _ ha)
  refine k _ y (kp_ins (fun b o nb e => kp.k b o nb (ex b o e)) ha) upd_same (cp.kp kp)
/-- what is told of the copies of a row of values -/
inductive Cps (H : Hp) : List V → List V → Prop
  | nil : Cps H [] []
  | cons {v c : V} {vs cs : List V} (h : Cp H v c) (t : Cps H vs cs) : Cps H (v :: vs) (c :: cs)
theorem Cps.ex {H H' : Hp} (k : Ex H H') : ∀ {vs cs : List V}, Cps H vs cs → Cps H' vs cs
  | _, _, .nil => .nil
  | _, _, .cons h t => .cons (h.ex k) (Cps.ex k t)
/-- __init__ of a class with such fields: all are given -/
def spInit (K : PySem.W.Frag) (fields : List Str) : Sp := fun vs H Q _ => ∃ (x C dx : Addr) (args : List V), vs = .ref x :: args ∧ args.length = fields.length ∧ H x = some (.ins C dx []) ∧ (∀ v ∈ args, Vl H v) ∧ Cls K C ∧ (∀ f ∈ fields, NoAttr K C f) ∧
  ∀ H' cs, Keep x H H' → H' x = some (.ins C dx (fields.zip cs)) → Cps H' args cs → Q .non H'
end
end Kc

namespace Kc
open PySem PySem.Spec PyProof.Rows L2 KcE
theorem putF_new {f : Str} {v : V} : ∀ {fs : List (Str × V)}, f ∉ fs.map (·.1) → putF f v fs = fs ++ [(f, v)]
  | [], _ => rfl
  | (g, x) :: r, h => by
    have h1 : ¬ g = f := fun z => h (by rw [List.map_cons]; exact z ▸ List.mem_cons_self)
    have h2 : f ∉ r.map (·.1) := fun z => h (by rw [List.map_cons]; exact List.mem_cons_of_mem _ z)
    show (if g = f then (g, v) :: r else (g, x) :: putF f v r) = _
    rw [if_neg h1, putF_new h2]
    rfl
theorem Kp.trans {x : Addr} {H H1 H2 : Hp} (a : Kp x H H1) (b : Keep x H1 H2) : Keep x H H2 := a.k.trans b
/-- copied, as the others call it -/
structure Com (K : PySem.W.Frag) (mg : Str → Option Value) (fC : Addr) (fdC : FuncData) : Prop where
  F : Fun K "copied" "copied" sCopied fC fdC
  b : Binds K fdC ["value"] []
  g : mg "copied" = some (.ref fC)
  ms : mg "isinstance" = none
  ml : mg "list" = none
  mt : mg "tuple" = none
section
variable {P : Program} {w : World} {K : PySem.W.Frag} {mg : Str → Option Value} {base : Heap}
theorem Com.ok {fC : Addr} {fdC : FuncData} (T : Com K mg fC fdC) : FnOk P w K mg base CX0 1 fC fdC ["value"] spCopied := ok_copied T.F T.ms T.ml T.mt
theorem four_lt : (4 : Nat) < 1000 := by decide
abbrev iLeads : Stmt := inClass (topS 3) 0
theorem scLeads : FnScope ["self", "steps"] ["self", "steps"] (defScope iLeads) := ⟨rfl, rfl, rfl, by decide +kernel, rfl, by decide +kernel, by decide +kernel⟩
theorem okLeads {f fC : Addr} {fd fdC : FuncData} (F : Fun K "__init__" "Leads.__init__" iLeads f fd) (T : Com K mg fC fdC) : FnOk P w K mg base CX0 2 f fd ["self", "steps"] (spInit K ["steps"]) := by
  refine F.ok scLeads (fun vs H Q E h => ?_) (fun cdv A outer s H vs Q E hr h => ?_)
  · obtain ⟨x, C, dx, args, rfl, hl, _⟩ := h
    exact congrArg Nat.succ hl
  · obtain ⟨x, C, dx, args, rfl, hl, hx, hv, c, na, q⟩ := h
    match args, hl with
    | [v1], _ =>
    refine ⟨_, pss_one (ps_fld (pv 0) (pe_call T.ok hr (by rfl) T.g T.F.kp T.b .nil pass0 (pa_cons (pv 1) pa_nil)) rfl), ?_⟩
    refine fld_go rfl rfl (hv v1 List.mem_cons_self) hx c (na _ List.mem_cons_self) (Nat.lt_of_le_of_lt (show 0 ≤ 4 by decide) four_lt) fun H1 c1 k1 e1 p1 => ?_
    have d1 : H1 x = some (.ins C dx [("steps", c1)]) := e1
    exact q _ [c1] k1.k d1 (.cons p1 .nil)
abbrev iStops : Stmt := inClass (topS 4) 0
theorem scStops : FnScope ["self", "number"] ["self", "number"] (defScope iStops) := ⟨rfl, rfl, rfl, by decide +kernel, rfl, by decide +kernel, by decide +kernel⟩
theorem okStops {f fC : Addr} {fd fdC : FuncData} (F : Fun K "__init__" "Stops.__init__" iStops f fd) (T : Com K mg fC fdC) : FnOk P w K mg base CX0 2 f fd ["self", "number"] (spInit K ["number"]) := by
  refine F.ok scStops (fun vs H Q E h => ?_) (fun cdv A outer s H vs Q E hr h => ?_)
  · obtain ⟨x, C, dx, args, rfl, hl, _⟩ := h
    exact congrArg Nat.succ hl
  · obtain ⟨x, C, dx, args, rfl, hl, hx, hv, c, na, q⟩ := h
    match args, hl with
    | [v1], _ =>
    refine ⟨_, pss_one (ps_fld (pv 0) (pe_call T.ok hr (by rfl) T.g T.F.kp T.b .nil pass0 (pa_cons (pv 1) pa_nil)) rfl), ?_⟩
    refine fld_go rfl rfl (hv v1 List.mem_cons_self) hx c (na _ List.mem_cons_self) (Nat.lt_of_le_of_lt (show 0 ≤ 4 by decide) four_lt) fun H1 c1 k1 e1 p1 => ?_
    have d1 : H1 x = some (.ins C dx [("number", c1)]) := e1
    exact q _ [c1] k1.k d1 (.cons p1 .nil)
abbrev iHived : Stmt := inClass (topS 6) 0
theorem scHived : FnScope ["self", "triangle"] ["self", "triangle"] (defScope iHived) := ⟨rfl, rfl, rfl, by decide +kernel, rfl, by decide +kernel, by decide +kernel⟩
theorem okHived {f fC : Addr} {fd fdC : FuncData} (F : Fun K "__init__" "Hived.__init__" iHived f fd) (T : Com K mg fC fdC) : FnOk P w K mg base CX0 2 f fd ["self", "triangle"] (spInit K ["triangle"]) := by
  refine F.ok scHived (fun vs H Q E h => ?_) (fun cdv A outer s H vs Q E hr h => ?_)
  · obtain ⟨x, C, dx, args, rfl, hl, _⟩ := h
    exact congrArg Nat.succ hl
  · obtain ⟨x, C, dx, args, rfl, hl, hx, hv, c, na, q⟩ := h
    match args, hl with
    | [v1], _ =>
    refine ⟨_, pss_one (ps_fld (pv 0) (pe_call T.ok hr (by rfl) T.g T.F.kp T.b .nil pass0 (pa_cons (pv 1) pa_nil)) rfl), ?_⟩
    refine fld_go rfl rfl (hv v1 List.mem_cons_self) hx c (na _ List.mem_cons_self) (Nat.lt_of_le_of_lt (show 0 ≤ 4 by decide) four_lt) fun H1 c1 k1 e1 p1 => ?_
    have d1 : H1 x = some (.ins C dx [("triangle", c1)]) := e1
    exact q _ [c1] k1.k d1 (.cons p1 .nil)
abbrev iUnhived : Stmt := inClass (topS 7) 0
theorem scUnhived : FnScope ["self", "one", "other", "whole"] ["self", "one", "other", "whole"] (defScope iUnhived) := ⟨rfl, rfl, rfl, by decide +kernel, rfl, by decide +kernel, by decide +kernel⟩
theorem okUnhived {f fC : Addr} {fd fdC : FuncData} (F : Fun K "__init__" "Unhived.__init__" iUnhived f fd) (T : Com K mg fC fdC) : FnOk P w K mg base CX0 2 f fd ["self", "one", "other", "whole"] (spInit K ["one", "other", "whole"]) := by
  refine F.ok scUnhived (fun vs H Q E h => ?_) (fun cdv A outer s H vs Q E hr h => ?_)
  · obtain ⟨x, C, dx, args, rfl, hl, _⟩ := h
    exact congrArg Nat.succ hl
  · obtain ⟨x, C, dx, args, rfl, hl, hx, hv, c, na, q⟩ := h
    match args, hl with
    | [v1, v2, v3], _ =>
    refine ⟨_, pss_cons (ps_fld (pv 0) (pe_call T.ok hr (by rfl) T.g T.F.kp T.b .nil pass0 (pa_cons (pv 1) pa_nil)) rfl) (pss_cons (ps_fld (pv 0) (pe_call T.ok hr (by rfl) T.g T.F.kp T.b .nil pass0 (pa_cons (pv 2) pa_nil)) rfl) (pss_one (ps_fld (pv 0) (pe_call T.ok hr (by rfl) T.g T.F.kp T.b .nil pass0 (pa_cons (pv 3) pa_nil)) rfl))), ?_⟩
    refine fld_go rfl rfl (hv v1 List.mem_cons_self) hx c (na _ List.mem_cons_self) (Nat.lt_of_le_of_lt (show 0 ≤ 4 by decide) four_lt) fun H1 c1 k1 e1 p1 => ?_
    have d1 : H1 x = some (.ins C dx [("one", c1)]) := e1
    refine fld_go rfl rfl ((hv v2 (List.mem_cons_of_mem _ List.mem_cons_self)).kp k1) d1 c (na _ (List.mem_cons_of_mem _ List.mem_cons_self)) (Nat.lt_of_le_of_lt (show 1 ≤ 4 by decide) four_lt) fun H2 c2 k2 e2 p2 => ?_
    have d2 : H2 x = some (.ins C dx [("one", c1), ("other", c2)]) := e2.trans (congrArg (fun z => some (HO.ins C dx z)) (putF_new (fs := [("one", c1)]) (show ("other" : Str) ∉ (["one"] : List Str) by decide +kernel)))
    refine fld_go rfl rfl (((hv v3 (List.mem_cons_of_mem _ (List.mem_cons_of_mem _ List.mem_cons_self))).kp k1).kp k2) d2 c (na _ (List.mem_cons_of_mem _ (List.mem_cons_of_mem _ List.mem_cons_self))) (Nat.lt_of_le_of_lt (show 2 ≤ 4 by decide) four_lt) fun H3 c3 k3 e3 p3 => ?_
    have d3 : H3 x = some (.ins C dx [("one", c1), ("other", c2), ("whole", c3)]) := e3.trans (congrArg (fun z => some (HO.ins C dx z)) (putF_new (fs := [("one", c1), ("other", c2)]) (show ("whole" : Str) ∉ (["one", "other"] : List Str) by decide +kernel)))
    exact q _ [c1, c2, c3] ((k1.k.trans k2.k).trans k3.k) d3 (.cons ((p1.kp k2).kp k3) (.cons (p2.kp k3) (.cons p3 .nil)))
abbrev iMade : Stmt := inClass (topS 9) 0
theorem scMade : FnScope ["self", "first", "second"] ["self", "first", "second"] (defScope iMade) := ⟨rfl, rfl, rfl, by decide +kernel, rfl, by decide +kernel, by decide +kernel⟩
theorem okMade {f fC : Addr} {fd fdC : FuncData} (F : Fun K "__init__" "Made.__init__" iMade f fd) (T : Com K mg fC fdC) : FnOk P w K mg base CX0 2 f fd ["self", "first", "second"] (spInit K ["first", "second"]) := by
  refine F.ok scMade (fun vs H Q E h => ?_) (fun cdv A outer s H vs Q E hr h => ?_)
  · obtain ⟨x, C, dx, args, rfl, hl, _⟩ := h
    exact congrArg Nat.succ hl
  · obtain ⟨x, C, dx, args, rfl, hl, hx, hv, c, na, q⟩ := h
    match args, hl with
    | [v1, v2], _ =>
    refine ⟨_, pss_cons (ps_fld (pv 0) (pe_call T.ok hr (by rfl) T.g T.F.kp T.b .nil pass0 (pa_cons (pv 1) pa_nil)) rfl) (pss_one (ps_fld (pv 0) (pe_call T.ok hr (by rfl) T.g T.F.kp T.b .nil pass0 (pa_cons (pv 2) pa_nil)) rfl)), ?_⟩
    refine fld_go rfl rfl (hv v1 List.mem_cons_self) hx c (na _ List.mem_cons_self) (Nat.lt_of_le_of_lt (show 0 ≤ 4 by decide) four_lt) fun H1 c1 k1 e1 p1 => ?_
    have d1 : H1 x = some (.ins C dx [("first", c1)]) := e1
    refine fld_go rfl rfl ((hv v2 (List.mem_cons_of_mem _ List.mem_cons_self)).kp k1) d1 c (na _ (List.mem_cons_of_mem _ List.mem_cons_self)) (Nat.lt_of_le_of_lt (show 1 ≤ 4 by decide) four_lt) fun H2 c2 k2 e2 p2 => ?_
    have d2 : H2 x = some (.ins C dx [("first", c1), ("second", c2)]) := e2.trans (congrArg (fun z => some (HO.ins C dx z)) (putF_new (fs := [("first", c1)]) (show ("second" : Str) ∉ (["first"] : List Str) by decide +kernel)))
    exact q _ [c1, c2] (k1.k.trans k2.k) d2 (.cons (p1.kp k2) (.cons p2 .nil))
abbrev iUnmade : Stmt := inClass (topS 10) 0
theorem scUnmade : FnScope ["self", "prime", "triple"] ["self", "prime", "triple"] (defScope iUnmade) := ⟨rfl, rfl, rfl, by decide +kernel, rfl, by decide +kernel, by decide +kernel⟩
theorem okUnmade {f fC : Addr} {fd fdC : FuncData} (F : Fun K "__init__" "Unmade.__init__" iUnmade f fd) (T : Com K mg fC fdC) : FnOk P w K mg base CX0 2 f fd ["self", "prime", "triple"] (spInit K ["prime", "triple"]) := by
  refine F.ok scUnmade (fun vs H Q E h => ?_) (fun cdv A outer s H vs Q E hr h => ?_)
  · obtain ⟨x, C, dx, args, rfl, hl, _⟩ := h
    exact congrArg Nat.succ hl
  · obtain ⟨x, C, dx, args, rfl, hl, hx, hv, c, na, q⟩ := h
    match args, hl with
    | [v1, v2], _ =>
    refine ⟨_, pss_cons (ps_fld (pv 0) (pe_call T.ok hr (by rfl) T.g T.F.kp T.b .nil pass0 (pa_cons (pv 1) pa_nil)) rfl) (pss_one (ps_fld (pv 0) (pe_call T.ok hr (by rfl) T.g T.F.kp T.b .nil pass0 (pa_cons (pv 2) pa_nil)) rfl)), ?_⟩
    refine fld_go rfl rfl (hv v1 List.mem_cons_self) hx c (na _ List.mem_cons_self) (Nat.lt_of_le_of_lt (show 0 ≤ 4 by decide) four_lt) fun H1 c1 k1 e1 p1 => ?_
    have d1 : H1 x = some (.ins C dx [("prime", c1)]) := e1
    refine fld_go rfl rfl ((hv v2 (List.mem_cons_of_mem _ List.mem_cons_self)).kp k1) d1 c (na _ (List.mem_cons_of_mem _ List.mem_cons_self)) (Nat.lt_of_le_of_lt (show 1 ≤ 4 by decide) four_lt) fun H2 c2 k2 e2 p2 => ?_
    have d2 : H2 x = some (.ins C dx [("prime", c1), ("triple", c2)]) := e2.trans (congrArg (fun z => some (HO.ins C dx z)) (putF_new (fs := [("prime", c1)]) (show ("triple" : Str) ∉ (["prime"] : List Str) by decide +kernel)))
    exact q _ [c1, c2] (k1.k.trans k2.k) d2 (.cons (p1.kp k2) (.cons p2 .nil))
abbrev iPair : Stmt := inClass (topS 12) 0
theorem scPair : FnScope ["self", "filling", "order"] ["self", "filling", "order"] (defScope iPair) := ⟨rfl, rfl, rfl, by decide +kernel, rfl, by decide +kernel, by decide +kernel⟩
theorem okPair {f fC : Addr} {fd fdC : FuncData} (F : Fun K "__init__" "Pair.__init__" iPair f fd) (T : Com K mg fC fdC) : FnOk P w K mg base CX0 2 f fd ["self", "filling", "order"] (spInit K ["filling", "order"]) := by
  refine F.ok scPair (fun vs H Q E h => ?_) (fun cdv A outer s H vs Q E hr h => ?_)
  · obtain ⟨x, C, dx, args, rfl, hl, _⟩ := h
    exact congrArg Nat.succ hl
  · obtain ⟨x, C, dx, args, rfl, hl, hx, hv, c, na, q⟩ := h
    match args, hl with
    | [v1, v2], _ =>
    refine ⟨_, pss_cons (ps_fld (pv 0) (pe_call T.ok hr (by rfl) T.g T.F.kp T.b .nil pass0 (pa_cons (pv 1) pa_nil)) rfl) (pss_one (ps_fld (pv 0) (pe_call T.ok hr (by rfl) T.g T.F.kp T.b .nil pass0 (pa_cons (pv 2) pa_nil)) rfl)), ?_⟩
    refine fld_go rfl rfl (hv v1 List.mem_cons_self) hx c (na _ List.mem_cons_self) (Nat.lt_of_le_of_lt (show 0 ≤ 4 by decide) four_lt) fun H1 c1 k1 e1 p1 => ?_
    have d1 : H1 x = some (.ins C dx [("filling", c1)]) := e1
    refine fld_go rfl rfl ((hv v2 (List.mem_cons_of_mem _ List.mem_cons_self)).kp k1) d1 c (na _ (List.mem_cons_of_mem _ List.mem_cons_self)) (Nat.lt_of_le_of_lt (show 1 ≤ 4 by decide) four_lt) fun H2 c2 k2 e2 p2 => ?_
    have d2 : H2 x = some (.ins C dx [("filling", c1), ("order", c2)]) := e2.trans (congrArg (fun z => some (HO.ins C dx z)) (putF_new (fs := [("filling", c1)]) (show ("order" : Str) ∉ (["filling"] : List Str) by decide +kernel)))
    exact q _ [c1, c2] (k1.k.trans k2.k) d2 (.cons (p1.kp k2) (.cons p2 .nil))
abbrev iHeld : Stmt := inClass (topS 14) 0
theorem scHeld : FnScope ["self", "rows"] ["self", "rows"] (defScope iHeld) := ⟨rfl, rfl, rfl, by decide +kernel, rfl, by decide +kernel, by decide +kernel⟩
theorem okHeld {f fC : Addr} {fd fdC : FuncData} (F : Fun K "__init__" "Held.__init__" iHeld f fd) (T : Com K mg fC fdC) : FnOk P w K mg base CX0 2 f fd ["self", "rows"] (spInit K ["rows"]) := by
  refine F.ok scHeld (fun vs H Q E h => ?_) (fun cdv A outer s H vs Q E hr h => ?_)
  · obtain ⟨x, C, dx, args, rfl, hl, _⟩ := h
    exact congrArg Nat.succ hl
  · obtain ⟨x, C, dx, args, rfl, hl, hx, hv, c, na, q⟩ := h
    match args, hl with
    | [v1], _ =>
    refine ⟨_, pss_one (ps_fld (pv 0) (pe_call T.ok hr (by rfl) T.g T.F.kp T.b .nil pass0 (pa_cons (pv 1) pa_nil)) rfl), ?_⟩
    refine fld_go rfl rfl (hv v1 List.mem_cons_self) hx c (na _ List.mem_cons_self) (Nat.lt_of_le_of_lt (show 0 ≤ 4 by decide) four_lt) fun H1 c1 k1 e1 p1 => ?_
    have d1 : H1 x = some (.ins C dx [("rows", c1)]) := e1
    exact q _ [c1] k1.k d1 (.cons p1 .nil)
abbrev iUnheld : Stmt := inClass (topS 15) 0
theorem scUnheld : FnScope ["self", "triple"] ["self", "triple"] (defScope iUnheld) := ⟨rfl, rfl, rfl, by decide +kernel, rfl, by decide +kernel, by decide +kernel⟩
theorem okUnheld {f fC : Addr} {fd fdC : FuncData} (F : Fun K "__init__" "Unheld.__init__" iUnheld f fd) (T : Com K mg fC fdC) : FnOk P w K mg base CX0 2 f fd ["self", "triple"] (spInit K ["triple"]) := by
  refine F.ok scUnheld (fun vs H Q E h => ?_) (fun cdv A outer s H vs Q E hr h => ?_)
  · obtain ⟨x, C, dx, args, rfl, hl, _⟩ := h
    exact congrArg Nat.succ hl
  · obtain ⟨x, C, dx, args, rfl, hl, hx, hv, c, na, q⟩ := h
    match args, hl with
    | [v1], _ =>
    refine ⟨_, pss_one (ps_fld (pv 0) (pe_call T.ok hr (by rfl) T.g T.F.kp T.b .nil pass0 (pa_cons (pv 1) pa_nil)) rfl), ?_⟩
    refine fld_go rfl rfl (hv v1 List.mem_cons_self) hx c (na _ List.mem_cons_self) (Nat.lt_of_le_of_lt (show 0 ≤ 4 by decide) four_lt) fun H1 c1 k1 e1 p1 => ?_
    have d1 : H1 x = some (.ins C dx [("triple", c1)]) := e1
    exact q _ [c1] k1.k d1 (.cons p1 .nil)
abbrev iKeptRoom : Stmt := inClass (topS 17) 0
theorem scKeptRoom : FnScope ["self", "step", "room"] ["self", "step", "room"] (defScope iKeptRoom) := ⟨rfl, rfl, rfl, by decide +kernel, rfl, by decide +kernel, by decide +kernel⟩
theorem okKeptRoom {f fC : Addr} {fd fdC : FuncData} (F : Fun K "__init__" "KeptRoom.__init__" iKeptRoom f fd) (T : Com K mg fC fdC) : FnOk P w K mg base CX0 2 f fd ["self", "step", "room"] (spInit K ["step", "room"]) := by
  refine F.ok scKeptRoom (fun vs H Q E h => ?_) (fun cdv A outer s H vs Q E hr h => ?_)
  · obtain ⟨x, C, dx, args, rfl, hl, _⟩ := h
    exact congrArg Nat.succ hl
  · obtain ⟨x, C, dx, args, rfl, hl, hx, hv, c, na, q⟩ := h
    match args, hl with
    | [v1, v2], _ =>
    refine ⟨_, pss_cons (ps_fld (pv 0) (pe_call T.ok hr (by rfl) T.g T.F.kp T.b .nil pass0 (pa_cons (pv 1) pa_nil)) rfl) (pss_one (ps_fld (pv 0) (pe_call T.ok hr (by rfl) T.g T.F.kp T.b .nil pass0 (pa_cons (pv 2) pa_nil)) rfl)), ?_⟩
    refine fld_go rfl rfl (hv v1 List.mem_cons_self) hx c (na _ List.mem_cons_self) (Nat.lt_of_le_of_lt (show 0 ≤ 4 by decide) four_lt) fun H1 c1 k1 e1 p1 => ?_
    have d1 : H1 x = some (.ins C dx [("step", c1)]) := e1
    refine fld_go rfl rfl ((hv v2 (List.mem_cons_of_mem _ List.mem_cons_self)).kp k1) d1 c (na _ (List.mem_cons_of_mem _ List.mem_cons_self)) (Nat.lt_of_le_of_lt (show 1 ≤ 4 by decide) four_lt) fun H2 c2 k2 e2 p2 => ?_
    have d2 : H2 x = some (.ins C dx [("step", c1), ("room", c2)]) := e2.trans (congrArg (fun z => some (HO.ins C dx z)) (putF_new (fs := [("step", c1)]) (show ("room" : Str) ∉ (["step"] : List Str) by decide +kernel)))
    exact q _ [c1, c2] (k1.k.trans k2.k) d2 (.cons (p1.kp k2) (.cons p2 .nil))
abbrev iTop : Stmt := inClass (topS 19) 0
theorem scTop : FnScope ["self", "word", "steps"] ["self", "word", "steps"] (defScope iTop) := ⟨rfl, rfl, rfl, by decide +kernel, rfl, by decide +kernel, by decide +kernel⟩
theorem okTop {f fC : Addr} {fd fdC : FuncData} (F : Fun K "__init__" "Top.__init__" iTop f fd) (T : Com K mg fC fdC) : FnOk P w K mg base CX0 2 f fd ["self", "word", "steps"] (spInit K ["word", "steps"]) := by
  refine F.ok scTop (fun vs H Q E h => ?_) (fun cdv A outer s H vs Q E hr h => ?_)
  · obtain ⟨x, C, dx, args, rfl, hl, _⟩ := h
    exact congrArg Nat.succ hl
  · obtain ⟨x, C, dx, args, rfl, hl, hx, hv, c, na, q⟩ := h
    match args, hl with
    | [v1, v2], _ =>
    refine ⟨_, pss_cons (ps_fld (pv 0) (pe_call T.ok hr (by rfl) T.g T.F.kp T.b .nil pass0 (pa_cons (pv 1) pa_nil)) rfl) (pss_one (ps_fld (pv 0) (pe_call T.ok hr (by rfl) T.g T.F.kp T.b .nil pass0 (pa_cons (pv 2) pa_nil)) rfl)), ?_⟩
    refine fld_go rfl rfl (hv v1 List.mem_cons_self) hx c (na _ List.mem_cons_self) (Nat.lt_of_le_of_lt (show 0 ≤ 4 by decide) four_lt) fun H1 c1 k1 e1 p1 => ?_
    have d1 : H1 x = some (.ins C dx [("word", c1)]) := e1
    refine fld_go rfl rfl ((hv v2 (List.mem_cons_of_mem _ List.mem_cons_self)).kp k1) d1 c (na _ (List.mem_cons_of_mem _ List.mem_cons_self)) (Nat.lt_of_le_of_lt (show 1 ≤ 4 by decide) four_lt) fun H2 c2 k2 e2 p2 => ?_
    have d2 : H2 x = some (.ins C dx [("word", c1), ("steps", c2)]) := e2.trans (congrArg (fun z => some (HO.ins C dx z)) (putF_new (fs := [("word", c1)]) (show ("steps" : Str) ∉ (["word"] : List Str) by decide +kernel)))
    exact q _ [c1, c2] (k1.k.trans k2.k) d2 (.cons (p1.kp k2) (.cons p2 .nil))
abbrev iWeb : Stmt := inClass (topS 20) 0
theorem scWeb : FnScope ["self", "words", "ways"] ["self", "words", "ways"] (defScope iWeb) := ⟨rfl, rfl, rfl, by decide +kernel, rfl, by decide +kernel, by decide +kernel⟩
theorem okWeb {f fC : Addr} {fd fdC : FuncData} (F : Fun K "__init__" "Web.__init__" iWeb f fd) (T : Com K mg fC fdC) : FnOk P w K mg base CX0 2 f fd ["self", "words", "ways"] (spInit K ["words", "ways"]) := by
  refine F.ok scWeb (fun vs H Q E h => ?_) (fun cdv A outer s H vs Q E hr h => ?_)
  · obtain ⟨x, C, dx, args, rfl, hl, _⟩ := h
    exact congrArg Nat.succ hl
  · obtain ⟨x, C, dx, args, rfl, hl, hx, hv, c, na, q⟩ := h
    match args, hl with
    | [v1, v2], _ =>
    refine ⟨_, pss_cons (ps_fld (pv 0) (pe_call T.ok hr (by rfl) T.g T.F.kp T.b .nil pass0 (pa_cons (pv 1) pa_nil)) rfl) (pss_one (ps_fld (pv 0) (pe_call T.ok hr (by rfl) T.g T.F.kp T.b .nil pass0 (pa_cons (pv 2) pa_nil)) rfl)), ?_⟩
    refine fld_go rfl rfl (hv v1 List.mem_cons_self) hx c (na _ List.mem_cons_self) (Nat.lt_of_le_of_lt (show 0 ≤ 4 by decide) four_lt) fun H1 c1 k1 e1 p1 => ?_
    have d1 : H1 x = some (.ins C dx [("words", c1)]) := e1
    refine fld_go rfl rfl ((hv v2 (List.mem_cons_of_mem _ List.mem_cons_self)).kp k1) d1 c (na _ (List.mem_cons_of_mem _ List.mem_cons_self)) (Nat.lt_of_le_of_lt (show 1 ≤ 4 by decide) four_lt) fun H2 c2 k2 e2 p2 => ?_
    have d2 : H2 x = some (.ins C dx [("words", c1), ("ways", c2)]) := e2.trans (congrArg (fun z => some (HO.ins C dx z)) (putF_new (fs := [("words", c1)]) (show ("ways" : Str) ∉ (["words"] : List Str) by decide +kernel)))
    exact q _ [c1, c2] (k1.k.trans k2.k) d2 (.cons (p1.kp k2) (.cons p2 .nil))
abbrev iAlong : Stmt := inClass (topS 21) 0
theorem scAlong : FnScope ["self", "words"] ["self", "words"] (defScope iAlong) := ⟨rfl, rfl, rfl, by decide +kernel, rfl, by decide +kernel, by decide +kernel⟩
theorem okAlong {f fC : Addr} {fd fdC : FuncData} (F : Fun K "__init__" "Along.__init__" iAlong f fd) (T : Com K mg fC fdC) : FnOk P w K mg base CX0 2 f fd ["self", "words"] (spInit K ["words"]) := by
  refine F.ok scAlong (fun vs H Q E h => ?_) (fun cdv A outer s H vs Q E hr h => ?_)
  · obtain ⟨x, C, dx, args, rfl, hl, _⟩ := h
    exact congrArg Nat.succ hl
  · obtain ⟨x, C, dx, args, rfl, hl, hx, hv, c, na, q⟩ := h
    match args, hl with
    | [v1], _ =>
    refine ⟨_, pss_one (ps_fld (pv 0) (pe_call T.ok hr (by rfl) T.g T.F.kp T.b .nil pass0 (pa_cons (pv 1) pa_nil)) rfl), ?_⟩
    refine fld_go rfl rfl (hv v1 List.mem_cons_self) hx c (na _ List.mem_cons_self) (Nat.lt_of_le_of_lt (show 0 ≤ 4 by decide) four_lt) fun H1 c1 k1 e1 p1 => ?_
    have d1 : H1 x = some (.ins C dx [("words", c1)]) := e1
    exact q _ [c1] k1.k d1 (.cons p1 .nil)
abbrev iTops : Stmt := inClass (topS 22) 0
theorem scTops : FnScope ["self", "one", "other"] ["self", "one", "other"] (defScope iTops) := ⟨rfl, rfl, rfl, by decide +kernel, rfl, by decide +kernel, by decide +kernel⟩
theorem okTops {f fC : Addr} {fd fdC : FuncData} (F : Fun K "__init__" "Tops.__init__" iTops f fd) (T : Com K mg fC fdC) : FnOk P w K mg base CX0 2 f fd ["self", "one", "other"] (spInit K ["one", "other"]) := by
  refine F.ok scTops (fun vs H Q E h => ?_) (fun cdv A outer s H vs Q E hr h => ?_)
  · obtain ⟨x, C, dx, args, rfl, hl, _⟩ := h
    exact congrArg Nat.succ hl
  · obtain ⟨x, C, dx, args, rfl, hl, hx, hv, c, na, q⟩ := h
    match args, hl with
    | [v1, v2], _ =>
    refine ⟨_, pss_cons (ps_fld (pv 0) (pe_call T.ok hr (by rfl) T.g T.F.kp T.b .nil pass0 (pa_cons (pv 1) pa_nil)) rfl) (pss_one (ps_fld (pv 0) (pe_call T.ok hr (by rfl) T.g T.F.kp T.b .nil pass0 (pa_cons (pv 2) pa_nil)) rfl)), ?_⟩
    refine fld_go rfl rfl (hv v1 List.mem_cons_self) hx c (na _ List.mem_cons_self) (Nat.lt_of_le_of_lt (show 0 ≤ 4 by decide) four_lt) fun H1 c1 k1 e1 p1 => ?_
    have d1 : H1 x = some (.ins C dx [("one", c1)]) := e1
    refine fld_go rfl rfl ((hv v2 (List.mem_cons_of_mem _ List.mem_cons_self)).kp k1) d1 c (na _ (List.mem_cons_of_mem _ List.mem_cons_self)) (Nat.lt_of_le_of_lt (show 1 ≤ 4 by decide) four_lt) fun H2 c2 k2 e2 p2 => ?_
    have d2 : H2 x = some (.ins C dx [("one", c1), ("other", c2)]) := e2.trans (congrArg (fun z => some (HO.ins C dx z)) (putF_new (fs := [("one", c1)]) (show ("other" : Str) ∉ (["one"] : List Str) by decide +kernel)))
    exact q _ [c1, c2] (k1.k.trans k2.k) d2 (.cons (p1.kp k2) (.cons p2 .nil))
abbrev iTable : Stmt := inClass (topS 24) 0
theorem scTable : FnScope ["self", "rows"] ["self", "rows"] (defScope iTable) := ⟨rfl, rfl, rfl, by decide +kernel, rfl, by decide +kernel, by decide +kernel⟩
theorem okTable {f fC : Addr} {fd fdC : FuncData} (F : Fun K "__init__" "Table.__init__" iTable f fd) (T : Com K mg fC fdC) : FnOk P w K mg base CX0 2 f fd ["self", "rows"] (spInit K ["rows"]) := by
  refine F.ok scTable (fun vs H Q E h => ?_) (fun cdv A outer s H vs Q E hr h => ?_)
  · obtain ⟨x, C, dx, args, rfl, hl, _⟩ := h
    exact congrArg Nat.succ hl
  · obtain ⟨x, C, dx, args, rfl, hl, hx, hv, c, na, q⟩ := h
    match args, hl with
    | [v1], _ =>
    refine ⟨_, pss_one (ps_fld (pv 0) (pe_call T.ok hr (by rfl) T.g T.F.kp T.b .nil pass0 (pa_cons (pv 1) pa_nil)) rfl), ?_⟩
    refine fld_go rfl rfl (hv v1 List.mem_cons_self) hx c (na _ List.mem_cons_self) (Nat.lt_of_le_of_lt (show 0 ≤ 4 by decide) four_lt) fun H1 c1 k1 e1 p1 => ?_
    have d1 : H1 x = some (.ins C dx [("rows", c1)]) := e1
    exact q _ [c1] k1.k d1 (.cons p1 .nil)
abbrev iBarred : Stmt := inClass (topS 25) 0
theorem scBarred : FnScope ["self", "number"] ["self", "number"] (defScope iBarred) := ⟨rfl, rfl, rfl, by decide +kernel, rfl, by decide +kernel, by decide +kernel⟩
theorem okBarred {f fC : Addr} {fd fdC : FuncData} (F : Fun K "__init__" "Barred.__init__" iBarred f fd) (T : Com K mg fC fdC) : FnOk P w K mg base CX0 2 f fd ["self", "number"] (spInit K ["number"]) := by
  refine F.ok scBarred (fun vs H Q E h => ?_) (fun cdv A outer s H vs Q E hr h => ?_)
  · obtain ⟨x, C, dx, args, rfl, hl, _⟩ := h
    exact congrArg Nat.succ hl
  · obtain ⟨x, C, dx, args, rfl, hl, hx, hv, c, na, q⟩ := h
    match args, hl with
    | [v1], _ =>
    refine ⟨_, pss_one (ps_fld (pv 0) (pe_call T.ok hr (by rfl) T.g T.F.kp T.b .nil pass0 (pa_cons (pv 1) pa_nil)) rfl), ?_⟩
    refine fld_go rfl rfl (hv v1 List.mem_cons_self) hx c (na _ List.mem_cons_self) (Nat.lt_of_le_of_lt (show 0 ≤ 4 by decide) four_lt) fun H1 c1 k1 e1 p1 => ?_
    have d1 : H1 x = some (.ins C dx [("number", c1)]) := e1
    exact q _ [c1] k1.k d1 (.cons p1 .nil)
abbrev iCrossed : Stmt := inClass (topS 27) 0
theorem scCrossed : FnScope ["self", "base", "table"] ["self", "base", "table"] (defScope iCrossed) := ⟨rfl, rfl, rfl, by decide +kernel, rfl, by decide +kernel, by decide +kernel⟩
theorem okCrossed {f fC : Addr} {fd fdC : FuncData} (F : Fun K "__init__" "Crossed.__init__" iCrossed f fd) (T : Com K mg fC fdC) : FnOk P w K mg base CX0 2 f fd ["self", "base", "table"] (spInit K ["base", "table"]) := by
  refine F.ok scCrossed (fun vs H Q E h => ?_) (fun cdv A outer s H vs Q E hr h => ?_)
  · obtain ⟨x, C, dx, args, rfl, hl, _⟩ := h
    exact congrArg Nat.succ hl
  · obtain ⟨x, C, dx, args, rfl, hl, hx, hv, c, na, q⟩ := h
    match args, hl with
    | [v1, v2], _ =>
    refine ⟨_, pss_cons (ps_fld (pv 0) (pe_call T.ok hr (by rfl) T.g T.F.kp T.b .nil pass0 (pa_cons (pv 1) pa_nil)) rfl) (pss_one (ps_fld (pv 0) (pe_call T.ok hr (by rfl) T.g T.F.kp T.b .nil pass0 (pa_cons (pv 2) pa_nil)) rfl)), ?_⟩
    refine fld_go rfl rfl (hv v1 List.mem_cons_self) hx c (na _ List.mem_cons_self) (Nat.lt_of_le_of_lt (show 0 ≤ 4 by decide) four_lt) fun H1 c1 k1 e1 p1 => ?_
    have d1 : H1 x = some (.ins C dx [("base", c1)]) := e1
    refine fld_go rfl rfl ((hv v2 (List.mem_cons_of_mem _ List.mem_cons_self)).kp k1) d1 c (na _ (List.mem_cons_of_mem _ List.mem_cons_self)) (Nat.lt_of_le_of_lt (show 1 ≤ 4 by decide) four_lt) fun H2 c2 k2 e2 p2 => ?_
    have d2 : H2 x = some (.ins C dx [("base", c1), ("table", c2)]) := e2.trans (congrArg (fun z => some (HO.ins C dx z)) (putF_new (fs := [("base", c1)]) (show ("table" : Str) ∉ (["base"] : List Str) by decide +kernel)))
    exact q _ [c1, c2] (k1.k.trans k2.k) d2 (.cons (p1.kp k2) (.cons p2 .nil))
abbrev iMoves : Stmt := inClass (topS 29) 0
theorem scMoves : FnScope ["self", "steps"] ["self", "steps"] (defScope iMoves) := ⟨rfl, rfl, rfl, by decide +kernel, rfl, by decide +kernel, by decide +kernel⟩
theorem okMoves {f fC : Addr} {fd fdC : FuncData} (F : Fun K "__init__" "Moves.__init__" iMoves f fd) (T : Com K mg fC fdC) : FnOk P w K mg base CX0 2 f fd ["self", "steps"] (spInit K ["steps"]) := by
  refine F.ok scMoves (fun vs H Q E h => ?_) (fun cdv A outer s H vs Q E hr h => ?_)
  · obtain ⟨x, C, dx, args, rfl, hl, _⟩ := h
    exact congrArg Nat.succ hl
  · obtain ⟨x, C, dx, args, rfl, hl, hx, hv, c, na, q⟩ := h
    match args, hl with
    | [v1], _ =>
    refine ⟨_, pss_one (ps_fld (pv 0) (pe_call T.ok hr (by rfl) T.g T.F.kp T.b .nil pass0 (pa_cons (pv 1) pa_nil)) rfl), ?_⟩
    refine fld_go rfl rfl (hv v1 List.mem_cons_self) hx c (na _ List.mem_cons_self) (Nat.lt_of_le_of_lt (show 0 ≤ 4 by decide) four_lt) fun H1 c1 k1 e1 p1 => ?_
    have d1 : H1 x = some (.ins C dx [("steps", c1)]) := e1
    exact q _ [c1] k1.k d1 (.cons p1 .nil)
abbrev iApart : Stmt := inClass (topS 30) 0
theorem scApart : FnScope ["self", "side", "limit", "rising", "falling"] ["self", "side", "limit", "rising", "falling"] (defScope iApart) := ⟨rfl, rfl, rfl, by decide +kernel, rfl, by decide +kernel, by decide +kernel⟩
theorem okApart {f fC : Addr} {fd fdC : FuncData} (F : Fun K "__init__" "Apart.__init__" iApart f fd) (T : Com K mg fC fdC) : FnOk P w K mg base CX0 2 f fd ["self", "side", "limit", "rising", "falling"] (spInit K ["side", "limit", "rising", "falling"]) := by
  refine F.ok scApart (fun vs H Q E h => ?_) (fun cdv A outer s H vs Q E hr h => ?_)
  · obtain ⟨x, C, dx, args, rfl, hl, _⟩ := h
    exact congrArg Nat.succ hl
  · obtain ⟨x, C, dx, args, rfl, hl, hx, hv, c, na, q⟩ := h
    match args, hl with
    | [v1, v2, v3, v4], _ =>
    refine ⟨_, pss_cons (ps_fld (pv 0) (pe_call T.ok hr (by rfl) T.g T.F.kp T.b .nil pass0 (pa_cons (pv 1) pa_nil)) rfl) (pss_cons (ps_fld (pv 0) (pe_call T.ok hr (by rfl) T.g T.F.kp T.b .nil pass0 (pa_cons (pv 2) pa_nil)) rfl) (pss_cons (ps_fld (pv 0) (pe_call T.ok hr (by rfl) T.g T.F.kp T.b .nil pass0 (pa_cons (pv 3) pa_nil)) rfl) (pss_one (ps_fld (pv 0) (pe_call T.ok hr (by rfl) T.g T.F.kp T.b .nil pass0 (pa_cons (pv 4) pa_nil)) rfl)))), ?_⟩
    refine fld_go rfl rfl (hv v1 List.mem_cons_self) hx c (na _ List.mem_cons_self) (Nat.lt_of_le_of_lt (show 0 ≤ 4 by decide) four_lt) fun H1 c1 k1 e1 p1 => ?_
    have d1 : H1 x = some (.ins C dx [("side", c1)]) := e1
    refine fld_go rfl rfl ((hv v2 (List.mem_cons_of_mem _ List.mem_cons_self)).kp k1) d1 c (na _ (List.mem_cons_of_mem _ List.mem_cons_self)) (Nat.lt_of_le_of_lt (show 1 ≤ 4 by decide) four_lt) fun H2 c2 k2 e2 p2 => ?_
    have d2 : H2 x = some (.ins C dx [("side", c1), ("limit", c2)]) := e2.trans (congrArg (fun z => some (HO.ins C dx z)) (putF_new (fs := [("side", c1)]) (show ("limit" : Str) ∉ (["side"] : List Str) by decide +kernel)))
    refine fld_go rfl rfl (((hv v3 (List.mem_cons_of_mem _ (List.mem_cons_of_mem _ List.mem_cons_self))).kp k1).kp k2) d2 c (na _ (List.mem_cons_of_mem _ (List.mem_cons_of_mem _ List.mem_cons_self))) (Nat.lt_of_le_of_lt (show 2 ≤ 4 by decide) four_lt) fun H3 c3 k3 e3 p3 => ?_
    have d3 : H3 x = some (.ins C dx [("side", c1), ("limit", c2), ("rising", c3)]) := e3.trans (congrArg (fun z => some (HO.ins C dx z)) (putF_new (fs := [("side", c1), ("limit", c2)]) (show ("rising" : Str) ∉ (["side", "limit"] : List Str) by decide +kernel)))
    refine fld_go rfl rfl ((((hv v4 (List.mem_cons_of_mem _ (List.mem_cons_of_mem _ (List.mem_cons_of_mem _ List.mem_cons_self)))).kp k1).kp k2).kp k3) d3 c (na _ (List.mem_cons_of_mem _ (List.mem_cons_of_mem _ (List.mem_cons_of_mem _ List.mem_cons_self)))) (Nat.lt_of_le_of_lt (show 3 ≤ 4 by decide) four_lt) fun H4 c4 k4 e4 p4 => ?_
    have d4 : H4 x = some (.ins C dx [("side", c1), ("limit", c2), ("rising", c3), ("falling", c4)]) := e4.trans (congrArg (fun z => some (HO.ins C dx z)) (putF_new (fs := [("side", c1), ("limit", c2), ("rising", c3)]) (show ("falling" : Str) ∉ (["side", "limit", "rising"] : List Str) by decide +kernel)))
    exact q _ [c1, c2, c3, c4] (((k1.k.trans k2.k).trans k3.k).trans k4.k) d4 (.cons (((p1.kp k2).kp k3).kp k4) (.cons ((p2.kp k3).kp k4) (.cons (p3.kp k4) (.cons p4 .nil))))
abbrev iLongest : Stmt := inClass (topS 31) 0
theorem scLongest : FnScope ["self", "rising", "falling"] ["self", "rising", "falling"] (defScope iLongest) := ⟨rfl, rfl, rfl, by decide +kernel, rfl, by decide +kernel, by decide +kernel⟩
theorem okLongest {f fC : Addr} {fd fdC : FuncData} (F : Fun K "__init__" "Longest.__init__" iLongest f fd) (T : Com K mg fC fdC) : FnOk P w K mg base CX0 2 f fd ["self", "rising", "falling"] (spInit K ["rising", "falling"]) := by
  refine F.ok scLongest (fun vs H Q E h => ?_) (fun cdv A outer s H vs Q E hr h => ?_)
  · obtain ⟨x, C, dx, args, rfl, hl, _⟩ := h
    exact congrArg Nat.succ hl
  · obtain ⟨x, C, dx, args, rfl, hl, hx, hv, c, na, q⟩ := h
    match args, hl with
    | [v1, v2], _ =>
    refine ⟨_, pss_cons (ps_fld (pv 0) (pe_call T.ok hr (by rfl) T.g T.F.kp T.b .nil pass0 (pa_cons (pv 1) pa_nil)) rfl) (pss_one (ps_fld (pv 0) (pe_call T.ok hr (by rfl) T.g T.F.kp T.b .nil pass0 (pa_cons (pv 2) pa_nil)) rfl)), ?_⟩
    refine fld_go rfl rfl (hv v1 List.mem_cons_self) hx c (na _ List.mem_cons_self) (Nat.lt_of_le_of_lt (show 0 ≤ 4 by decide) four_lt) fun H1 c1 k1 e1 p1 => ?_
    have d1 : H1 x = some (.ins C dx [("rising", c1)]) := e1
    refine fld_go rfl rfl ((hv v2 (List.mem_cons_of_mem _ List.mem_cons_self)).kp k1) d1 c (na _ (List.mem_cons_of_mem _ List.mem_cons_self)) (Nat.lt_of_le_of_lt (show 1 ≤ 4 by decide) four_lt) fun H2 c2 k2 e2 p2 => ?_
    have d2 : H2 x = some (.ins C dx [("rising", c1), ("falling", c2)]) := e2.trans (congrArg (fun z => some (HO.ins C dx z)) (putF_new (fs := [("rising", c1)]) (show ("falling" : Str) ∉ (["rising"] : List Str) by decide +kernel)))
    exact q _ [c1, c2] (k1.k.trans k2.k) d2 (.cons (p1.kp k2) (.cons p2 .nil))
abbrev iFailing : Stmt := inClass (topS 33) 0
theorem scFailing : FnScope ["self", "left", "far", "low"] ["self", "left", "far", "low"] (defScope iFailing) := ⟨rfl, rfl, rfl, by decide +kernel, rfl, by decide +kernel, by decide +kernel⟩
theorem okFailing {f fC : Addr} {fd fdC : FuncData} (F : Fun K "__init__" "Failing.__init__" iFailing f fd) (T : Com K mg fC fdC) : FnOk P w K mg base CX0 2 f fd ["self", "left", "far", "low"] (spInit K ["left", "far", "low"]) := by
  refine F.ok scFailing (fun vs H Q E h => ?_) (fun cdv A outer s H vs Q E hr h => ?_)
  · obtain ⟨x, C, dx, args, rfl, hl, _⟩ := h
    exact congrArg Nat.succ hl
  · obtain ⟨x, C, dx, args, rfl, hl, hx, hv, c, na, q⟩ := h
    match args, hl with
    | [v1, v2, v3], _ =>
    refine ⟨_, pss_cons (ps_fld (pv 0) (pe_call T.ok hr (by rfl) T.g T.F.kp T.b .nil pass0 (pa_cons (pv 1) pa_nil)) rfl) (pss_cons (ps_fld (pv 0) (pe_call T.ok hr (by rfl) T.g T.F.kp T.b .nil pass0 (pa_cons (pv 2) pa_nil)) rfl) (pss_one (ps_fld (pv 0) (pe_call T.ok hr (by rfl) T.g T.F.kp T.b .nil pass0 (pa_cons (pv 3) pa_nil)) rfl))), ?_⟩
    refine fld_go rfl rfl (hv v1 List.mem_cons_self) hx c (na _ List.mem_cons_self) (Nat.lt_of_le_of_lt (show 0 ≤ 4 by decide) four_lt) fun H1 c1 k1 e1 p1 => ?_
    have d1 : H1 x = some (.ins C dx [("left", c1)]) := e1
    refine fld_go rfl rfl ((hv v2 (List.mem_cons_of_mem _ List.mem_cons_self)).kp k1) d1 c (na _ (List.mem_cons_of_mem _ List.mem_cons_self)) (Nat.lt_of_le_of_lt (show 1 ≤ 4 by decide) four_lt) fun H2 c2 k2 e2 p2 => ?_
    have d2 : H2 x = some (.ins C dx [("left", c1), ("far", c2)]) := e2.trans (congrArg (fun z => some (HO.ins C dx z)) (putF_new (fs := [("left", c1)]) (show ("far" : Str) ∉ (["left"] : List Str) by decide +kernel)))
    refine fld_go rfl rfl (((hv v3 (List.mem_cons_of_mem _ (List.mem_cons_of_mem _ List.mem_cons_self))).kp k1).kp k2) d2 c (na _ (List.mem_cons_of_mem _ (List.mem_cons_of_mem _ List.mem_cons_self))) (Nat.lt_of_le_of_lt (show 2 ≤ 4 by decide) four_lt) fun H3 c3 k3 e3 p3 => ?_
    have d3 : H3 x = some (.ins C dx [("left", c1), ("far", c2), ("low", c3)]) := e3.trans (congrArg (fun z => some (HO.ins C dx z)) (putF_new (fs := [("left", c1), ("far", c2)]) (show ("low" : Str) ∉ (["left", "far"] : List Str) by decide +kernel)))
    exact q _ [c1, c2, c3] ((k1.k.trans k2.k).trans k3.k) d3 (.cons ((p1.kp k2).kp k3) (.cons (p2.kp k3) (.cons p3 .nil)))
abbrev iFollows : Stmt := inClass (topS 34) 0
theorem scFollows : FnScope ["self", "falls", "weights"] ["self", "falls", "weights"] (defScope iFollows) := ⟨rfl, rfl, rfl, by decide +kernel, rfl, by decide +kernel, by decide +kernel⟩
theorem okFollows {f fC : Addr} {fd fdC : FuncData} (F : Fun K "__init__" "Follows.__init__" iFollows f fd) (T : Com K mg fC fdC) : FnOk P w K mg base CX0 2 f fd ["self", "falls", "weights"] (spInit K ["falls", "weights"]) := by
  refine F.ok scFollows (fun vs H Q E h => ?_) (fun cdv A outer s H vs Q E hr h => ?_)
  · obtain ⟨x, C, dx, args, rfl, hl, _⟩ := h
    exact congrArg Nat.succ hl
  · obtain ⟨x, C, dx, args, rfl, hl, hx, hv, c, na, q⟩ := h
    match args, hl with
    | [v1, v2], _ =>
    refine ⟨_, pss_cons (ps_fld (pv 0) (pe_call T.ok hr (by rfl) T.g T.F.kp T.b .nil pass0 (pa_cons (pv 1) pa_nil)) rfl) (pss_one (ps_fld (pv 0) (pe_call T.ok hr (by rfl) T.g T.F.kp T.b .nil pass0 (pa_cons (pv 2) pa_nil)) rfl)), ?_⟩
    refine fld_go rfl rfl (hv v1 List.mem_cons_self) hx c (na _ List.mem_cons_self) (Nat.lt_of_le_of_lt (show 0 ≤ 4 by decide) four_lt) fun H1 c1 k1 e1 p1 => ?_
    have d1 : H1 x = some (.ins C dx [("falls", c1)]) := e1
    refine fld_go rfl rfl ((hv v2 (List.mem_cons_of_mem _ List.mem_cons_self)).kp k1) d1 c (na _ (List.mem_cons_of_mem _ List.mem_cons_self)) (Nat.lt_of_le_of_lt (show 1 ≤ 4 by decide) four_lt) fun H2 c2 k2 e2 p2 => ?_
    have d2 : H2 x = some (.ins C dx [("falls", c1), ("weights", c2)]) := e2.trans (congrArg (fun z => some (HO.ins C dx z)) (putF_new (fs := [("falls", c1)]) (show ("weights" : Str) ∉ (["falls"] : List Str) by decide +kernel)))
    exact q _ [c1, c2] (k1.k.trans k2.k) d2 (.cons (p1.kp k2) (.cons p2 .nil))
end
end Kc

namespace Kc
open PySem PySem.Spec PyProof.Rows L2 KcE
/-- a class of the package as it stands behind the top -/
structure KC (K : PySem.W.Frag) (mg : Str → Option Value) (nm : Str) (C f : Addr) : Prop where
  cl : Cls K C
  ins : C8.InsC K C
  mak : Mk K C f
  g : mg nm = some (.ref C)
  e : EqC K C
/-- a heap without the object at r -/
def less (r : Addr) (H : Hp) : Hp := fun a => if a = r then none else H a
section
variable {K : PySem.W.Frag} {H H' : Hp} {r a : Addr} {o : HO}
theorem less_ex : Ex (less r H) H := fun b u e => by
  unfold less at e
  split at e
  · cases e
  · exact e
theorem less_upd : less r (upd H r o) = less r H := by
  funext b
  unfold less
  split
  · rfl
  · rename_i h; rw [upd_ne h]
theorem less_mono (e : Ex H H') : Ex (less r H) (less r H') := fun b u h => by
  unfold less at h ⊢
  split at h
  · cases h
  · rename_i n; rw [if_neg n]; exact e b u h
theorem less_at (n : a ≠ r) : less r H a = H a := if_neg n
theorem less_of (n : a ≠ r) (h : H a = some o) : less r H a = some o := (less_at n).trans h
end
/-- a row of the law's table, told: both instances, the lists -/
structure Row where
  t : Addr
  x : Addr
  y : Addr
  l1 : Addr
  l2 : Addr
  l3 : Addr
  C : Addr
  dx : Addr
  dy : Addr
  fs : List (Str × V)
  gs : List (Str × V)
  cs : List V
  es : List V
  vs : List V
structure RowAt (K : PySem.W.Frag) (H : Hp) (r : Row) : Prop where
  t : H r.t = some (.tup [.ref r.x, .ref r.y, .bl true, .ref r.l1, .ref r.l2, .ref r.l3])
  x : H r.x = some (.ins r.C r.dx r.fs)
  y : H r.y = some (.ins r.C r.dy r.gs)
  ne : r.x ≠ r.y
  e : EqC K r.C
  l1 : H r.l1 = some (.lst r.cs)
  l2 : H r.l2 = some (.lst r.es)
  l3 : H r.l3 = some (.lst r.vs)
  c1 : Cps H r.vs r.cs
  c2 : Cps H r.vs r.es
theorem RowAt.ex {K : PySem.W.Frag} {H H' : Hp} {r : Row} (e : Ex H H') (h : RowAt K H r) : RowAt K H' r := ⟨e _ _ h.t, e _ _ h.x, e _ _ h.y, h.ne, h.e, e _ _ h.l1, e _ _ h.l2, e _ _ h.l3, h.c1.ex e, h.c2.ex e⟩
structure RowsAt (K : PySem.W.Frag) (H : Hp) (rs : List Row) : Prop where
  at_ : ∀ r ∈ rs, RowAt K H r
  nd : (rs.map (·.x)).Nodup
theorem RowsAt.ex {K : PySem.W.Frag} {H H' : Hp} {rs : List Row} (e : Ex H H') (h : RowsAt K H rs) : RowsAt K H' rs := ⟨fun r hr => (h.at_ r hr).ex e, h.nd⟩
theorem RowsAt.nil {K : PySem.W.Frag} {H : Hp} : RowsAt K H [] := ⟨(fun _ h => nomatch h), List.nodup_nil⟩
/-! ### pieces of the readings -/
def tVars : List Nat → TA
  | [] => tNil
  | i :: r => tCons (tVar i) (tVars r)
def tFlds (K : PySem.W.Frag) (i : Nat) : List Str → TA
  | [] => tNil
  | f :: r => tCons (tFld K (tVar i) f) (tFlds K i r)
inductive At (σ : L2.St) : List Nat → List V → Prop
  | nil : At σ [] []
  | cons {i : Nat} {v : V} {is : List Nat} {vs : List V} (h : σ[i]? = some (some v)) (t : At σ is vs) : At σ (i :: is) (v :: vs)
theorem At.len {σ : L2.St} : ∀ {is : List Nat} {vs : List V}, At σ is vs → is.length = vs.length
  | _, _, .nil => rfl
  | _, _, .cons _ t => congrArg Nat.succ t.len
theorem vars_go {σ : L2.St} {H : Hp} : ∀ {is : List Nat} {vs : List V} {Q : List V → Hp → Prop}, At σ is vs → Q vs H → tVars is σ H Q
  | _, _, _, .nil, h => h
  | _, _, _, .cons e t, h => ⟨_, e, vars_go t h⟩
inductive Has (fs : List (Str × V)) : List Str → List V → Prop
  | nil : Has fs [] []
  | cons {f : Str} {c : V} {ns : List Str} {cs : List V} (h : fs.lookup f = some c) (t : Has fs ns cs) : Has fs (f :: ns) (c :: cs)
theorem flds_go {K : PySem.W.Frag} {σ : L2.St} {H : Hp} {i : Nat} {x C dx : Addr} {fs : List (Str × V)} (h0 : σ[i]? = some (some (.ref x))) (hx : H x = some (.ins C dx fs)) (c : Cls K C) : ∀ {ns : List Str} {cs : List V} {Q : List V → Hp → Prop}, Has fs ns cs → (∀ f ∈ ns, NoAttr K C f) → Q cs H → tFlds K i ns σ H Q
  | _, _, _, .nil, _, h => h
  | _, _, _, .cons e t, n, h => ⟨_, h0, x, C, dx, fs, _, rfl, hx, c, n _ List.mem_cons_self, e, flds_go h0 hx c t (fun f hf => n f (List.mem_cons_of_mem _ hf)) h⟩
theorem lookup_zip : ∀ {ns : List Str} {cs : List V}, ns.Nodup → ns.length = cs.length → Has (ns.zip cs) ns cs
  | [], [], _, _ => .nil
  | f :: ns, c :: cs, nd, l => by
    have hn := List.nodup_cons.mp nd
    refine .cons (by simp [List.lookup]) ?_
    have ih := lookup_zip (ns := ns) (cs := cs) hn.2 (Nat.succ.inj l)
    have go : ∀ {ms : List Str} {ds : List V}, f ∉ ms → Has (ns.zip cs) ms ds → Has ((f :: ns).zip (c :: cs)) ms ds := by
      intro ms ds hm h
      induction h with
      | nil => exact .nil
      | cons e t ih =>
        rename_i g d ms' ds'
        refine .cons ?_ (ih fun z => hm (List.mem_cons_of_mem _ z))
        have hg : (g == f) = false := by
          simp only [beq_eq_false_iff_ne, ne_eq]
          rintro rfl
          exact hm List.mem_cons_self
        show (List.lookup g ((f, c) :: ns.zip cs)) = _
        rw [List.lookup_cons, hg]
        exact e
    exact go hn.1 ih
theorem Cps.len {H : Hp} : ∀ {vs cs : List V}, Cps H vs cs → vs.length = cs.length
  | _, _, .nil => rfl
  | _, _, .cons _ t => congrArg Nat.succ t.len
/-- C(..): what comes of a making -/
theorem init_go {K : PySem.W.Frag} {C : Addr} {fields : List Str} {H : Hp} {args : List V} {R : VK} {x dx : Addr} (hl : args.length = fields.length) (hv : ∀ v ∈ args, Vl H v) (c : Cls K C) (na : ∀ f ∈ fields, NoAttr K C f)
    (q : ∀ H' cs, Ex H H' → H' x = some (.ins C dx (fields.zip cs)) → Cps H' args cs → R .non H') (hx : H x = none) (hdx : H dx = none) (hne : dx ≠ x) :
    spInit K fields (.ref x :: args) (upd (upd H dx (.own x)) x (.ins C dx [])) R E0 := by
  have e1 : Ex H (upd H dx (.own x)) := Ex.refl.laid hdx
  have e2 : Ex H (upd (upd H dx (.own x)) x (.ins C dx [])) := e1.laid (by rw [upd_ne (Ne.symm hne)]; exact hx)
  refine ⟨x, C, dx, args, rfl, hl, upd_same, fun v h => (hv v h).ex e2, c, na, fun H' cs kp hx' cps => q H' cs (fun b o e => ?_) hx' cps⟩
  exact kp b o (ne_of_none e hx) (e2 b o e)

/-- the three statements of a class: one, two = ..; kind, first = ..; rows.append(..) -/
def tBlk (K : PySem.W.Frag) (C : Addr) (fields : List Str) (n : Nat) (idx : List Nat) : List TS := [
  tPar 5 6 (tCons (tMake C (spInit K fields) [] E0 (tVars idx)) (tCons (tMakeK C 0 n (spInit K fields) (fun us ws => us ++ ws.reverse) E0 tNil (tVars idx.reverse)) tNil)),
  tPar 7 8 (tCons (tAndV (tCB (fun xs H Q => ∃ a dx fs, xs = [.ref a, .ref C] ∧ H a = some (.ins C dx fs) ∧ Q (.bl true) H) (tCons (tVar 5) (tCons (tC (.ref C)) tNil))) (tCB (fun xs H Q => ∃ a dx fs, xs = [.ref a, .ref C] ∧ H a = some (.ins C dx fs) ∧ Q (.bl true) H) (tCons (tVar 6) (tCons (tC (.ref C)) tNil))))
    (tCons (tLst (tFlds K 5 fields)) tNil)),
  tDrop (tBM K "list" rAppend (tVar 4) (tCons (tTup (tCons (tVar 5) (tCons (tVar 6) (tCons (tVar 7) (tCons (tVar 8) (tCons (tLst (tFlds K 6 fields)) (tCons (tLst (tVars idx)) tNil))))))) tNil))]
theorem At.rev_app {σ : L2.St} : ∀ {is js : List Nat} {vs ws : List V}, At σ is vs → At σ js ws → At σ (is ++ js) (vs ++ ws)
  | _, _, _, _, .nil, h => h
  | _, _, _, _, .cons e t, h => .cons e (At.rev_app t h)
theorem At.rev {σ : L2.St} : ∀ {is : List Nat} {vs : List V}, At σ is vs → At σ is.reverse vs.reverse
  | _, _, .nil => .nil
  | _, _, .cons e t => by
    rw [List.reverse_cons, List.reverse_cons]
    exact At.rev_app (At.rev t) (.cons e .nil)
theorem Cp.less {H : Hp} {r : Addr} {v c : V} {ys : List V} (hr : H r = some (.lst ys)) (hv : v ≠ .ref r) (h : Cp H v c) : Cp (Kc.less r H) v c := by
  cases h with
  | lst e e' => exact .lst (less_of (fun z => hv (z ▸ rfl)) e) (less_of (fun z => by rw [z, hr] at e'; cases e') e')
  | oth n =>
    cases n with
    | non => exact .oth .non
    | bl b => exact .oth (.bl b)
    | int b => exact .oth (.int b)
    | str b => exact .oth (.str b)
    | tup e => exact .oth (.tup (less_of (fun z => by rw [z, hr] at e; cases e) e))
    | dK e => exact .oth (.dK (less_of (fun z => by rw [z, hr] at e; cases e) e))
theorem Cps.less {H : Hp} {r : Addr} {ys : List V} (hr : H r = some (.lst ys)) : ∀ {vs cs : List V}, (∀ v ∈ vs, v ≠ .ref r) → Cps H vs cs → Cps (Kc.less r H) vs cs
  | _, _, _, .nil => .nil
  | _, _, hv, .cons h t => .cons (h.less hr (hv _ List.mem_cons_self)) (Cps.less hr (fun v hm => hv v (List.mem_cons_of_mem _ hm)) t)
theorem Vl.ne {H : Hp} {r : Addr} {v : V} (h : Vl (Kc.less r H) v) : v ≠ .ref r := by
  have z : Kc.less r H r = none := if_pos rfl
  rintro rfl
  cases h with
  | lst e => rw [z] at e; cases e
  | oth n =>
    cases n with
    | tup e => rw [z] at e; cases e
    | dK e => rw [z] at e; cases e
/-- the table so far, in the list at r -/
structure Tb (K : PySem.W.Frag) (H : Hp) (r : Addr) (rs : List Row) : Prop where
  l : H r = some (.lst (rs.map fun q => .ref q.t))
  r : RowsAt K (less r H) rs
theorem blk_go {K : PySem.W.Frag} {C f : Addr} {mg : Str → Option Value} {nm : Str} {fields : List Str} {idx : List Nat} {args : List V} {u : TS} {D : Ends} {a b c d : Option V} {r : Addr} {rs : List Row} {o1 o2 o3 o4 : Option V} {H : Hp}
    (T : KC K mg nm C f) (na : ∀ f ∈ fields, NoAttr K C f) (nd : fields.Nodup) (hn : fields.length = idx.length) (h4 : fields.length ≤ 4) (hi : ∀ i ∈ idx, i < 4)
    (ha : ∀ p q s t, At [a, b, c, d, some (.ref r), p, q, s, t] idx args) (hv : ∀ v ∈ args, Vl (less r H) v) (hr : rs.length ≤ 100) (tb : Tb K H r rs)
    (k : ∀ H' p q s t w, Ex (less r H) (less r H') → Tb K H' r (rs ++ [w]) → w.vs = args → H w.x = none → u D [a, b, c, d, some (.ref r), p, q, s, t] H') :
    tSeq (tPar 5 6 (tCons (tMake C (spInit K fields) [] E0 (tVars idx)) (tCons (tMakeK C 0 fields.length (spInit K fields) (fun us ws => us ++ ws.reverse) E0 tNil (tVars idx.reverse)) tNil)))
    (tSeq (tPar 7 8 (tCons (tAndV (tCB (fun xs H Q => ∃ a dx fs, xs = [.ref a, .ref C] ∧ H a = some (.ins C dx fs) ∧ Q (.bl true) H) (tCons (tVar 5) (tCons (tC (.ref C)) tNil))) (tCB (fun xs H Q => ∃ a dx fs, xs = [.ref a, .ref C] ∧ H a = some (.ins C dx fs) ∧ Q (.bl true) H) (tCons (tVar 6) (tCons (tC (.ref C)) tNil))))
    (tCons (tLst (tFlds K 5 fields)) tNil)))
    (tSeq (tDrop (tBM K "list" rAppend (tVar 4) (tCons (tTup (tCons (tVar 5) (tCons (tVar 6) (tCons (tVar 7) (tCons (tVar 8) (tCons (tLst (tFlds K 6 fields)) (tCons (tLst (tVars idx)) tNil))))))) tNil))) u)) D [a, b, c, d, some (.ref r), o1, o2, o3, o4] H := by
  have la : args.length = fields.length := ((ha none none none none).len.symm).trans hn.symm
  have hz : args.length ≤ sizeLine := by rw [la, sizeLine_eq]; omega
  have new : ∀ {H' : Hp} {q : Addr}, Ex H H' → H' q = none → q ≠ r := fun e h z => by
    subst z
    rw [e _ _ tb.l] at h
    cases h
  have newH : ∀ {q : Addr}, H q = none → q ≠ r := fun h => new Ex.refl h
  -- one
  refine vars_go (ha _ _ _ _) ?_
  show ∀ x dx, H x = none → H dx = none → dx ≠ x → spInit K fields (.ref x :: (args ++ [])) _ _ _
  intro x dx hx hdx hne
  rw [List.append_nil]
  refine init_go la (fun v h => (hv v h).ex less_ex) T.cl na (fun H1 cs e1 hx1 cps1 => ⟨rfl, ?_⟩) hx hdx hne
  -- two
  refine vars_go (ha _ _ _ _).rev ?_
  refine ⟨rfl, by rw [List.length_reverse, la], fun y dy hy hdy hne2 => ?_⟩
  show spInit K fields (([V.ref y] : List V) ++ args.reverse.reverse) _ _ _
  rw [List.reverse_reverse]
  refine init_go la (fun v h => ((hv v h).ex less_ex).ex e1) T.cl na (fun H2 es e2 hy2 cps2 => ⟨rfl, ?_⟩) hy hdy hne2
  have hxy : x ≠ y := fun z => by
    rw [z] at hx1
    rw [hx1] at hy
    cases hy
  have hx2 := e2 _ _ hx1
  refine ⟨_, _, rfl, ?_⟩
  -- kind, first
  refine ⟨_, rfl, x, dx, _, rfl, hx2, true, rfl, iteT ⟨_, rfl, y, dy, _, rfl, hy2, ?_⟩⟩
  refine flds_go (ns := fields) (cs := cs) rfl hx2 T.cl (lookup_zip nd (la.symm.trans cps1.len)) na ?_
  refine ⟨by rw [← cps1.len]; exact hz, fun l1 n1 => ?_⟩
  have e3 : Ex H2 (upd H2 l1 (.lst cs)) := Ex.refl.laid n1
  generalize hH3 : upd H2 l1 (.lst cs) = H3 at e3 ⊢
  have hl1 : H3 l1 = some (.lst cs) := hH3 ▸ upd_same
  refine ⟨_, _, rfl, ?_⟩
  -- rows.append
  refine ⟨_, rfl, .inl ⟨rfl, _, .inl (.inl (e3 _ _ (e2 _ _ (e1 _ _ tb.l))))⟩, _, rfl, _, rfl, _, rfl, _, rfl, ?_⟩
  refine flds_go (ns := fields) (cs := es) rfl (e3 _ _ hy2) T.cl (lookup_zip nd (la.symm.trans cps2.len)) na ?_
  refine ⟨by rw [← cps2.len]; exact hz, fun l2 n2 => ?_⟩
  have e4 : Ex H3 (upd H3 l2 (.lst es)) := Ex.refl.laid n2
  generalize hH4 : upd H3 l2 (.lst es) = H4 at e4 ⊢
  have hl2 : H4 l2 = some (.lst es) := hH4 ▸ upd_same
  refine vars_go (ha _ _ _ _) ?_
  refine ⟨hz, fun l3 n3 => ?_⟩
  have e5 : Ex H4 (upd H4 l3 (.lst args)) := Ex.refl.laid n3
  generalize hH5 : upd H4 l3 (.lst args) = H5 at e5 ⊢
  have hl3 : H5 l3 = some (.lst args) := hH5 ▸ upd_same
  refine ⟨by show 6 ≤ sizeLine; decide, fun t nt => ?_⟩
  have e6 : Ex H5 (upd H5 t (.tup [.ref x, .ref y, .bl true, .ref l1, .ref l2, .ref l3])) := Ex.refl.laid nt
  generalize hH6 : upd H5 t (.tup [.ref x, .ref y, .bl true, .ref l1, .ref l2, .ref l3]) = H6 at e6 ⊢
  have ht : H6 t = some (.tup [.ref x, .ref y, .bl true, .ref l1, .ref l2, .ref l3]) := hH6 ▸ upd_same
  have e26 : Ex H2 H6 := e3.trans (e4.trans (e5.trans e6))
  have e16 : Ex H1 H6 := e2.trans e26
  have e06 : Ex H H6 := e1.trans e16
  refine ⟨r, _, _, rfl, rfl, e06 _ _ tb.l, ?_, ?_⟩
  · rw [List.length_map, sizeLine_eq]; omega
  have xr : x ≠ r := newH hx
  have yr : y ≠ r := new e1 hy
  have r1 : l1 ≠ r := new (e1.trans e2) n1
  have r2 : l2 ≠ r := new (e1.trans (e2.trans e3)) n2
  have r3 : l3 ≠ r := new (e1.trans (e2.trans (e3.trans e4))) n3
  have rt : t ≠ r := new (e1.trans (e2.trans (e3.trans (e4.trans e5)))) nt
  have hvr : ∀ v ∈ args, v ≠ .ref r := fun v hm => (hv v hm).ne
  refine k _ _ _ _ _ ⟨t, x, y, l1, l2, l3, C, dx, dy, fields.zip cs, fields.zip es, cs, es, args⟩ ?_ ⟨?_, ?_⟩ rfl hx
  · rw [less_upd]; exact less_mono e06
  · rw [upd_same]
    show some (HO.lst _) = _
    rw [List.map_append]
    rfl
  · rw [less_upd]
    refine ⟨fun q hq => ?_, ?_⟩
    · rcases List.mem_append.mp hq with hq | hq
      · exact (tb.r.at_ q hq).ex (less_mono e06)
      · obtain rfl := List.mem_singleton.mp hq
        refine ⟨less_of rt ht, less_of xr (e26 _ _ hx2), less_of yr (e26 _ _ hy2), hxy, T.e, less_of r1 ((e4.trans (e5.trans e6)) _ _ hl1), less_of r2 ((e5.trans e6) _ _ hl2), less_of r3 (e6 _ _ hl3), ?_, ?_⟩
        · exact (cps1.ex e16).less (e06 _ _ tb.l) hvr
        · exact (cps2.ex e26).less (e06 _ _ tb.l) hvr
    · rw [List.map_append]
      refine List.nodup_append.mpr ⟨tb.r.nd, by simp, fun p hp q hq => ?_⟩
      obtain rfl := List.mem_singleton.mp hq
      obtain ⟨w, hw, rfl⟩ := List.mem_map.mp hp
      intro z
      have := less_ex _ _ (tb.r.at_ w hw).x
      rw [z, hx] at this
      cases this
end Kc

namespace Kc
open PySem PySem.Spec PyProof.Rows L2 KcE
/-- a class and its __init__ -/
structure CI (K : PySem.W.Frag) (mg : Str → Option Value) (nm qual : Str) (st : Stmt) (fields : List Str) (C f : Addr) (fd : FuncData) : Prop where
  k : KC K mg nm C f
  F : Fun K "__init__" qual st f fd
  na : ∀ f ∈ fields, NoAttr K C f
  b : Binds K fd ("self" :: fields) []
  kb : KBn K fd ("self" :: fields) 1 fields.reverse (fun us ws => us ++ ws.reverse) (fun us ws => us ++ ws.reverse)
abbrev sMadeA : Stmt := topS 39
abbrev sMadeB : Stmt := topS 40
abbrev mN : List Str := ["a", "b", "c", "d", "rows", "one", "two", "kind", "first"]
theorem scMadeA : FnScope mN ["a", "b", "c", "d"] (defScope sMadeA) := ⟨rfl, rfl, rfl, by decide +kernel, rfl, by decide +kernel, by decide +kernel⟩
theorem scMadeB : FnScope mN ["a", "b", "c", "d"] (defScope sMadeB) := ⟨rfl, rfl, rfl, by decide +kernel, rfl, by decide +kernel, by decide +kernel⟩
def spMade (K : PySem.W.Frag) : Sp := fun vs H Q _ => ∃ a b c d : V, vs = [a, b, c, d] ∧ (∀ v ∈ [a, b, c, d], Vl H v) ∧ ∀ H' r rs, Ex H (less r H') → H r = none → Tb K H' r rs → rs.length = 11 → (∀ w ∈ rs, (∀ v ∈ w.vs, v ∈ [a, b, c, d]) ∧ w.vs ≠ [] ∧ w.vs.length ≤ 4 ∧ H w.x = none) → Q (.ref r) H'
theorem tb_new {K : PySem.W.Frag} {H : Hp} {r : Addr} (h : H r = none) : Tb K (upd H r (.lst [])) r [] := ⟨upd_same, .nil⟩
theorem ex_less {H : Hp} {r : Addr} (h : H r = none) : Ex H (less r H) := fun b o e => less_of (ne_of_none e h) e
theorem exn {H H' : Hp} {b : Addr} (e : Ex H H') (n : H' b = none) : H b = none := by
  cases q : H b with
  | none => rfl
  | some o => rw [e _ _ q] at n; cases n
theorem mem_snoc {P : Row → Prop} {rs : List Row} {w : Row} (h : ∀ w ∈ rs, P w) (hw : P w) : ∀ x ∈ rs ++ [w], P x := fun x hx => (List.mem_append.mp hx).elim (h x) fun z => by rw [List.mem_singleton.mp z]; exact hw
section
variable {P : Program} {w : World} {K : PySem.W.Frag} {mg : Str → Option Value} {base : Heap}
theorem sub1 {a b c d v : V} (h : v ∈ [a]) : v ∈ [a, b, c, d] := by simp only [List.mem_cons, List.not_mem_nil, or_false] at h ⊢; exact .inl h
theorem sub2 {a b c d v : V} (h : v ∈ [a, b]) : v ∈ [a, b, c, d] := by
  simp only [List.mem_cons, List.not_mem_nil, or_false] at h ⊢
  rcases h with h | h
  · exact .inl h
  · exact .inr (.inl h)
theorem sub3 {a b c d v : V} (h : v ∈ [a, b, c]) : v ∈ [a, b, c, d] := by
  simp only [List.mem_cons, List.not_mem_nil, or_false] at h ⊢
  rcases h with h | h | h
  · exact .inl h
  · exact .inr (.inl h)
  · exact .inr (.inr (.inl h))
theorem sub4 {a b c d v : V} (h : v ∈ [a, b, c, d]) : v ∈ [a, b, c, d] := h
structure TxtA (K : PySem.W.Frag) (mg : Str → Option Value) (CMade fMade CUnmade fUnmade CHeld fHeld CUnheld fUnheld CKeptRoom fKeptRoom CPair fPair CHived fHived CUnhived fUnhived CTop fTop CWeb fWeb CAlong fAlong : Addr) (dMade dUnmade dHeld dUnheld dKeptRoom dPair dHived dUnhived dTop dWeb dAlong : FuncData) : Prop where
  made : CI K mg "Made" "Made.__init__" iMade ["first", "second"] CMade fMade dMade
  unmade : CI K mg "Unmade" "Unmade.__init__" iUnmade ["prime", "triple"] CUnmade fUnmade dUnmade
  held : CI K mg "Held" "Held.__init__" iHeld ["rows"] CHeld fHeld dHeld
  unheld : CI K mg "Unheld" "Unheld.__init__" iUnheld ["triple"] CUnheld fUnheld dUnheld
  keptroom : CI K mg "KeptRoom" "KeptRoom.__init__" iKeptRoom ["step", "room"] CKeptRoom fKeptRoom dKeptRoom
  pair : CI K mg "Pair" "Pair.__init__" iPair ["filling", "order"] CPair fPair dPair
  hived : CI K mg "Hived" "Hived.__init__" iHived ["triangle"] CHived fHived dHived
  unhived : CI K mg "Unhived" "Unhived.__init__" iUnhived ["one", "other", "whole"] CUnhived fUnhived dUnhived
  top : CI K mg "Top" "Top.__init__" iTop ["word", "steps"] CTop fTop dTop
  web : CI K mg "Web" "Web.__init__" iWeb ["words", "ways"] CWeb fWeb dWeb
  along : CI K mg "Along" "Along.__init__" iAlong ["words"] CAlong fAlong dAlong
theorem okMadeA {f fC : Addr} {fd fdC : FuncData} {CMade fMade CUnmade fUnmade CHeld fHeld CUnheld fUnheld CKeptRoom fKeptRoom CPair fPair CHived fHived CUnhived fUnhived CTop fTop CWeb fWeb CAlong fAlong : Addr} {dMade dUnmade dHeld dUnheld dKeptRoom dPair dHived dUnhived dTop dWeb dAlong : FuncData} (F : Fun K "_law_made_a" "_law_made_a" sMadeA f fd) (TC : Com K mg fC fdC) (T : TxtA K mg CMade fMade CUnmade fUnmade CHeld fHeld CUnheld fUnheld CKeptRoom fKeptRoom CPair fPair CHived fHived CUnhived fUnhived CTop fTop CWeb fWeb CAlong fAlong dMade dUnmade dHeld dUnheld dKeptRoom dPair dHived dUnhived dTop dWeb dAlong) : FnOk P w K mg base CX0 4 f fd ["a", "b", "c", "d"] (spMade K) := by
  refine F.ok scMadeA (fun vs H Q E h => ?_) (fun cdv A outer s H vs Q E hr h => ?_)
  · obtain ⟨a, b, c, d, rfl, _⟩ := h
    rfl
  · obtain ⟨a, b, c, d, rfl, hv, q⟩ := h
    refine ⟨_, pss_cons (ps_set (i := 4) scMadeA.nd rfl (.inl rfl) (pe_lst pa_nil))
      (pss_cons (ps_par (i := 5) (j := 6) rfl scMadeA.nd rfl rfl (by decide) rfl rfl (pa_cons (pe_make T.made.k.mak (okMade T.made.F TC) hr (by rfl) T.made.k.g T.made.b .nil pass0 (pa_cons (pv 0) (pa_cons (pv 1) pa_nil))) (pa_cons (pe_makeK0 T.made.k.mak (okMade T.made.F TC) hr (by rfl) T.made.k.g T.made.kb pass0 (pk_cons (pv 1) (pk_cons (pv 0) pk_nil))) pa_nil)) rfl)
      (pss_cons (ps_par (i := 7) (j := 8) rfl scMadeA.nd rfl rfl (by decide) rfl rfl (pa_cons (pe_and (pe_callB (C8.call_isC T.made.k.ins) (by rfl) TC.ms PyProof.Rows.boot_isinstance (pa_cons (pv 5) (pa_cons (pe_glob (v := .ref CMade) (by rfl) T.made.k.g rfl) pa_nil))) (pe_one (pe_callB (C8.call_isC T.made.k.ins) (by rfl) TC.ms PyProof.Rows.boot_isinstance (pa_cons (pv 6) (pa_cons (pe_glob (v := .ref CMade) (by rfl) T.made.k.g rfl) pa_nil))))) (pa_cons (pe_lst (pa_cons (pe_fld (pv 5) rfl) (pa_cons (pe_fld (pv 5) rfl) pa_nil))) pa_nil)) rfl)
      (pss_cons (ps_expr (pe_bm PySem.F.plainAttrs_list PySem.F.slot_list_append PySem.F.type_list_append mt_append (pv 4) (pa_cons (pe_tup (pa_cons (pv 5) (pa_cons (pv 6) (pa_cons (pv 7) (pa_cons (pv 8) (pa_cons (pe_lst (pa_cons (pe_fld (pv 6) rfl) (pa_cons (pe_fld (pv 6) rfl) pa_nil))) (pa_cons (pe_lst (pa_cons (pv 0) (pa_cons (pv 1) pa_nil))) pa_nil))))))) pa_nil)))
      (pss_cons (ps_par (i := 5) (j := 6) rfl scMadeA.nd rfl rfl (by decide) rfl rfl (pa_cons (pe_make T.unmade.k.mak (okUnmade T.unmade.F TC) hr (by rfl) T.unmade.k.g T.unmade.b .nil pass0 (pa_cons (pv 0) (pa_cons (pv 1) pa_nil))) (pa_cons (pe_makeK0 T.unmade.k.mak (okUnmade T.unmade.F TC) hr (by rfl) T.unmade.k.g T.unmade.kb pass0 (pk_cons (pv 1) (pk_cons (pv 0) pk_nil))) pa_nil)) rfl)
      (pss_cons (ps_par (i := 7) (j := 8) rfl scMadeA.nd rfl rfl (by decide) rfl rfl (pa_cons (pe_and (pe_callB (C8.call_isC T.unmade.k.ins) (by rfl) TC.ms PyProof.Rows.boot_isinstance (pa_cons (pv 5) (pa_cons (pe_glob (v := .ref CUnmade) (by rfl) T.unmade.k.g rfl) pa_nil))) (pe_one (pe_callB (C8.call_isC T.unmade.k.ins) (by rfl) TC.ms PyProof.Rows.boot_isinstance (pa_cons (pv 6) (pa_cons (pe_glob (v := .ref CUnmade) (by rfl) T.unmade.k.g rfl) pa_nil))))) (pa_cons (pe_lst (pa_cons (pe_fld (pv 5) rfl) (pa_cons (pe_fld (pv 5) rfl) pa_nil))) pa_nil)) rfl)
      (pss_cons (ps_expr (pe_bm PySem.F.plainAttrs_list PySem.F.slot_list_append PySem.F.type_list_append mt_append (pv 4) (pa_cons (pe_tup (pa_cons (pv 5) (pa_cons (pv 6) (pa_cons (pv 7) (pa_cons (pv 8) (pa_cons (pe_lst (pa_cons (pe_fld (pv 6) rfl) (pa_cons (pe_fld (pv 6) rfl) pa_nil))) (pa_cons (pe_lst (pa_cons (pv 0) (pa_cons (pv 1) pa_nil))) pa_nil))))))) pa_nil)))
      (pss_cons (ps_par (i := 5) (j := 6) rfl scMadeA.nd rfl rfl (by decide) rfl rfl (pa_cons (pe_make T.held.k.mak (okHeld T.held.F TC) hr (by rfl) T.held.k.g T.held.b .nil pass0 (pa_cons (pv 0) pa_nil)) (pa_cons (pe_makeK0 T.held.k.mak (okHeld T.held.F TC) hr (by rfl) T.held.k.g T.held.kb pass0 (pk_cons (pv 0) pk_nil)) pa_nil)) rfl)
      (pss_cons (ps_par (i := 7) (j := 8) rfl scMadeA.nd rfl rfl (by decide) rfl rfl (pa_cons (pe_and (pe_callB (C8.call_isC T.held.k.ins) (by rfl) TC.ms PyProof.Rows.boot_isinstance (pa_cons (pv 5) (pa_cons (pe_glob (v := .ref CHeld) (by rfl) T.held.k.g rfl) pa_nil))) (pe_one (pe_callB (C8.call_isC T.held.k.ins) (by rfl) TC.ms PyProof.Rows.boot_isinstance (pa_cons (pv 6) (pa_cons (pe_glob (v := .ref CHeld) (by rfl) T.held.k.g rfl) pa_nil))))) (pa_cons (pe_lst (pa_cons (pe_fld (pv 5) rfl) pa_nil)) pa_nil)) rfl)
      (pss_cons (ps_expr (pe_bm PySem.F.plainAttrs_list PySem.F.slot_list_append PySem.F.type_list_append mt_append (pv 4) (pa_cons (pe_tup (pa_cons (pv 5) (pa_cons (pv 6) (pa_cons (pv 7) (pa_cons (pv 8) (pa_cons (pe_lst (pa_cons (pe_fld (pv 6) rfl) pa_nil)) (pa_cons (pe_lst (pa_cons (pv 0) pa_nil)) pa_nil))))))) pa_nil)))
      (pss_cons (ps_par (i := 5) (j := 6) rfl scMadeA.nd rfl rfl (by decide) rfl rfl (pa_cons (pe_make T.unheld.k.mak (okUnheld T.unheld.F TC) hr (by rfl) T.unheld.k.g T.unheld.b .nil pass0 (pa_cons (pv 0) pa_nil)) (pa_cons (pe_makeK0 T.unheld.k.mak (okUnheld T.unheld.F TC) hr (by rfl) T.unheld.k.g T.unheld.kb pass0 (pk_cons (pv 0) pk_nil)) pa_nil)) rfl)
      (pss_cons (ps_par (i := 7) (j := 8) rfl scMadeA.nd rfl rfl (by decide) rfl rfl (pa_cons (pe_and (pe_callB (C8.call_isC T.unheld.k.ins) (by rfl) TC.ms PyProof.Rows.boot_isinstance (pa_cons (pv 5) (pa_cons (pe_glob (v := .ref CUnheld) (by rfl) T.unheld.k.g rfl) pa_nil))) (pe_one (pe_callB (C8.call_isC T.unheld.k.ins) (by rfl) TC.ms PyProof.Rows.boot_isinstance (pa_cons (pv 6) (pa_cons (pe_glob (v := .ref CUnheld) (by rfl) T.unheld.k.g rfl) pa_nil))))) (pa_cons (pe_lst (pa_cons (pe_fld (pv 5) rfl) pa_nil)) pa_nil)) rfl)
      (pss_cons (ps_expr (pe_bm PySem.F.plainAttrs_list PySem.F.slot_list_append PySem.F.type_list_append mt_append (pv 4) (pa_cons (pe_tup (pa_cons (pv 5) (pa_cons (pv 6) (pa_cons (pv 7) (pa_cons (pv 8) (pa_cons (pe_lst (pa_cons (pe_fld (pv 6) rfl) pa_nil)) (pa_cons (pe_lst (pa_cons (pv 0) pa_nil)) pa_nil))))))) pa_nil)))
      (pss_cons (ps_par (i := 5) (j := 6) rfl scMadeA.nd rfl rfl (by decide) rfl rfl (pa_cons (pe_make T.keptroom.k.mak (okKeptRoom T.keptroom.F TC) hr (by rfl) T.keptroom.k.g T.keptroom.b .nil pass0 (pa_cons (pv 0) (pa_cons (pv 1) pa_nil))) (pa_cons (pe_makeK0 T.keptroom.k.mak (okKeptRoom T.keptroom.F TC) hr (by rfl) T.keptroom.k.g T.keptroom.kb pass0 (pk_cons (pv 1) (pk_cons (pv 0) pk_nil))) pa_nil)) rfl)
      (pss_cons (ps_par (i := 7) (j := 8) rfl scMadeA.nd rfl rfl (by decide) rfl rfl (pa_cons (pe_and (pe_callB (C8.call_isC T.keptroom.k.ins) (by rfl) TC.ms PyProof.Rows.boot_isinstance (pa_cons (pv 5) (pa_cons (pe_glob (v := .ref CKeptRoom) (by rfl) T.keptroom.k.g rfl) pa_nil))) (pe_one (pe_callB (C8.call_isC T.keptroom.k.ins) (by rfl) TC.ms PyProof.Rows.boot_isinstance (pa_cons (pv 6) (pa_cons (pe_glob (v := .ref CKeptRoom) (by rfl) T.keptroom.k.g rfl) pa_nil))))) (pa_cons (pe_lst (pa_cons (pe_fld (pv 5) rfl) (pa_cons (pe_fld (pv 5) rfl) pa_nil))) pa_nil)) rfl)
      (pss_cons (ps_expr (pe_bm PySem.F.plainAttrs_list PySem.F.slot_list_append PySem.F.type_list_append mt_append (pv 4) (pa_cons (pe_tup (pa_cons (pv 5) (pa_cons (pv 6) (pa_cons (pv 7) (pa_cons (pv 8) (pa_cons (pe_lst (pa_cons (pe_fld (pv 6) rfl) (pa_cons (pe_fld (pv 6) rfl) pa_nil))) (pa_cons (pe_lst (pa_cons (pv 0) (pa_cons (pv 1) pa_nil))) pa_nil))))))) pa_nil)))
      (pss_cons (ps_par (i := 5) (j := 6) rfl scMadeA.nd rfl rfl (by decide) rfl rfl (pa_cons (pe_make T.pair.k.mak (okPair T.pair.F TC) hr (by rfl) T.pair.k.g T.pair.b .nil pass0 (pa_cons (pv 0) (pa_cons (pv 1) pa_nil))) (pa_cons (pe_makeK0 T.pair.k.mak (okPair T.pair.F TC) hr (by rfl) T.pair.k.g T.pair.kb pass0 (pk_cons (pv 1) (pk_cons (pv 0) pk_nil))) pa_nil)) rfl)
      (pss_cons (ps_par (i := 7) (j := 8) rfl scMadeA.nd rfl rfl (by decide) rfl rfl (pa_cons (pe_and (pe_callB (C8.call_isC T.pair.k.ins) (by rfl) TC.ms PyProof.Rows.boot_isinstance (pa_cons (pv 5) (pa_cons (pe_glob (v := .ref CPair) (by rfl) T.pair.k.g rfl) pa_nil))) (pe_one (pe_callB (C8.call_isC T.pair.k.ins) (by rfl) TC.ms PyProof.Rows.boot_isinstance (pa_cons (pv 6) (pa_cons (pe_glob (v := .ref CPair) (by rfl) T.pair.k.g rfl) pa_nil))))) (pa_cons (pe_lst (pa_cons (pe_fld (pv 5) rfl) (pa_cons (pe_fld (pv 5) rfl) pa_nil))) pa_nil)) rfl)
      (pss_cons (ps_expr (pe_bm PySem.F.plainAttrs_list PySem.F.slot_list_append PySem.F.type_list_append mt_append (pv 4) (pa_cons (pe_tup (pa_cons (pv 5) (pa_cons (pv 6) (pa_cons (pv 7) (pa_cons (pv 8) (pa_cons (pe_lst (pa_cons (pe_fld (pv 6) rfl) (pa_cons (pe_fld (pv 6) rfl) pa_nil))) (pa_cons (pe_lst (pa_cons (pv 0) (pa_cons (pv 1) pa_nil))) pa_nil))))))) pa_nil)))
      (pss_cons (ps_par (i := 5) (j := 6) rfl scMadeA.nd rfl rfl (by decide) rfl rfl (pa_cons (pe_make T.hived.k.mak (okHived T.hived.F TC) hr (by rfl) T.hived.k.g T.hived.b .nil pass0 (pa_cons (pv 0) pa_nil)) (pa_cons (pe_makeK0 T.hived.k.mak (okHived T.hived.F TC) hr (by rfl) T.hived.k.g T.hived.kb pass0 (pk_cons (pv 0) pk_nil)) pa_nil)) rfl)
      (pss_cons (ps_par (i := 7) (j := 8) rfl scMadeA.nd rfl rfl (by decide) rfl rfl (pa_cons (pe_and (pe_callB (C8.call_isC T.hived.k.ins) (by rfl) TC.ms PyProof.Rows.boot_isinstance (pa_cons (pv 5) (pa_cons (pe_glob (v := .ref CHived) (by rfl) T.hived.k.g rfl) pa_nil))) (pe_one (pe_callB (C8.call_isC T.hived.k.ins) (by rfl) TC.ms PyProof.Rows.boot_isinstance (pa_cons (pv 6) (pa_cons (pe_glob (v := .ref CHived) (by rfl) T.hived.k.g rfl) pa_nil))))) (pa_cons (pe_lst (pa_cons (pe_fld (pv 5) rfl) pa_nil)) pa_nil)) rfl)
      (pss_cons (ps_expr (pe_bm PySem.F.plainAttrs_list PySem.F.slot_list_append PySem.F.type_list_append mt_append (pv 4) (pa_cons (pe_tup (pa_cons (pv 5) (pa_cons (pv 6) (pa_cons (pv 7) (pa_cons (pv 8) (pa_cons (pe_lst (pa_cons (pe_fld (pv 6) rfl) pa_nil)) (pa_cons (pe_lst (pa_cons (pv 0) pa_nil)) pa_nil))))))) pa_nil)))
      (pss_cons (ps_par (i := 5) (j := 6) rfl scMadeA.nd rfl rfl (by decide) rfl rfl (pa_cons (pe_make T.unhived.k.mak (okUnhived T.unhived.F TC) hr (by rfl) T.unhived.k.g T.unhived.b .nil pass0 (pa_cons (pv 0) (pa_cons (pv 1) (pa_cons (pv 2) pa_nil)))) (pa_cons (pe_makeK0 T.unhived.k.mak (okUnhived T.unhived.F TC) hr (by rfl) T.unhived.k.g T.unhived.kb pass0 (pk_cons (pv 2) (pk_cons (pv 1) (pk_cons (pv 0) pk_nil)))) pa_nil)) rfl)
      (pss_cons (ps_par (i := 7) (j := 8) rfl scMadeA.nd rfl rfl (by decide) rfl rfl (pa_cons (pe_and (pe_callB (C8.call_isC T.unhived.k.ins) (by rfl) TC.ms PyProof.Rows.boot_isinstance (pa_cons (pv 5) (pa_cons (pe_glob (v := .ref CUnhived) (by rfl) T.unhived.k.g rfl) pa_nil))) (pe_one (pe_callB (C8.call_isC T.unhived.k.ins) (by rfl) TC.ms PyProof.Rows.boot_isinstance (pa_cons (pv 6) (pa_cons (pe_glob (v := .ref CUnhived) (by rfl) T.unhived.k.g rfl) pa_nil))))) (pa_cons (pe_lst (pa_cons (pe_fld (pv 5) rfl) (pa_cons (pe_fld (pv 5) rfl) (pa_cons (pe_fld (pv 5) rfl) pa_nil)))) pa_nil)) rfl)
      (pss_cons (ps_expr (pe_bm PySem.F.plainAttrs_list PySem.F.slot_list_append PySem.F.type_list_append mt_append (pv 4) (pa_cons (pe_tup (pa_cons (pv 5) (pa_cons (pv 6) (pa_cons (pv 7) (pa_cons (pv 8) (pa_cons (pe_lst (pa_cons (pe_fld (pv 6) rfl) (pa_cons (pe_fld (pv 6) rfl) (pa_cons (pe_fld (pv 6) rfl) pa_nil)))) (pa_cons (pe_lst (pa_cons (pv 0) (pa_cons (pv 1) (pa_cons (pv 2) pa_nil)))) pa_nil))))))) pa_nil)))
      (pss_cons (ps_par (i := 5) (j := 6) rfl scMadeA.nd rfl rfl (by decide) rfl rfl (pa_cons (pe_make T.top.k.mak (okTop T.top.F TC) hr (by rfl) T.top.k.g T.top.b .nil pass0 (pa_cons (pv 0) (pa_cons (pv 1) pa_nil))) (pa_cons (pe_makeK0 T.top.k.mak (okTop T.top.F TC) hr (by rfl) T.top.k.g T.top.kb pass0 (pk_cons (pv 1) (pk_cons (pv 0) pk_nil))) pa_nil)) rfl)
      (pss_cons (ps_par (i := 7) (j := 8) rfl scMadeA.nd rfl rfl (by decide) rfl rfl (pa_cons (pe_and (pe_callB (C8.call_isC T.top.k.ins) (by rfl) TC.ms PyProof.Rows.boot_isinstance (pa_cons (pv 5) (pa_cons (pe_glob (v := .ref CTop) (by rfl) T.top.k.g rfl) pa_nil))) (pe_one (pe_callB (C8.call_isC T.top.k.ins) (by rfl) TC.ms PyProof.Rows.boot_isinstance (pa_cons (pv 6) (pa_cons (pe_glob (v := .ref CTop) (by rfl) T.top.k.g rfl) pa_nil))))) (pa_cons (pe_lst (pa_cons (pe_fld (pv 5) rfl) (pa_cons (pe_fld (pv 5) rfl) pa_nil))) pa_nil)) rfl)
      (pss_cons (ps_expr (pe_bm PySem.F.plainAttrs_list PySem.F.slot_list_append PySem.F.type_list_append mt_append (pv 4) (pa_cons (pe_tup (pa_cons (pv 5) (pa_cons (pv 6) (pa_cons (pv 7) (pa_cons (pv 8) (pa_cons (pe_lst (pa_cons (pe_fld (pv 6) rfl) (pa_cons (pe_fld (pv 6) rfl) pa_nil))) (pa_cons (pe_lst (pa_cons (pv 0) (pa_cons (pv 1) pa_nil))) pa_nil))))))) pa_nil)))
      (pss_cons (ps_par (i := 5) (j := 6) rfl scMadeA.nd rfl rfl (by decide) rfl rfl (pa_cons (pe_make T.web.k.mak (okWeb T.web.F TC) hr (by rfl) T.web.k.g T.web.b .nil pass0 (pa_cons (pv 0) (pa_cons (pv 1) pa_nil))) (pa_cons (pe_makeK0 T.web.k.mak (okWeb T.web.F TC) hr (by rfl) T.web.k.g T.web.kb pass0 (pk_cons (pv 1) (pk_cons (pv 0) pk_nil))) pa_nil)) rfl)
      (pss_cons (ps_par (i := 7) (j := 8) rfl scMadeA.nd rfl rfl (by decide) rfl rfl (pa_cons (pe_and (pe_callB (C8.call_isC T.web.k.ins) (by rfl) TC.ms PyProof.Rows.boot_isinstance (pa_cons (pv 5) (pa_cons (pe_glob (v := .ref CWeb) (by rfl) T.web.k.g rfl) pa_nil))) (pe_one (pe_callB (C8.call_isC T.web.k.ins) (by rfl) TC.ms PyProof.Rows.boot_isinstance (pa_cons (pv 6) (pa_cons (pe_glob (v := .ref CWeb) (by rfl) T.web.k.g rfl) pa_nil))))) (pa_cons (pe_lst (pa_cons (pe_fld (pv 5) rfl) (pa_cons (pe_fld (pv 5) rfl) pa_nil))) pa_nil)) rfl)
      (pss_cons (ps_expr (pe_bm PySem.F.plainAttrs_list PySem.F.slot_list_append PySem.F.type_list_append mt_append (pv 4) (pa_cons (pe_tup (pa_cons (pv 5) (pa_cons (pv 6) (pa_cons (pv 7) (pa_cons (pv 8) (pa_cons (pe_lst (pa_cons (pe_fld (pv 6) rfl) (pa_cons (pe_fld (pv 6) rfl) pa_nil))) (pa_cons (pe_lst (pa_cons (pv 0) (pa_cons (pv 1) pa_nil))) pa_nil))))))) pa_nil)))
      (pss_cons (ps_par (i := 5) (j := 6) rfl scMadeA.nd rfl rfl (by decide) rfl rfl (pa_cons (pe_make T.along.k.mak (okAlong T.along.F TC) hr (by rfl) T.along.k.g T.along.b .nil pass0 (pa_cons (pv 0) pa_nil)) (pa_cons (pe_makeK0 T.along.k.mak (okAlong T.along.F TC) hr (by rfl) T.along.k.g T.along.kb pass0 (pk_cons (pv 0) pk_nil)) pa_nil)) rfl)
      (pss_cons (ps_par (i := 7) (j := 8) rfl scMadeA.nd rfl rfl (by decide) rfl rfl (pa_cons (pe_and (pe_callB (C8.call_isC T.along.k.ins) (by rfl) TC.ms PyProof.Rows.boot_isinstance (pa_cons (pv 5) (pa_cons (pe_glob (v := .ref CAlong) (by rfl) T.along.k.g rfl) pa_nil))) (pe_one (pe_callB (C8.call_isC T.along.k.ins) (by rfl) TC.ms PyProof.Rows.boot_isinstance (pa_cons (pv 6) (pa_cons (pe_glob (v := .ref CAlong) (by rfl) T.along.k.g rfl) pa_nil))))) (pa_cons (pe_lst (pa_cons (pe_fld (pv 5) rfl) pa_nil)) pa_nil)) rfl)
      (pss_cons (ps_expr (pe_bm PySem.F.plainAttrs_list PySem.F.slot_list_append PySem.F.type_list_append mt_append (pv 4) (pa_cons (pe_tup (pa_cons (pv 5) (pa_cons (pv 6) (pa_cons (pv 7) (pa_cons (pv 8) (pa_cons (pe_lst (pa_cons (pe_fld (pv 6) rfl) pa_nil)) (pa_cons (pe_lst (pa_cons (pv 0) pa_nil)) pa_nil))))))) pa_nil)))
      (pss_one (ps_ret (pv 4)))))))))))))))))))))))))))))))))))), ?_⟩
    refine ⟨Nat.zero_le _, fun r hr0 => ?_⟩
    have t0 : Tb K (upd H r (.lst [])) r [] := tb_new hr0
    have x0 : Ex H (less r (upd H r (.lst []))) := by rw [less_upd]; exact ex_less hr0
    have m0 : ∀ w ∈ ([] : List Row), (∀ v ∈ w.vs, v ∈ [a, b, c, d]) ∧ w.vs ≠ [] ∧ w.vs.length ≤ 4 ∧ H w.x = none := fun _ h => nomatch h
    refine blk_go (idx := [0, 1]) (args := [a, b]) T.made.k T.made.na (by decide +kernel) rfl (by decide) (by decide) (fun _ _ _ _ => (.cons rfl (.cons rfl .nil))) (fun v h => (hv v (sub2 h)).ex x0) (by exact (show 0 ≤ 100 by decide)) t0 fun H1 p1 q1 s1 u1 w1 y1 t1 z1 v1 => ?_
    have x1 := x0.trans y1
    have m1 := mem_snoc m0 (w := w1) ⟨fun v h => sub2 (z1 ▸ h), (by rw [z1]; exact fun q => nomatch q), (by rw [z1]; exact (show 2 ≤ 4 by decide)), exn (x0.trans less_ex) v1⟩
    refine blk_go (idx := [0, 1]) (args := [a, b]) T.unmade.k T.unmade.na (by decide +kernel) rfl (by decide) (by decide) (fun _ _ _ _ => (.cons rfl (.cons rfl .nil))) (fun v h => (hv v (sub2 h)).ex x1) (by exact (show 1 ≤ 100 by decide)) t1 fun H2 p2 q2 s2 u2 w2 y2 t2 z2 v2 => ?_
    have x2 := x1.trans y2
    have m2 := mem_snoc m1 (w := w2) ⟨fun v h => sub2 (z2 ▸ h), (by rw [z2]; exact fun q => nomatch q), (by rw [z2]; exact (show 2 ≤ 4 by decide)), exn (x1.trans less_ex) v2⟩
    refine blk_go (idx := [0]) (args := [a]) T.held.k T.held.na (by decide +kernel) rfl (by decide) (by decide) (fun _ _ _ _ => (.cons rfl .nil)) (fun v h => (hv v (sub1 h)).ex x2) (by exact (show 2 ≤ 100 by decide)) t2 fun H3 p3 q3 s3 u3 w3 y3 t3 z3 v3 => ?_
    have x3 := x2.trans y3
    have m3 := mem_snoc m2 (w := w3) ⟨fun v h => sub1 (z3 ▸ h), (by rw [z3]; exact fun q => nomatch q), (by rw [z3]; exact (show 1 ≤ 4 by decide)), exn (x2.trans less_ex) v3⟩
    refine blk_go (idx := [0]) (args := [a]) T.unheld.k T.unheld.na (by decide +kernel) rfl (by decide) (by decide) (fun _ _ _ _ => (.cons rfl .nil)) (fun v h => (hv v (sub1 h)).ex x3) (by exact (show 3 ≤ 100 by decide)) t3 fun H4 p4 q4 s4 u4 w4 y4 t4 z4 v4 => ?_
    have x4 := x3.trans y4
    have m4 := mem_snoc m3 (w := w4) ⟨fun v h => sub1 (z4 ▸ h), (by rw [z4]; exact fun q => nomatch q), (by rw [z4]; exact (show 1 ≤ 4 by decide)), exn (x3.trans less_ex) v4⟩
    refine blk_go (idx := [0, 1]) (args := [a, b]) T.keptroom.k T.keptroom.na (by decide +kernel) rfl (by decide) (by decide) (fun _ _ _ _ => (.cons rfl (.cons rfl .nil))) (fun v h => (hv v (sub2 h)).ex x4) (by exact (show 4 ≤ 100 by decide)) t4 fun H5 p5 q5 s5 u5 w5 y5 t5 z5 v5 => ?_
    have x5 := x4.trans y5
    have m5 := mem_snoc m4 (w := w5) ⟨fun v h => sub2 (z5 ▸ h), (by rw [z5]; exact fun q => nomatch q), (by rw [z5]; exact (show 2 ≤ 4 by decide)), exn (x4.trans less_ex) v5⟩
    refine blk_go (idx := [0, 1]) (args := [a, b]) T.pair.k T.pair.na (by decide +kernel) rfl (by decide) (by decide) (fun _ _ _ _ => (.cons rfl (.cons rfl .nil))) (fun v h => (hv v (sub2 h)).ex x5) (by exact (show 5 ≤ 100 by decide)) t5 fun H6 p6 q6 s6 u6 w6 y6 t6 z6 v6 => ?_
    have x6 := x5.trans y6
    have m6 := mem_snoc m5 (w := w6) ⟨fun v h => sub2 (z6 ▸ h), (by rw [z6]; exact fun q => nomatch q), (by rw [z6]; exact (show 2 ≤ 4 by decide)), exn (x5.trans less_ex) v6⟩
    refine blk_go (idx := [0]) (args := [a]) T.hived.k T.hived.na (by decide +kernel) rfl (by decide) (by decide) (fun _ _ _ _ => (.cons rfl .nil)) (fun v h => (hv v (sub1 h)).ex x6) (by exact (show 6 ≤ 100 by decide)) t6 fun H7 p7 q7 s7 u7 w7 y7 t7 z7 v7 => ?_
    have x7 := x6.trans y7
    have m7 := mem_snoc m6 (w := w7) ⟨fun v h => sub1 (z7 ▸ h), (by rw [z7]; exact fun q => nomatch q), (by rw [z7]; exact (show 1 ≤ 4 by decide)), exn (x6.trans less_ex) v7⟩
    refine blk_go (idx := [0, 1, 2]) (args := [a, b, c]) T.unhived.k T.unhived.na (by decide +kernel) rfl (by decide) (by decide) (fun _ _ _ _ => (.cons rfl (.cons rfl (.cons rfl .nil)))) (fun v h => (hv v (sub3 h)).ex x7) (by exact (show 7 ≤ 100 by decide)) t7 fun H8 p8 q8 s8 u8 w8 y8 t8 z8 v8 => ?_
    have x8 := x7.trans y8
    have m8 := mem_snoc m7 (w := w8) ⟨fun v h => sub3 (z8 ▸ h), (by rw [z8]; exact fun q => nomatch q), (by rw [z8]; exact (show 3 ≤ 4 by decide)), exn (x7.trans less_ex) v8⟩
    refine blk_go (idx := [0, 1]) (args := [a, b]) T.top.k T.top.na (by decide +kernel) rfl (by decide) (by decide) (fun _ _ _ _ => (.cons rfl (.cons rfl .nil))) (fun v h => (hv v (sub2 h)).ex x8) (by exact (show 8 ≤ 100 by decide)) t8 fun H9 p9 q9 s9 u9 w9 y9 t9 z9 v9 => ?_
    have x9 := x8.trans y9
    have m9 := mem_snoc m8 (w := w9) ⟨fun v h => sub2 (z9 ▸ h), (by rw [z9]; exact fun q => nomatch q), (by rw [z9]; exact (show 2 ≤ 4 by decide)), exn (x8.trans less_ex) v9⟩
    refine blk_go (idx := [0, 1]) (args := [a, b]) T.web.k T.web.na (by decide +kernel) rfl (by decide) (by decide) (fun _ _ _ _ => (.cons rfl (.cons rfl .nil))) (fun v h => (hv v (sub2 h)).ex x9) (by exact (show 9 ≤ 100 by decide)) t9 fun H10 p10 q10 s10 u10 w10 y10 t10 z10 v10 => ?_
    have x10 := x9.trans y10
    have m10 := mem_snoc m9 (w := w10) ⟨fun v h => sub2 (z10 ▸ h), (by rw [z10]; exact fun q => nomatch q), (by rw [z10]; exact (show 2 ≤ 4 by decide)), exn (x9.trans less_ex) v10⟩
    refine blk_go (idx := [0]) (args := [a]) T.along.k T.along.na (by decide +kernel) rfl (by decide) (by decide) (fun _ _ _ _ => (.cons rfl .nil)) (fun v h => (hv v (sub1 h)).ex x10) (by exact (show 10 ≤ 100 by decide)) t10 fun H11 p11 q11 s11 u11 w11 y11 t11 z11 v11 => ?_
    have x11 := x10.trans y11
    have m11 := mem_snoc m10 (w := w11) ⟨fun v h => sub1 (z11 ▸ h), (by rw [z11]; exact fun q => nomatch q), (by rw [z11]; exact (show 1 ≤ 4 by decide)), exn (x10.trans less_ex) v11⟩
    exact ⟨_, rfl, q H11 r _ x11 hr0 t11 rfl m11⟩
structure TxtB (K : PySem.W.Frag) (mg : Str → Option Value) (CTops fTops CTable fTable CBarred fBarred CCrossed fCrossed CMoves fMoves CApart fApart CLongest fLongest CFailing fFailing CFollows fFollows CLeads fLeads CStops fStops : Addr) (dTops dTable dBarred dCrossed dMoves dApart dLongest dFailing dFollows dLeads dStops : FuncData) : Prop where
  tops : CI K mg "Tops" "Tops.__init__" iTops ["one", "other"] CTops fTops dTops
  table : CI K mg "Table" "Table.__init__" iTable ["rows"] CTable fTable dTable
  barred : CI K mg "Barred" "Barred.__init__" iBarred ["number"] CBarred fBarred dBarred
  crossed : CI K mg "Crossed" "Crossed.__init__" iCrossed ["base", "table"] CCrossed fCrossed dCrossed
  moves : CI K mg "Moves" "Moves.__init__" iMoves ["steps"] CMoves fMoves dMoves
  apart : CI K mg "Apart" "Apart.__init__" iApart ["side", "limit", "rising", "falling"] CApart fApart dApart
  longest : CI K mg "Longest" "Longest.__init__" iLongest ["rising", "falling"] CLongest fLongest dLongest
  failing : CI K mg "Failing" "Failing.__init__" iFailing ["left", "far", "low"] CFailing fFailing dFailing
  follows : CI K mg "Follows" "Follows.__init__" iFollows ["falls", "weights"] CFollows fFollows dFollows
  leads : CI K mg "Leads" "Leads.__init__" iLeads ["steps"] CLeads fLeads dLeads
  stops : CI K mg "Stops" "Stops.__init__" iStops ["number"] CStops fStops dStops
theorem okMadeB {f fC : Addr} {fd fdC : FuncData} {CTops fTops CTable fTable CBarred fBarred CCrossed fCrossed CMoves fMoves CApart fApart CLongest fLongest CFailing fFailing CFollows fFollows CLeads fLeads CStops fStops : Addr} {dTops dTable dBarred dCrossed dMoves dApart dLongest dFailing dFollows dLeads dStops : FuncData} (F : Fun K "_law_made_b" "_law_made_b" sMadeB f fd) (TC : Com K mg fC fdC) (T : TxtB K mg CTops fTops CTable fTable CBarred fBarred CCrossed fCrossed CMoves fMoves CApart fApart CLongest fLongest CFailing fFailing CFollows fFollows CLeads fLeads CStops fStops dTops dTable dBarred dCrossed dMoves dApart dLongest dFailing dFollows dLeads dStops) : FnOk P w K mg base CX0 4 f fd ["a", "b", "c", "d"] (spMade K) := by
  refine F.ok scMadeB (fun vs H Q E h => ?_) (fun cdv A outer s H vs Q E hr h => ?_)
  · obtain ⟨a, b, c, d, rfl, _⟩ := h
    rfl
  · obtain ⟨a, b, c, d, rfl, hv, q⟩ := h
    refine ⟨_, pss_cons (ps_set (i := 4) scMadeB.nd rfl (.inl rfl) (pe_lst pa_nil))
      (pss_cons (ps_par (i := 5) (j := 6) rfl scMadeB.nd rfl rfl (by decide) rfl rfl (pa_cons (pe_make T.tops.k.mak (okTops T.tops.F TC) hr (by rfl) T.tops.k.g T.tops.b .nil pass0 (pa_cons (pv 0) (pa_cons (pv 1) pa_nil))) (pa_cons (pe_makeK0 T.tops.k.mak (okTops T.tops.F TC) hr (by rfl) T.tops.k.g T.tops.kb pass0 (pk_cons (pv 1) (pk_cons (pv 0) pk_nil))) pa_nil)) rfl)
      (pss_cons (ps_par (i := 7) (j := 8) rfl scMadeB.nd rfl rfl (by decide) rfl rfl (pa_cons (pe_and (pe_callB (C8.call_isC T.tops.k.ins) (by rfl) TC.ms PyProof.Rows.boot_isinstance (pa_cons (pv 5) (pa_cons (pe_glob (v := .ref CTops) (by rfl) T.tops.k.g rfl) pa_nil))) (pe_one (pe_callB (C8.call_isC T.tops.k.ins) (by rfl) TC.ms PyProof.Rows.boot_isinstance (pa_cons (pv 6) (pa_cons (pe_glob (v := .ref CTops) (by rfl) T.tops.k.g rfl) pa_nil))))) (pa_cons (pe_lst (pa_cons (pe_fld (pv 5) rfl) (pa_cons (pe_fld (pv 5) rfl) pa_nil))) pa_nil)) rfl)
      (pss_cons (ps_expr (pe_bm PySem.F.plainAttrs_list PySem.F.slot_list_append PySem.F.type_list_append mt_append (pv 4) (pa_cons (pe_tup (pa_cons (pv 5) (pa_cons (pv 6) (pa_cons (pv 7) (pa_cons (pv 8) (pa_cons (pe_lst (pa_cons (pe_fld (pv 6) rfl) (pa_cons (pe_fld (pv 6) rfl) pa_nil))) (pa_cons (pe_lst (pa_cons (pv 0) (pa_cons (pv 1) pa_nil))) pa_nil))))))) pa_nil)))
      (pss_cons (ps_par (i := 5) (j := 6) rfl scMadeB.nd rfl rfl (by decide) rfl rfl (pa_cons (pe_make T.table.k.mak (okTable T.table.F TC) hr (by rfl) T.table.k.g T.table.b .nil pass0 (pa_cons (pv 0) pa_nil)) (pa_cons (pe_makeK0 T.table.k.mak (okTable T.table.F TC) hr (by rfl) T.table.k.g T.table.kb pass0 (pk_cons (pv 0) pk_nil)) pa_nil)) rfl)
      (pss_cons (ps_par (i := 7) (j := 8) rfl scMadeB.nd rfl rfl (by decide) rfl rfl (pa_cons (pe_and (pe_callB (C8.call_isC T.table.k.ins) (by rfl) TC.ms PyProof.Rows.boot_isinstance (pa_cons (pv 5) (pa_cons (pe_glob (v := .ref CTable) (by rfl) T.table.k.g rfl) pa_nil))) (pe_one (pe_callB (C8.call_isC T.table.k.ins) (by rfl) TC.ms PyProof.Rows.boot_isinstance (pa_cons (pv 6) (pa_cons (pe_glob (v := .ref CTable) (by rfl) T.table.k.g rfl) pa_nil))))) (pa_cons (pe_lst (pa_cons (pe_fld (pv 5) rfl) pa_nil)) pa_nil)) rfl)
      (pss_cons (ps_expr (pe_bm PySem.F.plainAttrs_list PySem.F.slot_list_append PySem.F.type_list_append mt_append (pv 4) (pa_cons (pe_tup (pa_cons (pv 5) (pa_cons (pv 6) (pa_cons (pv 7) (pa_cons (pv 8) (pa_cons (pe_lst (pa_cons (pe_fld (pv 6) rfl) pa_nil)) (pa_cons (pe_lst (pa_cons (pv 0) pa_nil)) pa_nil))))))) pa_nil)))
      (pss_cons (ps_par (i := 5) (j := 6) rfl scMadeB.nd rfl rfl (by decide) rfl rfl (pa_cons (pe_make T.barred.k.mak (okBarred T.barred.F TC) hr (by rfl) T.barred.k.g T.barred.b .nil pass0 (pa_cons (pv 0) pa_nil)) (pa_cons (pe_makeK0 T.barred.k.mak (okBarred T.barred.F TC) hr (by rfl) T.barred.k.g T.barred.kb pass0 (pk_cons (pv 0) pk_nil)) pa_nil)) rfl)
      (pss_cons (ps_par (i := 7) (j := 8) rfl scMadeB.nd rfl rfl (by decide) rfl rfl (pa_cons (pe_and (pe_callB (C8.call_isC T.barred.k.ins) (by rfl) TC.ms PyProof.Rows.boot_isinstance (pa_cons (pv 5) (pa_cons (pe_glob (v := .ref CBarred) (by rfl) T.barred.k.g rfl) pa_nil))) (pe_one (pe_callB (C8.call_isC T.barred.k.ins) (by rfl) TC.ms PyProof.Rows.boot_isinstance (pa_cons (pv 6) (pa_cons (pe_glob (v := .ref CBarred) (by rfl) T.barred.k.g rfl) pa_nil))))) (pa_cons (pe_lst (pa_cons (pe_fld (pv 5) rfl) pa_nil)) pa_nil)) rfl)
      (pss_cons (ps_expr (pe_bm PySem.F.plainAttrs_list PySem.F.slot_list_append PySem.F.type_list_append mt_append (pv 4) (pa_cons (pe_tup (pa_cons (pv 5) (pa_cons (pv 6) (pa_cons (pv 7) (pa_cons (pv 8) (pa_cons (pe_lst (pa_cons (pe_fld (pv 6) rfl) pa_nil)) (pa_cons (pe_lst (pa_cons (pv 0) pa_nil)) pa_nil))))))) pa_nil)))
      (pss_cons (ps_par (i := 5) (j := 6) rfl scMadeB.nd rfl rfl (by decide) rfl rfl (pa_cons (pe_make T.crossed.k.mak (okCrossed T.crossed.F TC) hr (by rfl) T.crossed.k.g T.crossed.b .nil pass0 (pa_cons (pv 0) (pa_cons (pv 1) pa_nil))) (pa_cons (pe_makeK0 T.crossed.k.mak (okCrossed T.crossed.F TC) hr (by rfl) T.crossed.k.g T.crossed.kb pass0 (pk_cons (pv 1) (pk_cons (pv 0) pk_nil))) pa_nil)) rfl)
      (pss_cons (ps_par (i := 7) (j := 8) rfl scMadeB.nd rfl rfl (by decide) rfl rfl (pa_cons (pe_and (pe_callB (C8.call_isC T.crossed.k.ins) (by rfl) TC.ms PyProof.Rows.boot_isinstance (pa_cons (pv 5) (pa_cons (pe_glob (v := .ref CCrossed) (by rfl) T.crossed.k.g rfl) pa_nil))) (pe_one (pe_callB (C8.call_isC T.crossed.k.ins) (by rfl) TC.ms PyProof.Rows.boot_isinstance (pa_cons (pv 6) (pa_cons (pe_glob (v := .ref CCrossed) (by rfl) T.crossed.k.g rfl) pa_nil))))) (pa_cons (pe_lst (pa_cons (pe_fld (pv 5) rfl) (pa_cons (pe_fld (pv 5) rfl) pa_nil))) pa_nil)) rfl)
      (pss_cons (ps_expr (pe_bm PySem.F.plainAttrs_list PySem.F.slot_list_append PySem.F.type_list_append mt_append (pv 4) (pa_cons (pe_tup (pa_cons (pv 5) (pa_cons (pv 6) (pa_cons (pv 7) (pa_cons (pv 8) (pa_cons (pe_lst (pa_cons (pe_fld (pv 6) rfl) (pa_cons (pe_fld (pv 6) rfl) pa_nil))) (pa_cons (pe_lst (pa_cons (pv 0) (pa_cons (pv 1) pa_nil))) pa_nil))))))) pa_nil)))
      (pss_cons (ps_par (i := 5) (j := 6) rfl scMadeB.nd rfl rfl (by decide) rfl rfl (pa_cons (pe_make T.moves.k.mak (okMoves T.moves.F TC) hr (by rfl) T.moves.k.g T.moves.b .nil pass0 (pa_cons (pv 0) pa_nil)) (pa_cons (pe_makeK0 T.moves.k.mak (okMoves T.moves.F TC) hr (by rfl) T.moves.k.g T.moves.kb pass0 (pk_cons (pv 0) pk_nil)) pa_nil)) rfl)
      (pss_cons (ps_par (i := 7) (j := 8) rfl scMadeB.nd rfl rfl (by decide) rfl rfl (pa_cons (pe_and (pe_callB (C8.call_isC T.moves.k.ins) (by rfl) TC.ms PyProof.Rows.boot_isinstance (pa_cons (pv 5) (pa_cons (pe_glob (v := .ref CMoves) (by rfl) T.moves.k.g rfl) pa_nil))) (pe_one (pe_callB (C8.call_isC T.moves.k.ins) (by rfl) TC.ms PyProof.Rows.boot_isinstance (pa_cons (pv 6) (pa_cons (pe_glob (v := .ref CMoves) (by rfl) T.moves.k.g rfl) pa_nil))))) (pa_cons (pe_lst (pa_cons (pe_fld (pv 5) rfl) pa_nil)) pa_nil)) rfl)
      (pss_cons (ps_expr (pe_bm PySem.F.plainAttrs_list PySem.F.slot_list_append PySem.F.type_list_append mt_append (pv 4) (pa_cons (pe_tup (pa_cons (pv 5) (pa_cons (pv 6) (pa_cons (pv 7) (pa_cons (pv 8) (pa_cons (pe_lst (pa_cons (pe_fld (pv 6) rfl) pa_nil)) (pa_cons (pe_lst (pa_cons (pv 0) pa_nil)) pa_nil))))))) pa_nil)))
      (pss_cons (ps_par (i := 5) (j := 6) rfl scMadeB.nd rfl rfl (by decide) rfl rfl (pa_cons (pe_make T.apart.k.mak (okApart T.apart.F TC) hr (by rfl) T.apart.k.g T.apart.b .nil pass0 (pa_cons (pv 0) (pa_cons (pv 1) (pa_cons (pv 2) (pa_cons (pv 3) pa_nil))))) (pa_cons (pe_makeK0 T.apart.k.mak (okApart T.apart.F TC) hr (by rfl) T.apart.k.g T.apart.kb pass0 (pk_cons (pv 3) (pk_cons (pv 2) (pk_cons (pv 1) (pk_cons (pv 0) pk_nil))))) pa_nil)) rfl)
      (pss_cons (ps_par (i := 7) (j := 8) rfl scMadeB.nd rfl rfl (by decide) rfl rfl (pa_cons (pe_and (pe_callB (C8.call_isC T.apart.k.ins) (by rfl) TC.ms PyProof.Rows.boot_isinstance (pa_cons (pv 5) (pa_cons (pe_glob (v := .ref CApart) (by rfl) T.apart.k.g rfl) pa_nil))) (pe_one (pe_callB (C8.call_isC T.apart.k.ins) (by rfl) TC.ms PyProof.Rows.boot_isinstance (pa_cons (pv 6) (pa_cons (pe_glob (v := .ref CApart) (by rfl) T.apart.k.g rfl) pa_nil))))) (pa_cons (pe_lst (pa_cons (pe_fld (pv 5) rfl) (pa_cons (pe_fld (pv 5) rfl) (pa_cons (pe_fld (pv 5) rfl) (pa_cons (pe_fld (pv 5) rfl) pa_nil))))) pa_nil)) rfl)
      (pss_cons (ps_expr (pe_bm PySem.F.plainAttrs_list PySem.F.slot_list_append PySem.F.type_list_append mt_append (pv 4) (pa_cons (pe_tup (pa_cons (pv 5) (pa_cons (pv 6) (pa_cons (pv 7) (pa_cons (pv 8) (pa_cons (pe_lst (pa_cons (pe_fld (pv 6) rfl) (pa_cons (pe_fld (pv 6) rfl) (pa_cons (pe_fld (pv 6) rfl) (pa_cons (pe_fld (pv 6) rfl) pa_nil))))) (pa_cons (pe_lst (pa_cons (pv 0) (pa_cons (pv 1) (pa_cons (pv 2) (pa_cons (pv 3) pa_nil))))) pa_nil))))))) pa_nil)))
      (pss_cons (ps_par (i := 5) (j := 6) rfl scMadeB.nd rfl rfl (by decide) rfl rfl (pa_cons (pe_make T.longest.k.mak (okLongest T.longest.F TC) hr (by rfl) T.longest.k.g T.longest.b .nil pass0 (pa_cons (pv 0) (pa_cons (pv 1) pa_nil))) (pa_cons (pe_makeK0 T.longest.k.mak (okLongest T.longest.F TC) hr (by rfl) T.longest.k.g T.longest.kb pass0 (pk_cons (pv 1) (pk_cons (pv 0) pk_nil))) pa_nil)) rfl)
      (pss_cons (ps_par (i := 7) (j := 8) rfl scMadeB.nd rfl rfl (by decide) rfl rfl (pa_cons (pe_and (pe_callB (C8.call_isC T.longest.k.ins) (by rfl) TC.ms PyProof.Rows.boot_isinstance (pa_cons (pv 5) (pa_cons (pe_glob (v := .ref CLongest) (by rfl) T.longest.k.g rfl) pa_nil))) (pe_one (pe_callB (C8.call_isC T.longest.k.ins) (by rfl) TC.ms PyProof.Rows.boot_isinstance (pa_cons (pv 6) (pa_cons (pe_glob (v := .ref CLongest) (by rfl) T.longest.k.g rfl) pa_nil))))) (pa_cons (pe_lst (pa_cons (pe_fld (pv 5) rfl) (pa_cons (pe_fld (pv 5) rfl) pa_nil))) pa_nil)) rfl)
      (pss_cons (ps_expr (pe_bm PySem.F.plainAttrs_list PySem.F.slot_list_append PySem.F.type_list_append mt_append (pv 4) (pa_cons (pe_tup (pa_cons (pv 5) (pa_cons (pv 6) (pa_cons (pv 7) (pa_cons (pv 8) (pa_cons (pe_lst (pa_cons (pe_fld (pv 6) rfl) (pa_cons (pe_fld (pv 6) rfl) pa_nil))) (pa_cons (pe_lst (pa_cons (pv 0) (pa_cons (pv 1) pa_nil))) pa_nil))))))) pa_nil)))
      (pss_cons (ps_par (i := 5) (j := 6) rfl scMadeB.nd rfl rfl (by decide) rfl rfl (pa_cons (pe_make T.failing.k.mak (okFailing T.failing.F TC) hr (by rfl) T.failing.k.g T.failing.b .nil pass0 (pa_cons (pv 0) (pa_cons (pv 1) (pa_cons (pv 2) pa_nil)))) (pa_cons (pe_makeK0 T.failing.k.mak (okFailing T.failing.F TC) hr (by rfl) T.failing.k.g T.failing.kb pass0 (pk_cons (pv 2) (pk_cons (pv 1) (pk_cons (pv 0) pk_nil)))) pa_nil)) rfl)
      (pss_cons (ps_par (i := 7) (j := 8) rfl scMadeB.nd rfl rfl (by decide) rfl rfl (pa_cons (pe_and (pe_callB (C8.call_isC T.failing.k.ins) (by rfl) TC.ms PyProof.Rows.boot_isinstance (pa_cons (pv 5) (pa_cons (pe_glob (v := .ref CFailing) (by rfl) T.failing.k.g rfl) pa_nil))) (pe_one (pe_callB (C8.call_isC T.failing.k.ins) (by rfl) TC.ms PyProof.Rows.boot_isinstance (pa_cons (pv 6) (pa_cons (pe_glob (v := .ref CFailing) (by rfl) T.failing.k.g rfl) pa_nil))))) (pa_cons (pe_lst (pa_cons (pe_fld (pv 5) rfl) (pa_cons (pe_fld (pv 5) rfl) (pa_cons (pe_fld (pv 5) rfl) pa_nil)))) pa_nil)) rfl)
      (pss_cons (ps_expr (pe_bm PySem.F.plainAttrs_list PySem.F.slot_list_append PySem.F.type_list_append mt_append (pv 4) (pa_cons (pe_tup (pa_cons (pv 5) (pa_cons (pv 6) (pa_cons (pv 7) (pa_cons (pv 8) (pa_cons (pe_lst (pa_cons (pe_fld (pv 6) rfl) (pa_cons (pe_fld (pv 6) rfl) (pa_cons (pe_fld (pv 6) rfl) pa_nil)))) (pa_cons (pe_lst (pa_cons (pv 0) (pa_cons (pv 1) (pa_cons (pv 2) pa_nil)))) pa_nil))))))) pa_nil)))
      (pss_cons (ps_par (i := 5) (j := 6) rfl scMadeB.nd rfl rfl (by decide) rfl rfl (pa_cons (pe_make T.follows.k.mak (okFollows T.follows.F TC) hr (by rfl) T.follows.k.g T.follows.b .nil pass0 (pa_cons (pv 0) (pa_cons (pv 1) pa_nil))) (pa_cons (pe_makeK0 T.follows.k.mak (okFollows T.follows.F TC) hr (by rfl) T.follows.k.g T.follows.kb pass0 (pk_cons (pv 1) (pk_cons (pv 0) pk_nil))) pa_nil)) rfl)
      (pss_cons (ps_par (i := 7) (j := 8) rfl scMadeB.nd rfl rfl (by decide) rfl rfl (pa_cons (pe_and (pe_callB (C8.call_isC T.follows.k.ins) (by rfl) TC.ms PyProof.Rows.boot_isinstance (pa_cons (pv 5) (pa_cons (pe_glob (v := .ref CFollows) (by rfl) T.follows.k.g rfl) pa_nil))) (pe_one (pe_callB (C8.call_isC T.follows.k.ins) (by rfl) TC.ms PyProof.Rows.boot_isinstance (pa_cons (pv 6) (pa_cons (pe_glob (v := .ref CFollows) (by rfl) T.follows.k.g rfl) pa_nil))))) (pa_cons (pe_lst (pa_cons (pe_fld (pv 5) rfl) (pa_cons (pe_fld (pv 5) rfl) pa_nil))) pa_nil)) rfl)
      (pss_cons (ps_expr (pe_bm PySem.F.plainAttrs_list PySem.F.slot_list_append PySem.F.type_list_append mt_append (pv 4) (pa_cons (pe_tup (pa_cons (pv 5) (pa_cons (pv 6) (pa_cons (pv 7) (pa_cons (pv 8) (pa_cons (pe_lst (pa_cons (pe_fld (pv 6) rfl) (pa_cons (pe_fld (pv 6) rfl) pa_nil))) (pa_cons (pe_lst (pa_cons (pv 0) (pa_cons (pv 1) pa_nil))) pa_nil))))))) pa_nil)))
      (pss_cons (ps_par (i := 5) (j := 6) rfl scMadeB.nd rfl rfl (by decide) rfl rfl (pa_cons (pe_make T.leads.k.mak (okLeads T.leads.F TC) hr (by rfl) T.leads.k.g T.leads.b .nil pass0 (pa_cons (pv 0) pa_nil)) (pa_cons (pe_makeK0 T.leads.k.mak (okLeads T.leads.F TC) hr (by rfl) T.leads.k.g T.leads.kb pass0 (pk_cons (pv 0) pk_nil)) pa_nil)) rfl)
      (pss_cons (ps_par (i := 7) (j := 8) rfl scMadeB.nd rfl rfl (by decide) rfl rfl (pa_cons (pe_and (pe_callB (C8.call_isC T.leads.k.ins) (by rfl) TC.ms PyProof.Rows.boot_isinstance (pa_cons (pv 5) (pa_cons (pe_glob (v := .ref CLeads) (by rfl) T.leads.k.g rfl) pa_nil))) (pe_one (pe_callB (C8.call_isC T.leads.k.ins) (by rfl) TC.ms PyProof.Rows.boot_isinstance (pa_cons (pv 6) (pa_cons (pe_glob (v := .ref CLeads) (by rfl) T.leads.k.g rfl) pa_nil))))) (pa_cons (pe_lst (pa_cons (pe_fld (pv 5) rfl) pa_nil)) pa_nil)) rfl)
      (pss_cons (ps_expr (pe_bm PySem.F.plainAttrs_list PySem.F.slot_list_append PySem.F.type_list_append mt_append (pv 4) (pa_cons (pe_tup (pa_cons (pv 5) (pa_cons (pv 6) (pa_cons (pv 7) (pa_cons (pv 8) (pa_cons (pe_lst (pa_cons (pe_fld (pv 6) rfl) pa_nil)) (pa_cons (pe_lst (pa_cons (pv 0) pa_nil)) pa_nil))))))) pa_nil)))
      (pss_cons (ps_par (i := 5) (j := 6) rfl scMadeB.nd rfl rfl (by decide) rfl rfl (pa_cons (pe_make T.stops.k.mak (okStops T.stops.F TC) hr (by rfl) T.stops.k.g T.stops.b .nil pass0 (pa_cons (pv 0) pa_nil)) (pa_cons (pe_makeK0 T.stops.k.mak (okStops T.stops.F TC) hr (by rfl) T.stops.k.g T.stops.kb pass0 (pk_cons (pv 0) pk_nil)) pa_nil)) rfl)
      (pss_cons (ps_par (i := 7) (j := 8) rfl scMadeB.nd rfl rfl (by decide) rfl rfl (pa_cons (pe_and (pe_callB (C8.call_isC T.stops.k.ins) (by rfl) TC.ms PyProof.Rows.boot_isinstance (pa_cons (pv 5) (pa_cons (pe_glob (v := .ref CStops) (by rfl) T.stops.k.g rfl) pa_nil))) (pe_one (pe_callB (C8.call_isC T.stops.k.ins) (by rfl) TC.ms PyProof.Rows.boot_isinstance (pa_cons (pv 6) (pa_cons (pe_glob (v := .ref CStops) (by rfl) T.stops.k.g rfl) pa_nil))))) (pa_cons (pe_lst (pa_cons (pe_fld (pv 5) rfl) pa_nil)) pa_nil)) rfl)
      (pss_cons (ps_expr (pe_bm PySem.F.plainAttrs_list PySem.F.slot_list_append PySem.F.type_list_append mt_append (pv 4) (pa_cons (pe_tup (pa_cons (pv 5) (pa_cons (pv 6) (pa_cons (pv 7) (pa_cons (pv 8) (pa_cons (pe_lst (pa_cons (pe_fld (pv 6) rfl) pa_nil)) (pa_cons (pe_lst (pa_cons (pv 0) pa_nil)) pa_nil))))))) pa_nil)))
      (pss_one (ps_ret (pv 4)))))))))))))))))))))))))))))))))))), ?_⟩
    refine ⟨Nat.zero_le _, fun r hr0 => ?_⟩
    have t0 : Tb K (upd H r (.lst [])) r [] := tb_new hr0
    have x0 : Ex H (less r (upd H r (.lst []))) := by rw [less_upd]; exact ex_less hr0
    have m0 : ∀ w ∈ ([] : List Row), (∀ v ∈ w.vs, v ∈ [a, b, c, d]) ∧ w.vs ≠ [] ∧ w.vs.length ≤ 4 ∧ H w.x = none := fun _ h => nomatch h
    refine blk_go (idx := [0, 1]) (args := [a, b]) T.tops.k T.tops.na (by decide +kernel) rfl (by decide) (by decide) (fun _ _ _ _ => (.cons rfl (.cons rfl .nil))) (fun v h => (hv v (sub2 h)).ex x0) (by exact (show 0 ≤ 100 by decide)) t0 fun H1 p1 q1 s1 u1 w1 y1 t1 z1 v1 => ?_
    have x1 := x0.trans y1
    have m1 := mem_snoc m0 (w := w1) ⟨fun v h => sub2 (z1 ▸ h), (by rw [z1]; exact fun q => nomatch q), (by rw [z1]; exact (show 2 ≤ 4 by decide)), exn (x0.trans less_ex) v1⟩
    refine blk_go (idx := [0]) (args := [a]) T.table.k T.table.na (by decide +kernel) rfl (by decide) (by decide) (fun _ _ _ _ => (.cons rfl .nil)) (fun v h => (hv v (sub1 h)).ex x1) (by exact (show 1 ≤ 100 by decide)) t1 fun H2 p2 q2 s2 u2 w2 y2 t2 z2 v2 => ?_
    have x2 := x1.trans y2
    have m2 := mem_snoc m1 (w := w2) ⟨fun v h => sub1 (z2 ▸ h), (by rw [z2]; exact fun q => nomatch q), (by rw [z2]; exact (show 1 ≤ 4 by decide)), exn (x1.trans less_ex) v2⟩
    refine blk_go (idx := [0]) (args := [a]) T.barred.k T.barred.na (by decide +kernel) rfl (by decide) (by decide) (fun _ _ _ _ => (.cons rfl .nil)) (fun v h => (hv v (sub1 h)).ex x2) (by exact (show 2 ≤ 100 by decide)) t2 fun H3 p3 q3 s3 u3 w3 y3 t3 z3 v3 => ?_
    have x3 := x2.trans y3
    have m3 := mem_snoc m2 (w := w3) ⟨fun v h => sub1 (z3 ▸ h), (by rw [z3]; exact fun q => nomatch q), (by rw [z3]; exact (show 1 ≤ 4 by decide)), exn (x2.trans less_ex) v3⟩
    refine blk_go (idx := [0, 1]) (args := [a, b]) T.crossed.k T.crossed.na (by decide +kernel) rfl (by decide) (by decide) (fun _ _ _ _ => (.cons rfl (.cons rfl .nil))) (fun v h => (hv v (sub2 h)).ex x3) (by exact (show 3 ≤ 100 by decide)) t3 fun H4 p4 q4 s4 u4 w4 y4 t4 z4 v4 => ?_
    have x4 := x3.trans y4
    have m4 := mem_snoc m3 (w := w4) ⟨fun v h => sub2 (z4 ▸ h), (by rw [z4]; exact fun q => nomatch q), (by rw [z4]; exact (show 2 ≤ 4 by decide)), exn (x3.trans less_ex) v4⟩
    refine blk_go (idx := [0]) (args := [a]) T.moves.k T.moves.na (by decide +kernel) rfl (by decide) (by decide) (fun _ _ _ _ => (.cons rfl .nil)) (fun v h => (hv v (sub1 h)).ex x4) (by exact (show 4 ≤ 100 by decide)) t4 fun H5 p5 q5 s5 u5 w5 y5 t5 z5 v5 => ?_
    have x5 := x4.trans y5
    have m5 := mem_snoc m4 (w := w5) ⟨fun v h => sub1 (z5 ▸ h), (by rw [z5]; exact fun q => nomatch q), (by rw [z5]; exact (show 1 ≤ 4 by decide)), exn (x4.trans less_ex) v5⟩
    refine blk_go (idx := [0, 1, 2, 3]) (args := [a, b, c, d]) T.apart.k T.apart.na (by decide +kernel) rfl (by decide) (by decide) (fun _ _ _ _ => (.cons rfl (.cons rfl (.cons rfl (.cons rfl .nil))))) (fun v h => (hv v (sub4 h)).ex x5) (by exact (show 5 ≤ 100 by decide)) t5 fun H6 p6 q6 s6 u6 w6 y6 t6 z6 v6 => ?_
    have x6 := x5.trans y6
    have m6 := mem_snoc m5 (w := w6) ⟨fun v h => sub4 (z6 ▸ h), (by rw [z6]; exact fun q => nomatch q), (by rw [z6]; exact (show 4 ≤ 4 by decide)), exn (x5.trans less_ex) v6⟩
    refine blk_go (idx := [0, 1]) (args := [a, b]) T.longest.k T.longest.na (by decide +kernel) rfl (by decide) (by decide) (fun _ _ _ _ => (.cons rfl (.cons rfl .nil))) (fun v h => (hv v (sub2 h)).ex x6) (by exact (show 6 ≤ 100 by decide)) t6 fun H7 p7 q7 s7 u7 w7 y7 t7 z7 v7 => ?_
    have x7 := x6.trans y7
    have m7 := mem_snoc m6 (w := w7) ⟨fun v h => sub2 (z7 ▸ h), (by rw [z7]; exact fun q => nomatch q), (by rw [z7]; exact (show 2 ≤ 4 by decide)), exn (x6.trans less_ex) v7⟩
    refine blk_go (idx := [0, 1, 2]) (args := [a, b, c]) T.failing.k T.failing.na (by decide +kernel) rfl (by decide) (by decide) (fun _ _ _ _ => (.cons rfl (.cons rfl (.cons rfl .nil)))) (fun v h => (hv v (sub3 h)).ex x7) (by exact (show 7 ≤ 100 by decide)) t7 fun H8 p8 q8 s8 u8 w8 y8 t8 z8 v8 => ?_
    have x8 := x7.trans y8
    have m8 := mem_snoc m7 (w := w8) ⟨fun v h => sub3 (z8 ▸ h), (by rw [z8]; exact fun q => nomatch q), (by rw [z8]; exact (show 3 ≤ 4 by decide)), exn (x7.trans less_ex) v8⟩
    refine blk_go (idx := [0, 1]) (args := [a, b]) T.follows.k T.follows.na (by decide +kernel) rfl (by decide) (by decide) (fun _ _ _ _ => (.cons rfl (.cons rfl .nil))) (fun v h => (hv v (sub2 h)).ex x8) (by exact (show 8 ≤ 100 by decide)) t8 fun H9 p9 q9 s9 u9 w9 y9 t9 z9 v9 => ?_
    have x9 := x8.trans y9
    have m9 := mem_snoc m8 (w := w9) ⟨fun v h => sub2 (z9 ▸ h), (by rw [z9]; exact fun q => nomatch q), (by rw [z9]; exact (show 2 ≤ 4 by decide)), exn (x8.trans less_ex) v9⟩
    refine blk_go (idx := [0]) (args := [a]) T.leads.k T.leads.na (by decide +kernel) rfl (by decide) (by decide) (fun _ _ _ _ => (.cons rfl .nil)) (fun v h => (hv v (sub1 h)).ex x9) (by exact (show 9 ≤ 100 by decide)) t9 fun H10 p10 q10 s10 u10 w10 y10 t10 z10 v10 => ?_
    have x10 := x9.trans y10
    have m10 := mem_snoc m9 (w := w10) ⟨fun v h => sub1 (z10 ▸ h), (by rw [z10]; exact fun q => nomatch q), (by rw [z10]; exact (show 1 ≤ 4 by decide)), exn (x9.trans less_ex) v10⟩
    refine blk_go (idx := [0]) (args := [a]) T.stops.k T.stops.na (by decide +kernel) rfl (by decide) (by decide) (fun _ _ _ _ => (.cons rfl .nil)) (fun v h => (hv v (sub1 h)).ex x10) (by exact (show 10 ≤ 100 by decide)) t10 fun H11 p11 q11 s11 u11 w11 y11 t11 z11 v11 => ?_
    have x11 := x10.trans y11
    have m11 := mem_snoc m10 (w := w11) ⟨fun v h => sub1 (z11 ▸ h), (by rw [z11]; exact fun q => nomatch q), (by rw [z11]; exact (show 1 ≤ 4 by decide)), exn (x10.trans less_ex) v11⟩
    exact ⟨_, rfl, q H11 r _ x11 hr0 t11 rfl m11⟩
end
end Kc

/-! the law's def, entered from the claim's caller, where no guard stands on the stack -/
namespace KcG
open PySem PySem.Spec PyProof.Rows L2
/-- one call of a def at ONE A (fn_of is about all of them) -/
theorem at_one {CX : CXT} {P : Program} {w : World} {K : PySem.W.Frag} {mg : Str → Option Value} {base : Heap} {k : Nat} {f : Addr} {nm ql : Str} {ar : Arguments} {bd : List Stmt} {sc : Scope} {dV kV doc pm cdv ct oc : Value} {an od : Option Addr} {osl : Array (Option Value)} {N ps : List Str}
    {A : Around} {outer : List Env} {s : Shared} {H : Hp} {args : Args} {us : List Value} {vs : List V} {Q : VK} {E : XK}
    (lk : K.lookup f = some ⟨oc, od, .func (PySem.W.fnOf nm ql ar bd sc dV kV doc pm an cdv ct), osl⟩) (hcd : PySem.W.codeIn K cdv ql = true) (S : FnScope N ps sc) (hl : vs.length = ps.length) (hr : Room (k + 1) A) (e0 : Env0 P w K mg base A outer s H) (hb : BindsTo s (PySem.W.fnOf nm ql ar bd sc dV kV doc pm an cdv ct) args (ps.zip us)) (r : Vals vs us)
    (hbody : ∃ t, PSs (cxOf CX P w K mg base N ql sc f cdv A outer s H E) bd t ∧ t { nx := fun _ H' => Q .non H', rt := Q } (start N vs) H) : codeAny (model P w) A (.call (.ref f) args) (CR CX outer P w H s Q E) s := by
  have KX : K.In s.heap := e0.mod.kin.keeps (fun b o e => And.left (e0.bs b o e))
  have noLim : s.heap.NoLimit := e0.mod.nolimit.keeps (fun b o e => And.left (e0.bs b o e))
  obtain ⟨t, ht, hq⟩ := hbody
  refine codeAny_call_function hr.depth (KX _ _ lk) rfl S.co S.gen rfl (PySem.W.codeRec_of KX hcd) (hb _ _ _ _ (wpAny_newFunctionEnv_cells S.kind (fun y hy => ?kinds) fun env he s1 x => ?body))
  case kinds =>
    obtain ⟨n, v⟩ := y
    exact (S.par n (List.of_mem_zip hy).1).imp id fun q => ⟨q, PySem.W.cellsFrom_some _ _ _ (.inl q)⟩
  case body =>
    subst he
    refine ⟨noLim.keeps x.toInCall.keep, codeAny_func (wpAny_mono (ht.run [] s1 (start N vs) H _ (inv_start S hr.hd e0 hl r x) hq) (fun fl s' hs => ?_) fun e s' hs => hs)⟩
    match fl, hs with
    | .ret u, ⟨v, σ', H', J, rv, q⟩ => exact ⟨v, H', J.os, J.bare, J.base, J.hok, rv, q⟩
    | .next, ⟨σ', H', J, q⟩ => exact ⟨V.non, H', J.os, J.bare, J.base, J.hok, rfl, q⟩
    | .brk, ⟨_, _, _, q⟩ => exact q.elim
    | .cont, ⟨_, _, _, q⟩ => exact q.elim
/-- what the caller wants of the law's end -/
abbrev Told (s₁ : Shared) (r : Result) (s' : Shared) : Prop := r = .ok (.ret (.bool true)) ∧ OldK s₁.heap s'.heap ∧ s'.os = s₁.os ∧ AllBare s'.gens
/-- the law is run: RUN tells its promise over the base that is hidden from the tracked heap -/
theorem told_of {P : Program} {w : World} {K : PySem.W.Frag} {mg mb : Str → Option Value} {fa a : Addr} {s₁ : Shared} {vs : List Value} {ns : List Int}
    (KX : K.In s₁.heap) (hns : s₁.heap.Ns mainGlobals mg) (hb : s₁.heap.Ns builtinsNs mb) (hbb : ∀ x : Str, x ≠ "__name__" → mb x = bootBuiltins x) (hlim : s₁.heap.NoLimit) (hg : s₁.gens = #[])
    (ha : s₁.heap.get? a = some { cls := .type "list", data := .seq vs.toArray }) (hi : IntsAre vs ns) (hl : ns.length ≤ sizeLine)
    (RUN : ∀ (base : Heap) (H : Hp), K.In base → base.Ns mainGlobals mg → SqL K H a (ns.map V.int) → Env0 P w K mg base callerA [] s₁ H → codeAny (model P w) callerA (.call (.ref fa) ⟨[.ref a], []⟩) (CR CX0 [] P w H s₁ (fun v _ => v = .bl true) fun _ _ _ => False) s₁) :
    codeAny (model P w) callerA (.call (.ref fa) ⟨[.ref a], []⟩) (Told s₁) s₁ := by
  have rv := vals_ints hi
  have core : ∀ H : Hp, Only H → SqL K H a (ns.map V.int) → HOk P w H s₁.heap → (∀ b, b ≠ a → H b = none) → (H a ≠ none → K.lookup a = none) → codeAny (model P w) callerA (.call (.ref fa) ⟨[.ref a], []⟩) (Told s₁) s₁ := by
    intro H hO hS hok hA hK
    have noA : ∀ {b : Addr} {o : Obj} {es : Array DictEntry} {ep : Nat}, s₁.heap.get? b = some o → o.data = .dict es ep → H b = none := by
      intro b o es ep e d
      refine hA b fun z => ?_
      rw [z, ha] at e
      cases e
      exact nomatch d
    have nsK : ∀ {b : Addr} {m : Str → Option Value}, s₁.heap.Ns b m → (hidT s₁.heap H).Ns b m := by
      rintro b m ⟨o, es, ep, e, d, r⟩
      exact ⟨o, es, ep, hidT_get e (noA e d), d, r⟩
    have hKb : K.In (hidT s₁.heap H) := by
      intro b o e
      refine hidT_get (KX b o e) (Classical.byContradiction fun z => ?_)
      by_cases q : b = a
      · rw [q] at e z
        rw [hK z] at e
        cases e
      · exact z (hA b q)
    obtain ⟨mc, l1, l2⟩ := hlim
    have e0 : Env0 P w K mg (hidT s₁.heap H) callerA [] s₁ H := ⟨rfl, ⟨hKb, nsK hns, ⟨mb, nsK hb, hbb⟩, ⟨mc, nsK l1, l2⟩⟩, (fun b o e => of_hidT e), Nat.le_of_eq (hidT_size _ _), trivial, (fun b z => nomatch z), hok, AllBare.of_eq hg⟩
    refine codeAny_mono (RUN _ H hKb (nsK hns) hS e0) fun r s' h => ?_
    match r, h with
    | .error e, h => exact h.elim
    | .ok .next, h => exact False.elim h
    | .ok .brk, h => exact False.elim h
    | .ok .cont, h => exact False.elim h
    | .ok (.ret u), ⟨v, H', os, bare, un, hok', rr, q⟩ =>
      have qq : v = .bl true := q
      rw [qq] at rr
      obtain rfl : u = Value.bool true := rr
      refine ⟨rfl, OldK.of_keep (fun b o e => ?_), os, bare⟩
      rcases hO b with z | ⟨ob, xs, z⟩
      · exact un.keep b o e z (fun z => nomatch z) (fun z => nomatch z)
      · obtain ⟨e1, _⟩ := hok b _ z
        obtain ⟨e2, _⟩ := hok' b _ (un.frzs b ob _ z)
        exact e2.trans (e1.symm.trans e)
  by_cases hk : K.lookup a = none
  · have at_a : ∀ {b : Addr} {u : HO}, (if b = a then some (HO.frz { cls := .type "list", data := .seq vs.toArray } (.lst (ns.map V.int))) else none) = some u → b = a ∧ u = .frz { cls := .type "list", data := .seq vs.toArray } (.lst (ns.map V.int)) := by
      intro b u z
      by_cases hb : b = a
      · rw [if_pos hb] at z
        exact ⟨hb, (Option.some.inj z).symm⟩
      · rw [if_neg hb] at z
        cases z
    refine core (fun b => if b = a then some (.frz { cls := .type "list", data := .seq vs.toArray } (.lst (ns.map V.int))) else none) (fun b => ?_) (.inl (.inr ⟨_, if_pos rfl⟩)) (fun b u z => ?_) (fun b z => if_neg z) fun _ => hk
    · by_cases q : b = a
      · exact .inr ⟨_, _, if_pos q⟩
      · exact .inl (if_neg q)
    · obtain ⟨rfl, rfl⟩ := at_a z
      exact ⟨ha, (by rw [List.length_map]; exact hl), vs, _, rv, ha⟩
  · obtain ⟨o, q⟩ := Option.ne_none_iff_exists'.mp hk
    obtain rfl : _ = o := Option.some.inj (ha.symm.trans (KX a o q))
    exact core (fun _ => none) (fun _ => .inl rfl) (.inr ⟨_, vs.toArray, _, q, rfl, rfl, rfl, (by rw [List.size_toArray, hi.length]; exact hl), rv⟩) (fun b u z => nomatch z) (fun b _ => rfl) (fun z => absurd rfl z)
end KcG

/-! a list taken apart: a, b, .. = a list -/
namespace KcU
open PySem PySem.Spec PyProof.Rows L2
section
variable {prog : Program} {w : World} {A : Around} {E : Value → Shared → Prop} {s : Shared}
theorem draws {it l : Addr} {items : Array Value} (hne : l ≠ it) : ∀ (n i : Nat) (s : Shared) (Q : List Value → Shared → Prop), s.heap.IsListIter it l i → s.heap.IsList l items → i + n ≤ items.size →
    (∀ h', h'.IsListIter it l (i + n) → Heap.SameBut it s.heap h' → Q ((items.toList.drop i).take n) { s with heap := h' }) → wpAny (model prog w) A (draw (.ref it) n) Q E s := by
  intro n
  induction n with
  | zero =>
    intro i s Q hit _ _ hQ
    have := hQ s.heap hit (Heap.SameBut.refl ..)
    rw [List.take_zero] at this
    exact wpAny_pure this
  | succ n ih =>
    intro i s Q hit hl hle hQ
    have hlt : i < items.size := by omega
    refine wpAny_bind (m := pyNext (.ref it)) (wpAny_pyNext_list_item hit hl (x := items[i]) (by simp [hlt]) fun h₁ hit₁ hs₁ => ?_)
    refine wpAny_bind (wpAny_holding (ih (i + 1) _ _ hit₁ ?_ (by omega) fun h₂ hit₂ hs₂ => wpAny_pure ?_))
    · obtain ⟨o, ho, r⟩ := hl
      exact ⟨o, (hs₁.2 l hne).trans ho, r⟩
    · have q := hQ h₂ (by rw [show i + (n + 1) = i + 1 + n by omega]; exact hit₂) (hs₁.trans hs₂)
      rw [show items.toList.drop i = items[i] :: items.toList.drop (i + 1) by simp [List.drop_eq_getElem_cons, hlt], List.take_succ_cons] at q
      exact q
theorem items_list {l : Addr} {items : Array Value} {Q : List Value → Shared → Prop} (hh : A.handled = none) (hl : s.heap.IsList l items)
    (hQ : ∀ h', Heap.ExtBut s.heap.objs.size s.heap h' → Q items.toList { s with heap := h' }) : wpAny (model prog w) A (unpackItems (.ref l) items.size none) Q E s := by
  have hlt : l ≠ s.heap.objs.size := by
    obtain ⟨o, ho, _⟩ := hl
    exact Nat.ne_of_lt (Heap.lt_size ho)
  have push : ∀ ob : Obj, (s.heap.push ob).IsList l items := fun ob => by
    obtain ⟨o, ho, r⟩ := hl
    exact ⟨o, Heap.get?_push_of_some _ ho, r⟩
  unfold unpackItems
  refine wpAny_bind ?_
  unfold notIterableAtAll
  refine wpAny_bind (wpAny_specialOf hl.typeIs slot_list_iter.lookup (wpAny_pure ?_))
  simp only [Bool.false_eq_true, if_false]
  refine wpAny_bind (wpAny_holding (wpAny_pyIter_list hl ?_))
  refine wpAny_bind (wpAny_holding (draws hlt items.size 0 _ _ ⟨_, Heap.get?_push_size _ rfl, rfl, rfl⟩ (push _) (by omega) fun h₁ hit₁ hs₁ => ?_))
  rw [show List.take items.size (List.drop 0 items.toList) = items.toList by rw [List.drop_zero]; exact List.take_of_length_le (by simp), if_neg (by simp)]
  have l₁ : h₁.IsList l items := by
    obtain ⟨o, ho, r⟩ := push { cls := .type "list_iterator", data := .fields #[.ref l, .int 0 0] }
    exact ⟨o, (hs₁.2 l hlt).trans ho, r⟩
  refine wpAny_bind (wpAny_holding (wpAny_pyNext_list_end hh hit₁ l₁ (by simp) fun h₂ he₂ => ?_))
  simp only [Option.isSome_none, Bool.false_eq_true, if_false]
  exact wpAny_pure (hQ h₂ fun b o nb e => he₂ b o nb (hs₁.extBut b o nb (Heap.get?_push_of_some _ e)))
end
/-- (a, b, ..) = a list of that length -/
def gLst (K : PySem.W.Frag) (n : Nat) (t : TGs) : TG := fun v σ H Q => ∃ a xs, v = .ref a ∧ SqL K H a xs ∧ xs.length = n ∧ t xs σ H Q
section
variable {X : Cx} {pos : Pos}
theorem pg_lst {es : List Expr} {k : Nat} {t : TGs} {n : Nat} (hc : X.calm = true) (h : PGs X es t) (hn : (assignEach es X.env).length = n := by rfl) (hst : (assignEach es X.env).findIdx? (·.1) = none := by rfl) : PG X (.Tuple es k pos) (gLst X.K n t) := ⟨fun pins s σ H v u Q I r ⟨a, xs, e1, hq, hl, hw⟩ => by
  subst e1
  cases r
  obtain ⟨its, rv, p, hz⟩ := I.list hq
  rw [assign_Tuple]
  refine wpAny_bind (wpAny_standAt ?_)
  unfold unpack
  have hs : (assignEach es X.env).length = its.toArray.size := by rw [hn, ← hl, rv.length, List.size_toArray]
  rw [hs, hst]
  refine wpAny_bind (wpAny_holding (items_list (I.ok.hd hc) p.isList fun h' hx => ?_))
  have I1 : Inv X pins σ H { s with heap := h' } := I.kept (t' := s.toks) (fun b o e => hx b o (Nat.ne_of_lt (Heap.lt_size e)) e)
  exact h.run pins _ σ H xs its Q I1 rv hw⟩
end
end KcU

namespace KcR
open PySem PySem.Spec PyProof.Rows L2
abbrev kA : List (Key × V) := [(.inr ("a" : Str), .int 1)]
mutual
/-- v is the data d in H -/
inductive Dg (H : Hp) : V → PyData → Prop
  | non : Dg H .non .none
  | bl (b : Bool) : Dg H (.bl b) (.bool b)
  | int (i : Int) : Dg H (.int i) (.int i)
  | str (x : Str) : Dg H (.str x) (.str x)
  | lst {a : Addr} {vs : List V} {ds : List PyData} (e : H a = some (.lst vs)) (t : DgAll H vs ds) : Dg H (.ref a) (.list ds)
  | tup {a : Addr} {vs : List V} {ds : List PyData} (e : H a = some (.tup vs)) (t : DgAll H vs ds) : Dg H (.ref a) (.tuple ds)
  | dk {a : Addr} (e : H a = some (.dK kA)) : Dg H (.ref a) (.dict [(.str ("a" : Str), .int 1)])
inductive DgAll (H : Hp) : List V → List PyData → Prop
  | nil : DgAll H [] []
  | cons {v : V} {d : PyData} {vs : List V} {ds : List PyData} (h : Dg H v d) (t : DgAll H vs ds) : DgAll H (v :: vs) (d :: ds)
end
/-- what data hangs on stays -/
def Fx (H H' : Hp) : Prop := ∀ b, (∀ xs, H b = some (.lst xs) → H' b = some (.lst xs)) ∧ (∀ xs, H b = some (.tup xs) → H' b = some (.tup xs)) ∧ (H b = some (.dK kA) → H' b = some (.dK kA))
mutual
theorem Dg.fx {H H' : Hp} (k : Fx H H') : ∀ (d : PyData) (v : V), Dg H v d → Dg H' v d
  | .none, _, h => by cases h; exact .non
  | .bool b, _, h => by cases h; exact .bl b
  | .int i, _, h => by cases h; exact .int i
  | .str x, _, h => by cases h; exact .str x
  | .list ds, _, h => by cases h with | lst e t => exact .lst ((k _).1 _ e) (DgAll.fx k ds _ t)
  | .tuple ds, _, h => by cases h with | tup e t => exact .tup ((k _).2.1 _ e) (DgAll.fx k ds _ t)
  | .dict kvs, _, h => by cases h with | dk e => exact .dk ((k _).2.2 e)
theorem DgAll.fx {H H' : Hp} (k : Fx H H') : ∀ (ds : List PyData) (vs : List V), DgAll H vs ds → DgAll H' vs ds
  | [], _, h => by cases h; exact .nil
  | d :: ds, _, h => by cases h with | cons h t => exact .cons (Dg.fx k d _ h) (DgAll.fx k ds _ t)
end
section
variable {X : Cx} {pins : List (Addr × Obj)} {σ : L2.St} {H : Hp} {s : Shared}
theorem dk_reads (I : Inv X pins σ H s) {a : Addr} {u : Value} (e : H a = some (.dK kA)) (r : RelV (.ref a) u) : ∃ as, Reads s.heap u (.dict [(.str ("a" : Str), .int 1)]) as ∧ sysModules ∉ as := by
  cases r
  obtain ⟨_, low, vs, rel, o, es, ep, ho, hx, hd, _, hp, _⟩ := dk_of I.hok e
  have ne : sysModules ≠ a := Ne.symm (beq_eq_false_iff_ne.mp low)
  cases rel with
  | @cons p kv _ _ r1 t =>
    cases t
    generalize hes : es.toList = el at hp
    cases hp with
    | @cons en _ _ _ hk hv tl =>
      cases tl
      have k1 : keyIs kv.1 en.key = true := hk
      rw [← r1.1] at k1
      rcases keyIs_shape k1 with ⟨i, t, z, _⟩ | ⟨y, t, z, hy⟩
      · cases z
      · cases z
        obtain ⟨t2, h2⟩ := (show ∃ t, kv.2 = Value.int 1 t from r1.2)
        refine ⟨_, Reads.dict (kvs := [(.str ("a" : Str), .int 1)]) (as := [] ++ []) (bs := [] ++ []) ho hx.1 hd ?_ ?_, fun z => ?_⟩
        · rw [hes]
          show ReadsAll _ [en.key] [.str ("a" : Str)] _
          rw [hy]
          exact .cons (.str _ t) .nil
        · rw [hes]
          show ReadsAll _ [en.val] [.int 1] _
          rw [hv, h2]
          exact .cons (.int 1 t2) .nil
        · rcases List.mem_append.mp z with z | z
          · rcases List.mem_cons.mp z with z | z
            · exact ne z
            · cases z
          · cases z
mutual
theorem Dg.reads (I : Inv X pins σ H s) : ∀ (d : PyData) (v : V) (u : Value), Dg H v d → RelV v u → ∃ as, Reads s.heap u d as
  | .none, _, _, h, r => by
    cases h
    cases r
    exact ⟨_, .none⟩
  | .bool b, _, _, h, r => by
    cases h
    cases r
    exact ⟨_, .bool b⟩
  | .int i, _, _, h, r => by
    cases h
    obtain ⟨t, rfl⟩ := r
    exact ⟨_, .int i t⟩
  | .str x, _, _, h, r => by
    cases h
    obtain ⟨t, rfl⟩ := r
    exact ⟨_, .str x t⟩
  | .list ds, _, _, h, r => by
    cases h with
    | lst e t =>
      cases r
      obtain ⟨its, rv, ⟨o, n, ho, hc, _, hd⟩, _⟩ := I.list (.of e)
      obtain ⟨as, hr⟩ := DgAll.reads I ds _ its t rv
      exact ⟨_, .list ho hc hd hr⟩
  | .tuple ds, _, _, h, r => by
    cases h with
    | tup e t =>
      cases r
      obtain ⟨its, rv, ⟨o, ho, hc, n, hd⟩, _⟩ := I.tuple (.of e)
      obtain ⟨as, hr⟩ := DgAll.reads I ds _ its t rv
      exact ⟨_, .tuple ho hc hd hr⟩
  | .dict kvs, _, _, h, r => by
    cases h with
    | dk e =>
      obtain ⟨as, h, _⟩ := dk_reads I e r
      exact ⟨as, h⟩
theorem DgAll.reads (I : Inv X pins σ H s) : ∀ (ds : List PyData) (vs : List V) (us : List Value), DgAll H vs ds → Vals vs us → ∃ as, ReadsAll s.heap us ds as
  | [], _, _, h, r => by
    cases h
    cases r
    exact ⟨_, .nil⟩
  | d :: ds, _, _, h, r => by
    cases h with
    | cons h1 h2 =>
      cases r with
      | cons r1 r2 =>
        obtain ⟨as, q1⟩ := Dg.reads I d _ _ h1 r1
        obtain ⟨bs, q2⟩ := DgAll.reads I ds _ _ h2 r2
        exact ⟨_, .cons q1 q2⟩
end
end
/-- what repr asks of the data -/
structure Sho (d : PyData) : Prop where
  sh : d.showable = true
  dep : d.depth ≤ 40
  sz : d.shown.length ≤ 1000
  i : ∀ n, d = .int n → n.natAbs.log2 < 1920
  one : d.hasDict = false ∨ d = .dict [(.str ("a" : Str), .int 1)]
theorem line_le {n : Nat} (h : n ≤ 10000) : n ≤ sizeLine := by rw [sizeLine_eq]; omega
theorem Dg.told {X : Cx} {pins : List (Addr × Obj)} {σ : L2.St} {H : Hp} {s : Shared} (I : Inv X pins σ H s) {d : PyData} {v : V} {u : Value} (h : Dg H v d) (sh : Sho d) (r : RelV v u) : ∃ as, Reads s.heap u d as ∧ (d.hasDict = true → sysModules ∉ as) := by
  rcases sh.one with z | z
  · obtain ⟨as, q⟩ := Dg.reads I d v u h r
    exact ⟨as, q, fun z2 => by rw [z] at z2; cases z2⟩
  · subst z
    cases h with
    | dk e =>
      obtain ⟨as, q, n⟩ := dk_reads I e r
      exact ⟨as, q, fun _ => n⟩
/-- repr(x), x no list -/
def rRepr : List V → Hp → VK → Prop := fun xs H Q => ∃ v d, xs = [v] ∧ Dg H v d ∧ Sho d ∧ Q (.str d.shown) H
theorem call_reprD {X : Cx} (hg : X.A.guards = some []) (hu : X.A.units + 64 < cLine) : CallR X (.builtin "repr") rRepr := by
  intro pins s σ H xs us Q I r h
  obtain ⟨v, d, rfl, hd, sh, q⟩ := h
  obtain ⟨u, rfl, rx⟩ := vals1 r
  have size : d.shown.length ≤ sizeLine := line_le (Nat.le_trans sh.sz (by decide))
  have byRef : ∀ {a : Addr}, u = .ref a → wpAny (model X.prog X.w) X.A (call (.builtin "repr") [u]) (EP X pins σ Q) X.xe s := fun {a} e => by
    obtain ⟨as, hr, hn⟩ := hd.told I sh rx
    subst e
    have hdep := sh.dep
    exact repr_of_reads' hr sh.sh hn hg (by omega) (fun _ _ z => z) (fun h' u tk hk => ⟨.str d.shown, H, I.kept (t' := tk) hk, ⟨u, rfl⟩, q⟩) size
  cases hd with
  | non =>
    cases (show u = Value.none from rx)
    exact P.repr_of_none ⟨.str "None", H, I.tok _, ⟨_, rfl⟩, q⟩
  | bl b =>
    cases (show u = Value.bool b from rx)
    refine P.repr_of_bool ⟨.str (if b = true then ("True" : Str) else ("False" : Str)), H, I.tok _, ⟨_, rfl⟩, ?_⟩
    cases b <;> exact q
  | int i =>
    obtain ⟨t, rfl⟩ := (show ∃ t, u = Value.int i t from rx)
    exact P.repr_of_int (sh.i i rfl) ⟨.str (toString i), H, I.tok _, ⟨_, rfl⟩, q⟩
  | str x =>
    obtain ⟨t, rfl⟩ := (show ∃ t, u = Value.str x t from rx)
    exact P.repr_of_str ⟨.str (reprText x), H, I.tok _, ⟨_, rfl⟩, q⟩ size
  | lst e t => exact byRef rx
  | tup e t => exact byRef rx
  | dk e => exact byRef rx
/-- the items' texts -/
theorem all_texts {X : Cx} {pins : List (Addr × Obj)} {σ : L2.St} {H : Hp} {s : Shared} (I : Inv X pins σ H s) : ∀ {ds : List PyData} {vs : List V} {us : List Value}, DgAll H vs ds → (∀ d ∈ ds, Sho d) → Vals vs us →
    ∃ bs, ReadAtMost s.heap (PyData.depthAll ds) bs ∧ ReprAllK X.prog X.w bs s.heap (PyData.depthAll ds) us (PyData.shownAll ds)
  | [], _, _, h, _, r => by
    cases h
    cases r
    exact ⟨[], (fun _ z => nomatch z), by simp only [PyData.shownAll]; exact .nil⟩
  | d :: ds, _, _, h, sh, r => by
    cases h with
    | cons h1 h2 =>
      cases r with
      | cons r1 r2 =>
        have s1 := sh d List.mem_cons_self
        obtain ⟨as, q1, n1⟩ := h1.told I s1 r1
        obtain ⟨b1, m1, k1⟩ := ReprK.of_reads (prog := X.prog) (w := X.w) q1 s1.sh n1 (line_le (Nat.le_trans s1.sz (by decide)))
        obtain ⟨b2, m2, k2⟩ := all_texts I h2 (fun e he => sh e (List.mem_cons_of_mem _ he)) r2
        simp only [PyData.depthAll, PyData.shownAll]
        exact ⟨b1 ++ b2, (m1.mono (Nat.le_max_left _ _)).append (m2.mono (Nat.le_max_right _ _)), .cons ((k1.more fun b hb => List.mem_append_left _ hb).level_le (Nat.le_max_left _ _)) (k2.more_le (fun b hb => List.mem_append_right _ hb) (Nat.le_max_right _ _))⟩
/-- repr([..]), items -/
def rReprL : List V → Hp → VK → Prop := fun xs H Q => ∃ (l : Addr) (vs : List V) (ds : List PyData), xs = [.ref l] ∧ H l = some (.lst vs) ∧ ds ≠ [] ∧ DgAll H vs ds ∧ (∀ d ∈ ds, Sho d) ∧ (listText (PyData.shownAll ds)).length ≤ sizeLine ∧ PyData.depthAll ds ≤ 40 ∧ Q (.str (listText (PyData.shownAll ds))) H
theorem call_reprL {X : Cx} (hg : X.A.guards = some []) (hu : X.A.units + 64 < cLine) : CallR X (.builtin "repr") rReprL := by
  intro pins s σ H xs us Q I r h
  obtain ⟨l, vs, ds, rfl, hl, hne, hd, sh, hz, hdep, q⟩ := h
  obtain ⟨u, rfl, rx⟩ := vals1 r
  cases (show u = Value.ref l from rx)
  obtain ⟨its, rv, ⟨o, n, ho, hc, _, hdat⟩, _⟩ := I.list (.of hl)
  obtain ⟨bs, hb, hk⟩ := all_texts I hd sh rv
  obtain ⟨as, hr⟩ := DgAll.reads I ds vs its hd rv
  have hna : l ∉ bs := not_mem_of_deeper (.list ho hc hdat hr) (by simp only [PyData.depth]; omega) hb
  refine call_repr_slot (by omega) ⟨o, ho, hc⟩ F.slot_list_repr.toG ?_
  cases its with
  | nil =>
    cases rv
    cases hd
    exact absurd rfl hne
  | cons x its =>
    refine call_list_reprK ho hc hdat hna (by simpa using hk.length_eq) (fun i y e => hk.item i y (by simpa using e)) (g := []) hg (fun b _ => Clear.nil b) (by show X.A.units + 1 + _ < _; omega) (fun _ _ z => z) (fun h' u tk hk' => ⟨_, _, rfl, ⟨.str (listText (PyData.shownAll ds)), H, I.kept (t' := tk) hk', ⟨u, rfl⟩, q⟩⟩) hz
end KcR

namespace Kc
open PySem PySem.Spec PyProof.Rows L2 KcE KcR
/-! ### the values, told -/
def cpD : PyData → PyData
  | .list ds => .tuple ds
  | d => d
def V14 : List PyData := [.tuple [.int 1, .int 2], .list [.int 1, .list [.int 2]], .list [], .tuple [], .str ("web" : Str), .int 5, .none, .bool true, .tuple [.tuple [.int 0, .int 1]], .list [.list [.int 0], .list [.int 1]], .dict [(.str ("a" : Str), .int 1)], .int (-3), .str ("" : Str), .list [.none]]
def IsVal (d : PyData) : Prop := d ∈ V14 ∨ ∃ i j k : Fin 9, d = .list [.int (i.val : Int), .int (j.val : Int), .int (k.val : Int)]
def oneB : PyData → Bool
  | .dict [(.str x, .int 1)] => decide (x = ("a" : Str))
  | d => !d.hasDict
def smallI : PyData → Bool
  | .int n => decide (n.natAbs.log2 < 1920)
  | _ => true
def shoB (d : PyData) : Bool := d.showable && decide (d.depth ≤ 5) && decide (d.shown.length ≤ 40) && smallI d && oneB d
theorem sho_of {d : PyData} (h : shoB d = true) : Sho d ∧ d.depth ≤ 5 ∧ d.shown.length ≤ 40 := by
  unfold shoB at h
  simp only [Bool.and_eq_true, decide_eq_true_eq] at h
  obtain ⟨⟨⟨⟨h1, h2⟩, h3⟩, h4⟩, h5⟩ := h
  refine ⟨⟨h1, by omega, by omega, fun n e => ?_, ?_⟩, h2, h3⟩
  · subst e
    exact of_decide_eq_true h4
  · unfold oneB at h5
    split at h5
    · rw [of_decide_eq_true h5]
      exact .inr rfl
    · refine .inl ?_
      simpa using h5
theorem v14_sho : ∀ d ∈ V14, shoB (cpD d) = true := by decide +kernel
theorem dig_sho : ∀ i j k : Fin 9, shoB (cpD (.list [.int (i.val : Int), .int (j.val : Int), .int (k.val : Int)])) = true := by decide +kernel
theorem isVal_sho {d : PyData} (h : IsVal d) : Sho (cpD d) ∧ (cpD d).depth ≤ 5 ∧ (cpD d).shown.length ≤ 40 := by
  rcases h with h | ⟨i, j, k, rfl⟩
  · exact sho_of (v14_sho d h)
  · exact sho_of (dig_sho i j k)
end Kc

namespace Kc
open PySem PySem.Spec PyProof.Rows L2 KcE KcR
abbrev sLawCopy : Stmt := topS 42
abbrev sValue : Stmt := topS 41
theorem scLawCopy : FnScope ["value"] ["value"] (defScope sLawCopy) := ⟨rfl, rfl, rfl, by decide +kernel, rfl, by decide +kernel, by decide +kernel⟩
theorem scValue : FnScope ["pen", "some", "k"] ["pen"] (defScope sValue) := ⟨rfl, rfl, rfl, by decide +kernel, rfl, by decide +kernel, by decide +kernel⟩
/-- a value of the law's: a list of its own, or none -/
inductive Val (H : Hp) : V → PyData → Prop
  | lst {a : Addr} {xs : List V} {ds : List PyData} (e : H a = some (.lst xs)) (t : DgAll (less a H) xs ds) : Val H (.ref a) (.list ds)
  | oth {v : V} {d : PyData} (n : Nl H v) (h : Dg H v d) : Val H v d
theorem fx_ex {H H' : Hp} (e : Ex H H') : Fx H H' := fun b => ⟨fun xs h => e b _ h, fun xs h => e b _ h, fun h => e b _ h⟩
theorem Val.ex {H H' : Hp} {v : V} {d : PyData} (k : Ex H H') (h : Val H v d) : Val H' v d := by
  cases h with
  | lst e t => exact .lst (k _ _ e) (DgAll.fx (fx_ex (less_mono k)) _ _ t)
  | oth n h => exact .oth (n.ex k) (Dg.fx (fx_ex k) _ _ h)
theorem penKV_ne {c : Addr} {p : Pen} : penKV c p ≠ kA := fun z => by
  have := congrArg List.length z
  simp [penKV] at this
theorem Val.less {K : PySem.W.Frag} {H : Hp} {a c : Addr} {p : Pen} {v : V} {d : PyData} (hp : PenAt K H a c p) (h : Val H v d) : Val (Kc.less a H) v d := by
  have n : ∀ {b o}, H b = some o → o ≠ .dK (penKV c p) → b ≠ a := fun {b o} e h z => by
    rw [z, hp.1] at e
    exact h (Option.some.inj e).symm
  have f : ∀ (G : Hp), (∀ b o, G b = some o → H b = some o) → Fx G (Kc.less a G) := fun G hg b =>
    ⟨fun xs e => less_of (n (hg _ _ e) (fun z => nomatch z)) e, fun xs e => less_of (n (hg _ _ e) (fun z => nomatch z)) e, fun e => less_of (n (hg _ _ e) (fun z => penKV_ne (HO.dK.inj z).symm)) e⟩
  cases h with
  | @lst b xs ds e t =>
    refine .lst (less_of (n e fun z => nomatch z) e) ?_
    have c : Kc.less b (Kc.less a H) = Kc.less a (Kc.less b H) := by
      funext x
      unfold Kc.less
      split <;> split <;> rfl
    rw [c]
    exact DgAll.fx (f _ less_ex) _ _ t
  | oth m h =>
    refine .oth ?_ (Dg.fx (f H fun _ _ z => z) _ _ h)
    cases m with
    | non => exact .non
    | bl b => exact .bl b
    | int b => exact .int b
    | str b => exact .str b
    | tup e => exact .tup (less_of (n e fun z => nomatch z) e)
    | dK e =>
      cases h with
      | lst e2 _ => rw [e] at e2; cases e2
      | tup e2 _ => rw [e] at e2; cases e2
      | dk e2 => exact .dK (less_of (n e2 fun z => penKV_ne (HO.dK.inj z).symm) e2)
theorem Val.vl {H : Hp} {v : V} {d : PyData} (h : Val H v d) : Vl H v := by
  cases h with
  | lst e t => exact .lst e
  | oth n h => exact .oth n
/-- copied of it, told -/
theorem Val.cp {H : Hp} {v c : V} {d : PyData} (h : Val H v d) (k : Cp H v c) : Dg H c (cpD d) := by
  cases h with
  | lst e t =>
    cases k with
    | lst e1 e2 =>
      rw [e] at e1
      cases e1
      exact .tup e2 (DgAll.fx (fx_ex less_ex) _ _ t)
    | oth n =>
      cases n with
      | tup e1 => rw [e] at e1; cases e1
      | dK e1 => rw [e] at e1; cases e1
  | oth n h =>
    have nl : cpD d = d := by
      cases h with
      | lst e t =>
        cases n with
        | tup e1 => rw [e] at e1; cases e1
        | dK e1 => rw [e] at e1; cases e1
      | _ => rfl
    rw [nl]
    cases k with
    | lst e1 e2 =>
      cases n with
      | tup e3 => rw [e1] at e3; cases e3
      | dK e3 => rw [e1] at e3; cases e3
    | oth _ => exact h
/-- the new list of the same items -/
theorem Val.list {H : Hp} {a l : Addr} {xs : List V} {d : PyData} (h : Val H (.ref a) d) (e : H a = some (.lst xs)) (hl : H l = none) : Val (upd H l (.lst xs)) (.ref l) d := by
  cases h with
  | lst e1 t =>
    rw [e] at e1
    cases e1
    have k : Ex (Kc.less a H) (Kc.less l (upd H l (.lst xs))) := fun b o z => by
      have z := less_ex b o z
      have nb : b ≠ l := ne_of_none z hl
      exact less_of nb (by rw [upd_ne nb]; exact z)
    exact .lst upd_same (DgAll.fx (fx_ex k) _ _ t)
  | oth n h =>
    cases n with
    | tup e1 => rw [e] at e1; cases e1
    | dK e1 => rw [e] at e1; cases e1
/-- what is new since H -/
def fresh (H H' : Hp) : Hp := fun b => match H b with
  | none => H' b
  | some _ => none
theorem fresh_of {H H' : Hp} {b : Addr} {o : HO} (n : H b = none) (e : H' b = some o) : fresh H H' b = some o := by
  unfold fresh
  rw [n]
  exact e
theorem fresh_in {H H' : Hp} {b : Addr} {o : HO} (e : fresh H H' b = some o) : H b = none ∧ H' b = some o := by
  unfold fresh at e
  cases q : H b with
  | none => rw [q] at e; exact ⟨rfl, e⟩
  | some u => rw [q] at e; cases e
theorem fresh_ex {H H1 H2 : Hp} (e : Ex H1 H2) : Ex (fresh H H1) (fresh H H2) := fun b o z => fresh_of (fresh_in z).1 (e _ _ (fresh_in z).2)
theorem fresh_less {H H1 H2 : Hp} {a : Addr} (ha : H a ≠ none) (e : Ex (Kc.less a H1) (Kc.less a H2)) : Ex (fresh H H1) (fresh H H2) := fun b o z => by
  obtain ⟨h1, h2⟩ := fresh_in z
  exact fresh_of h1 (less_ex _ _ (e b o (less_of (fun q => ha (q ▸ h1)) h2)))
theorem fresh_to {H H' : Hp} {a : Addr} (ha : H a ≠ none) : Ex (fresh H H') (Kc.less a H') := fun b o z => less_of (fun q => ha (q ▸ (fresh_in z).1)) (fresh_in z).2
theorem ex_none {H H' : Hp} {b : Addr} (e : Ex H H') (n : H' b = none) : H b = none := by
  cases q : H b with
  | none => rfl
  | some o => rw [e _ _ q] at n; cases n
/-- _law_value(pen) -/
def spValue (K : PySem.W.Frag) : Sp := fun vs H Q _ => ∃ (a c : Addr) (p : Pen) (m : Nat), vs = [.ref a] ∧ PenAt K H a c p ∧ PenOk (m + 4) p ∧
  ∀ H' p' v d, Ex (less a H) (less a H') → PenAt K H' a c p' → PenOk m p' → IsVal d → Val (fresh H H') v d → Q v H'
theorem PenAt.ex {K : PySem.W.Frag} {H H' : Hp} {a c : Addr} {p : Pen} (e : Ex H H') (h : PenAt K H a c p) : PenAt K H' a c p := ⟨e _ _ h.1, e _ _ h.2.1, h.2.2⟩
theorem PenOk.le {m n : Nat} {p : Pen} (h : PenOk n p) (l : m ≤ n) : PenOk m p := { h with c1 := by have := h.c1; omega }
theorem less_upd_ne {a b D : Addr} {H : Hp} {o : HO} (n : b ≠ D) : less a (upd H D o) b = less a H b := by
  unfold less
  split
  · rfl
  · exact upd_ne n
theorem ex_put {a D : Addr} {G H : Hp} {o : HO} (e : Ex (less a G) (less a H)) (n : G D = none) : Ex (less a G) (less a (upd H D o)) := fun b u z => (less_upd_ne (ne_of_none (less_ex b u z) n)).trans (e b u z)
theorem keep_less {a : Addr} {H H' : Hp} (k : Keep a H H') : Ex (less a H) (less a H') := fun b o e => by
  unfold less at e ⊢
  split at e
  · cases e
  · rename_i n
    rw [if_neg n]
    exact k b o n e
section
variable {P : Program} {w : World} {K : PySem.W.Frag} {mg : Str → Option Value} {base : Heap}
theorem ok_lawcopy {f : Addr} {fd : FuncData} (F : Fun K "_law_copy" "_law_copy" sLawCopy f fd) (ms : mg "isinstance" = none) (mls : mg "list" = none) (mt : mg "tuple" = none) : FnOk P w K mg base CX0 1 f fd ["value"] spCopied := by
  refine F.ok scLawCopy (fun vs H Q E h => ?_) (fun cdv A outer s H vs Q E hr h => ?_)
  · obtain ⟨v, rfl, _⟩ := h
    rfl
  · obtain ⟨v, rfl, hv, q⟩ := h
    refine ⟨_, pss_one (ps_ret (pe_ifExp (pt_val (pe_callB call_isi (by rfl) ms PyProof.Rows.boot_isinstance (pa_cons (pv 0) (pa_cons (pe_bltn (v := .ty "list") (by rfl) mls PyProof.Rows.boot_list rfl) pa_nil)))) (pe_callTy call_tuple_of (by rfl) mt PyProof.Rows.boot_tuple (pa_cons (pv 0) pa_nil)) (pv 0))), ?_⟩
    refine ⟨v, rfl, ?_⟩
    simp only [tCons, tC, tNil]
    show rIsi K _ H _
    refine isi_list hv (fun a xs e ha => ?_) (fun n => ?_)
    · subst e
      refine ⟨true, rfl, iteT ⟨_, rfl, a, xs, rfl, .inl ⟨.inl (.inl ha), fun l hl => ?_⟩⟩⟩
      exact q _ _ (Ex.refl.laid hl) (.lst (Ex.refl.laid hl _ _ ha) upd_same)
    · exact ⟨false, rfl, iteF ⟨_, rfl, q _ _ .refl (.oth n)⟩⟩
theorem ok_value {f fP fD : Addr} {fd fdP fdD : FuncData} (F : Fun K "_law_value" "_law_value" sValue f fd) (FP : Fun K "_law_pick" "_law_pick" sPick fP fdP) (bP : Binds K fdP ["pen", "some"] []) (gP : mg "_law_pick" = some (.ref fP))
    (FD : Fun K "_law_draw" "_law_draw" sDraw fD fdD) (bD : Binds K fdD ["pen", "many"] []) (gD : mg "_law_draw" = some (.ref fD)) (ml : mg "len" = none) (mi : mg "int" = none) (mr : mg "range" = none) : FnOk P w K mg base CX0 3 f fd ["pen"] (spValue K) := by
  have GD : FnOk P w K mg base CX0 1 fD fdD ["pen", "many"] (spDraw K) := ok_draw FD ml mi
  have GP : FnOk P w K mg base CX0 2 fP fdP ["pen", "some"] (spPick K) := ok_pick FP FD bD gD ml mi
  refine F.ok scValue (fun vs H Q E h => ?_) (fun cdv A outer s H vs Q E hr h => ?_)
  · obtain ⟨a, c, p, m, rfl, _⟩ := h
    rfl
  · obtain ⟨a, c, p, m, rfl, hp, ok, q⟩ := h
    have hu := hu_of hr
    refine ⟨_, pss_cons (ps_set (i := 1) scValue.nd rfl (.inl rfl) (pe_lst (pa_cons (pe_tup (pa_cons pe_int (pa_cons pe_int pa_nil))) (pa_cons (pe_lst (pa_cons pe_int (pa_cons (pe_lst (pa_cons pe_int pa_nil)) pa_nil))) (pa_cons (pe_lst pa_nil) (pa_cons (pe_tup pa_nil) (pa_cons pe_str (pa_cons pe_int (pa_cons pe_non (pa_cons pe_bl (pa_cons (pe_tup (pa_cons (pe_tup (pa_cons pe_int (pa_cons pe_int pa_nil))) pa_nil)) (pa_cons (pe_lst (pa_cons (pe_lst (pa_cons pe_int pa_nil)) (pa_cons (pe_lst (pa_cons pe_int pa_nil)) pa_nil))) (pa_cons (pe_disp (pps_cons pe_str pe_int pps_nil) rfl rfl (by decide) (by decide)) (pa_cons (pe_un un_neg pe_int) (pa_cons pe_str (pa_cons (pe_lst (pa_cons pe_non pa_nil)) pa_nil))))))))))))))))
      (pss_one (ps_ret (pe_call GP hr (by rfl) gP FP.kp bP .nil pass0 (pa_cons (pv 0) (pa_cons (pe_op op_cat (pv 1) (pe_lst (pa_cons (pe_lc (own := [("k", 2)]) (g := gName 2) (tt := tYes) rfl scValue.nd (pi_range1 (by rfl) mr (pa_cons pe_int pa_nil)) (blkOk_by (N := ["pen", "some", "k"]) (sc := defScope sValue) (by decide +kernel)) (fun _ _ _ _ _ => pg_name (i := 2) scValue.nd rfl (Or.inl rfl)) (fun _ _ _ _ _ => pts_nil)
        (fun _ _ _ _ _ => pe_call GD (hr.mono (by decide)) (by rfl) gD FD.kp bD .nil pass0 (pa_cons (pv 0) (pa_cons pe_int pa_nil)))) pa_nil))) pa_nil))))), ?_⟩
    refine ⟨(show 2 ≤ sizeLine by decide), fun p1 n1 => ?_⟩
    have x1 : Ex H (upd H p1 (.tup [.int 1, .int 2])) := Ex.refl.laid n1
    generalize h1 : upd H p1 (.tup [.int 1, .int 2]) = H1 at x1 ⊢
    have e1 : H1 p1 = some (.tup [.int 1, .int 2]) := h1 ▸ upd_same
    have b1 : Ex H H1 := Ex.refl.trans x1
    have f1 := fresh_of (ex_none Ex.refl n1) e1
    have g1 := fresh_ex (H := H) x1
    refine ⟨(show 1 ≤ sizeLine by decide), fun p2 n2 => ?_⟩
    have x2 : Ex H1 (upd H1 p2 (.lst [.int 2])) := Ex.refl.laid n2
    generalize h2 : upd H1 p2 (.lst [.int 2]) = H2 at x2 ⊢
    have e2 : H2 p2 = some (.lst [.int 2]) := h2 ▸ upd_same
    have b2 : Ex H H2 := b1.trans x2
    have f2 := fresh_of (ex_none b1 n2) e2
    have g2 := fresh_ex (H := H) x2
    refine ⟨(show 2 ≤ sizeLine by decide), fun p3 n3 => ?_⟩
    have x3 : Ex H2 (upd H2 p3 (.lst [.int 1, .ref p2])) := Ex.refl.laid n3
    generalize h3 : upd H2 p3 (.lst [.int 1, .ref p2]) = H3 at x3 ⊢
    have e3 : H3 p3 = some (.lst [.int 1, .ref p2]) := h3 ▸ upd_same
    have b3 : Ex H H3 := b2.trans x3
    have f3 := fresh_of (ex_none b2 n3) e3
    have g3 := fresh_ex (H := H) x3
    refine ⟨(show 0 ≤ sizeLine by decide), fun p4 n4 => ?_⟩
    have x4 : Ex H3 (upd H3 p4 (.lst [])) := Ex.refl.laid n4
    generalize h4 : upd H3 p4 (.lst []) = H4 at x4 ⊢
    have e4 : H4 p4 = some (.lst []) := h4 ▸ upd_same
    have b4 : Ex H H4 := b3.trans x4
    have f4 := fresh_of (ex_none b3 n4) e4
    have g4 := fresh_ex (H := H) x4
    refine ⟨(show 0 ≤ sizeLine by decide), fun p5 n5 => ?_⟩
    have x5 : Ex H4 (upd H4 p5 (.tup [])) := Ex.refl.laid n5
    generalize h5 : upd H4 p5 (.tup []) = H5 at x5 ⊢
    have e5 : H5 p5 = some (.tup []) := h5 ▸ upd_same
    have b5 : Ex H H5 := b4.trans x5
    have f5 := fresh_of (ex_none b4 n5) e5
    have g5 := fresh_ex (H := H) x5
    refine ⟨(show 2 ≤ sizeLine by decide), fun p6 n6 => ?_⟩
    have x6 : Ex H5 (upd H5 p6 (.tup [.int 0, .int 1])) := Ex.refl.laid n6
    generalize h6 : upd H5 p6 (.tup [.int 0, .int 1]) = H6 at x6 ⊢
    have e6 : H6 p6 = some (.tup [.int 0, .int 1]) := h6 ▸ upd_same
    have b6 : Ex H H6 := b5.trans x6
    have f6 := fresh_of (ex_none b5 n6) e6
    have g6 := fresh_ex (H := H) x6
    refine ⟨(show 1 ≤ sizeLine by decide), fun p7 n7 => ?_⟩
    have x7 : Ex H6 (upd H6 p7 (.tup [.ref p6])) := Ex.refl.laid n7
    generalize h7 : upd H6 p7 (.tup [.ref p6]) = H7 at x7 ⊢
    have e7 : H7 p7 = some (.tup [.ref p6]) := h7 ▸ upd_same
    have b7 : Ex H H7 := b6.trans x7
    have f7 := fresh_of (ex_none b6 n7) e7
    have g7 := fresh_ex (H := H) x7
    refine ⟨(show 1 ≤ sizeLine by decide), fun p8 n8 => ?_⟩
    have x8 : Ex H7 (upd H7 p8 (.lst [.int 0])) := Ex.refl.laid n8
    generalize h8 : upd H7 p8 (.lst [.int 0]) = H8 at x8 ⊢
    have e8 : H8 p8 = some (.lst [.int 0]) := h8 ▸ upd_same
    have b8 : Ex H H8 := b7.trans x8
    have f8 := fresh_of (ex_none b7 n8) e8
    have g8 := fresh_ex (H := H) x8
    refine ⟨(show 1 ≤ sizeLine by decide), fun p9 n9 => ?_⟩
    have x9 : Ex H8 (upd H8 p9 (.lst [.int 1])) := Ex.refl.laid n9
    generalize h9 : upd H8 p9 (.lst [.int 1]) = H9 at x9 ⊢
    have e9 : H9 p9 = some (.lst [.int 1]) := h9 ▸ upd_same
    have b9 : Ex H H9 := b8.trans x9
    have f9 := fresh_of (ex_none b8 n9) e9
    have g9 := fresh_ex (H := H) x9
    refine ⟨(show 2 ≤ sizeLine by decide), fun p10 n10 => ?_⟩
    have x10 : Ex H9 (upd H9 p10 (.lst [.ref p8, .ref p9])) := Ex.refl.laid n10
    generalize h10 : upd H9 p10 (.lst [.ref p8, .ref p9]) = H10 at x10 ⊢
    have e10 : H10 p10 = some (.lst [.ref p8, .ref p9]) := h10 ▸ upd_same
    have b10 : Ex H H10 := b9.trans x10
    have f10 := fresh_of (ex_none b9 n10) e10
    have g10 := fresh_ex (H := H) x10
    refine fun p11 n11 => ⟨upd_same, [(.inr ("a" : Str), .int 1)], rfl, (show (1 : Nat) ≤ 15 by decide), ?_⟩
    have x11 : Ex H10 (upd (upd H10 p11 (.dK [])) p11 (.dK kA)) := fun b o z => by have nb := ne_of_none z n11; rw [upd_ne nb, upd_ne nb]; exact z
    have em : mergeK [] [((.inr ("a" : Str) : Key), V.int 1)] = kA := rfl
    rw [em]
    generalize h11 : upd (upd H10 p11 (.dK [])) p11 (.dK kA) = H11 at x11 ⊢
    have e11 : H11 p11 = some (.dK kA) := h11 ▸ upd_same
    have b11 : Ex H H11 := b10.trans x11
    have f11 := fresh_of (ex_none b10 n11) e11
    have g11 := fresh_ex (H := H) x11
    refine ⟨3, rfl, ?_⟩
    refine ⟨(show 1 ≤ sizeLine by decide), fun p12 n12 => ?_⟩
    have x12 : Ex H11 (upd H11 p12 (.lst [.non])) := Ex.refl.laid n12
    generalize h12 : upd H11 p12 (.lst [.non]) = H12 at x12 ⊢
    have e12 : H12 p12 = some (.lst [.non]) := h12 ▸ upd_same
    have b12 : Ex H H12 := b11.trans x12
    have f12 := fresh_of (ex_none b11 n12) e12
    have g12 := fresh_ex (H := H) x12
    refine ⟨(show 14 ≤ sizeLine by decide), fun p13 n13 => ?_⟩
    have x13 : Ex H12 (upd H12 p13 (.lst [.ref p1, .ref p3, .ref p4, .ref p5, .str ("web" : Str), .int 5, .non, .bl true, .ref p7, .ref p10, .ref p11, .int (-3), .str ("" : Str), .ref p12])) := Ex.refl.laid n13
    generalize h13 : upd H12 p13 (.lst [.ref p1, .ref p3, .ref p4, .ref p5, .str ("web" : Str), .int 5, .non, .bl true, .ref p7, .ref p10, .ref p11, .int (-3), .str ("" : Str), .ref p12]) = H13 at x13 ⊢
    have e13 : H13 p13 = some (.lst [.ref p1, .ref p3, .ref p4, .ref p5, .str ("web" : Str), .int 5, .non, .bl true, .ref p7, .ref p10, .ref p11, .int (-3), .str ("" : Str), .ref p12]) := h13 ▸ upd_same
    have b13 : Ex H H13 := b12.trans x13
    have f13 := fresh_of (ex_none b12 n13) e13
    have g13 := fresh_ex (H := H) x13
    have y13 : Ex H13 H13 := Ex.refl
    have y12 : Ex H12 H13 := x13.trans y13
    have y11 : Ex H11 H13 := x12.trans y12
    have y10 : Ex H10 H13 := x11.trans y11
    have y9 : Ex H9 H13 := x10.trans y10
    have y8 : Ex H8 H13 := x9.trans y9
    have y7 : Ex H7 H13 := x8.trans y8
    have y6 : Ex H6 H13 := x7.trans y7
    have y5 : Ex H5 H13 := x6.trans y6
    have y4 : Ex H4 H13 := x5.trans y5
    have y3 : Ex H3 H13 := x4.trans y4
    have y2 : Ex H2 H13 := x3.trans y3
    have y1 : Ex H1 H13 := x2.trans y2
    have y0 : Ex H H13 := x1.trans y1
    have vs : ∀ x ∈ ([.ref p1, .ref p3, .ref p4, .ref p5, .str ("web" : Str), .int 5, .non, .bl true, .ref p7, .ref p10, .ref p11, .int (-3), .str ("" : Str), .ref p12] : List V), ∃ d, IsVal d ∧ Val (fresh H H13) x d := by
      intro x hx
      simp only [List.mem_cons, List.not_mem_nil, or_false] at hx
      rcases hx with rfl | rfl | rfl | rfl | rfl | rfl | rfl | rfl | rfl | rfl | rfl | rfl | rfl | rfl
      · exact ⟨.tuple [.int 1, .int 2], (.inl (List.mem_of_getElem? (i := 0) rfl)), (show Val (fresh H H1) (.ref p1) (.tuple [.int 1, .int 2]) from .oth (.tup f1) (.tup f1 (.cons (.int 1) (.cons (.int 2) .nil)))).ex (fresh_ex y1)⟩
      · exact ⟨.list [.int 1, .list [.int 2]], (.inl (List.mem_of_getElem? (i := 1) rfl)), (show Val (fresh H H3) (.ref p3) (.list [.int 1, .list [.int 2]]) from .lst f3 (.cons (.int 1) (.cons (.lst (less_of (ne_of_none e2 n3) (g3 _ _ f2)) (.cons (.int 2) .nil)) .nil))).ex (fresh_ex y3)⟩
      · exact ⟨.list [], (.inl (List.mem_of_getElem? (i := 2) rfl)), (show Val (fresh H H4) (.ref p4) (.list []) from .lst f4 .nil).ex (fresh_ex y4)⟩
      · exact ⟨.tuple [], (.inl (List.mem_of_getElem? (i := 3) rfl)), (show Val (fresh H H5) (.ref p5) (.tuple []) from .oth (.tup f5) (.tup f5 .nil)).ex (fresh_ex y5)⟩
      · exact ⟨.str ("web" : Str), (.inl (List.mem_of_getElem? (i := 4) rfl)), (show Val (fresh H H13) (.str ("web" : Str)) (.str ("web" : Str)) from .oth (.str _) (.str _)).ex (fresh_ex y13)⟩
      · exact ⟨.int 5, (.inl (List.mem_of_getElem? (i := 5) rfl)), (show Val (fresh H H13) (.int 5) (.int 5) from .oth (.int _) (.int _)).ex (fresh_ex y13)⟩
      · exact ⟨.none, (.inl (List.mem_of_getElem? (i := 6) rfl)), (show Val (fresh H H13) (.non) (.none) from .oth .non .non).ex (fresh_ex y13)⟩
      · exact ⟨.bool true, (.inl (List.mem_of_getElem? (i := 7) rfl)), (show Val (fresh H H13) (.bl true) (.bool true) from .oth (.bl _) (.bl _)).ex (fresh_ex y13)⟩
      · exact ⟨.tuple [.tuple [.int 0, .int 1]], (.inl (List.mem_of_getElem? (i := 8) rfl)), (show Val (fresh H H7) (.ref p7) (.tuple [.tuple [.int 0, .int 1]]) from .oth (.tup f7) (.tup f7 (.cons (.tup (g7 _ _ f6) (.cons (.int 0) (.cons (.int 1) .nil))) .nil))).ex (fresh_ex y7)⟩
      · exact ⟨.list [.list [.int 0], .list [.int 1]], (.inl (List.mem_of_getElem? (i := 9) rfl)), (show Val (fresh H H10) (.ref p10) (.list [.list [.int 0], .list [.int 1]]) from .lst f10 (.cons (.lst (less_of (ne_of_none (x9 _ _ e8) n10) (g10 _ _ (g9 _ _ f8))) (.cons (.int 0) .nil)) (.cons (.lst (less_of (ne_of_none e9 n10) (g10 _ _ f9)) (.cons (.int 1) .nil)) .nil))).ex (fresh_ex y10)⟩
      · exact ⟨.dict [(.str ("a" : Str), .int 1)], (.inl (List.mem_of_getElem? (i := 10) rfl)), (show Val (fresh H H11) (.ref p11) (.dict [(.str ("a" : Str), .int 1)]) from .oth (.dK f11) (.dk f11)).ex (fresh_ex y11)⟩
      · exact ⟨.int (-3), (.inl (List.mem_of_getElem? (i := 11) rfl)), (show Val (fresh H H13) (.int (-3)) (.int (-3)) from .oth (.int _) (.int _)).ex (fresh_ex y13)⟩
      · exact ⟨.str ("" : Str), (.inl (List.mem_of_getElem? (i := 12) rfl)), (show Val (fresh H H13) (.str ("" : Str)) (.str ("" : Str)) from .oth (.str _) (.str _)).ex (fresh_ex y13)⟩
      · exact ⟨.list [.none], (.inl (List.mem_of_getElem? (i := 13) rfl)), (show Val (fresh H H12) (.ref p12) (.list [.none]) from .lst f12 (.cons .non .nil)).ex (fresh_ex y12)⟩
    have hpE : PenAt K H13 a c p := hp.ex y0
    have eL := e13
    have haN : H a ≠ none := fun z => by rw [hp.1] at z; cases z
    have vsE := vs
    have yE := y0
    generalize hall : ([.ref p1, .ref p3, .ref p4, .ref p5, .str ("web" : Str), .int 5, .non, .bl true, .ref p7, .ref p10, .ref p11, .int (-3), .str ("" : Str), .ref p12] : List V) = all at eL vsE
    have lenE : all.length = 14 := hall ▸ rfl
    generalize H13 = G at hpE eL vsE yE ⊢
    generalize p13 = pL at eL ⊢
    clear vs hall
    have pLa : pL ≠ a := fun z => by
      have := hpE.1
      rw [← z, eL] at this
      cases this
    refine ⟨.ref a, rfl, .ref pL, rfl, 3, rfl, by decide, by decide, fun D nD => lc_range (lo := 0) (n := 3) (fun i H' => ∃ p1 acc, Ex (less a G) (less a H') ∧ PenAt K H' a c p1 ∧ PenOk (m + 1 + (3 - i)) p1 ∧ H' D = some (.lst acc) ∧ acc.length = i ∧ ∀ x ∈ acc, ∃ k : Fin 9, x = .int (k.val : Int)) ?_ ?_ ?_⟩
    · have x : Ex G (upd G D (.lst [])) := Ex.refl.laid nD
      exact ⟨p, [], less_mono x, hpE.ex x, ok, upd_same, rfl, fun _ z => nomatch z⟩
    · rintro i H' hi ⟨p1, acc, x1, hp1, ok1, hD, hl, ha⟩
      have Da : D ≠ a := ne_of_none hpE.1 nD |> Ne.symm
      have Dc : D ≠ c := ne_of_none hpE.2.1 nD |> Ne.symm
      refine ⟨rfl, ?_⟩
      refine ⟨.ref a, rfl, a, c, p1, m + 1 + (3 - (i + 1)), 9, rfl, hp1, ok1.le (by omega), ⟨by decide, by decide⟩, fun H2 p2 d kp hp2 ok2 d0 d1 => ⟨acc, kp _ _ Da hD, by rw [hl, sizeLine_eq]; omega, p2, acc ++ [.int d], ?_, ?_, ok2, upd_same, by rw [List.length_append, hl]; rfl, fun x hx => ?_⟩⟩
      · exact ex_put (x1.trans (keep_less kp)) nD
      · exact ⟨by rw [upd_ne (Ne.symm Da)]; exact hp2.1, by rw [upd_ne (Ne.symm Dc)]; exact hp2.2.1, hp2.2.2⟩
      · rcases List.mem_append.mp hx with hx | hx
        · exact ha x hx
        · rw [List.mem_singleton.mp hx]
          exact ⟨⟨d.toNat, by omega⟩, congrArg V.int (Int.toNat_of_nonneg d0).symm⟩
    · rintro H' ⟨p1, acc, x1, hp1, ok1, hD, hl, ha⟩
      refine ⟨by show 1 ≤ sizeLine; decide, fun pM nM => ?_⟩
      have Da : D ≠ a := Ne.symm (ne_of_none hpE.1 nD)
      have lD : pL ≠ D := ne_of_none eL nD
      have gL : H' pL = some (.lst all) := less_ex _ _ (x1 _ _ (less_of pLa eL))
      have xM : Ex H' (upd H' pM (.lst [.ref D])) := Ex.refl.laid nM
      refine ⟨pL, pM, _, _, rfl, rfl, xM _ _ gL, upd_same, by rw [lenE, sizeLine_eq]; exact (show 14 + 1 ≤ 16777216 by decide), fun pN nN => ?_⟩
      have xN : Ex H' (upd (upd H' pM (.lst [.ref D])) pN (.lst (all ++ [.ref D]))) := xM.laid nN
      refine ⟨a, c, pN, p1, m, all ++ [.ref D], rfl, hp1.ex xN, ok1.le (by omega), upd_same, by rw [List.length_append, lenE]; exact (show 0 < 14 + 1 by decide), by rw [List.length_append, lenE]; exact (show 14 + 1 < 1073741824 by decide), fun H2 p2 x hx kp hp2 ok2 => ?_⟩
      have xx : Ex (less a H') (less a H2) := (less_mono xN).trans (keep_less kp)
      rcases List.mem_append.mp hx with hx | hx
      · obtain ⟨d, h1, h2⟩ := vsE x hx
        exact q H2 p2 x d ((less_mono yE).trans (x1.trans xx)) hp2 ok2 h1 (h2.ex (fresh_less haN (x1.trans xx)))
      · rw [List.mem_singleton.mp hx]
        match acc, hl with
        | [u1, u2, u3], _ =>
        obtain ⟨k1, rfl⟩ := ha u1 List.mem_cons_self
        obtain ⟨k2, rfl⟩ := ha u2 (List.mem_cons_of_mem _ List.mem_cons_self)
        obtain ⟨k3, rfl⟩ := ha u3 (List.mem_cons_of_mem _ (List.mem_cons_of_mem _ List.mem_cons_self))
        exact q H2 p2 _ _ ((less_mono yE).trans (x1.trans xx)) hp2 ok2 (.inr ⟨k1, k2, k3, rfl⟩) (.lst (fresh_of (ex_none yE nD) (less_ex _ _ (xx _ _ (less_of Da hD)))) (.cons (.int _) (.cons (.int _) (.cons (.int _) .nil))))
end
end Kc

namespace Kc
open PySem PySem.Spec PyProof.Rows L2 KcE KcR
abbrev sLaw : Stmt := topS 43
abbrev lN : List Str := ["script", "pen", "k", "values", "a", "b", "c", "d", "rows", "more", "one", "two", "kind", "first", "second", "handed", "due", "other", "kept", "before", "value"]
theorem scLaw : FnScope lN ["script"] (defScope sLaw) := ⟨rfl, rfl, rfl, by decide +kernel, rfl, by decide +kernel, by decide +kernel⟩
/-- == and != of two instances -/
def rEqI (K : PySem.W.Frag) : R2 := fun x y H Q => ∃ (a b C D dx dy : Addr) (fs gs : List (Str × V)), x = .ref a ∧ y = .ref b ∧ H a = some (.ins C dx fs) ∧ H b = some (.ins D dy gs) ∧ EqC K C ∧ EqC K D ∧ Q (.bl (decide (a = b))) H
def rNeI (K : PySem.W.Frag) : R2 := fun x y H Q => ∃ (a b C D dx dy : Addr) (fs gs : List (Str × V)), x = .ref a ∧ y = .ref b ∧ H a = some (.ins C dx fs) ∧ H b = some (.ins D dy gs) ∧ EqC K C ∧ EqC K D ∧ a ≠ b ∧ Q (.bl true) H
section
variable {X : Cx}
theorem op_eqI (hu : X.A.units + 1 < cLine) : OpR X (compareOp .Eq) (rEqI X.K) := by
  intro pins s σ H x y v u Q I rx ry h
  obtain ⟨a, b, C, D, dx, dy, fs, gs, rfl, rfl, ha, hb, ec, ed, q⟩ := h
  cases (show v = Value.ref a from rx)
  cases (show u = Value.ref b from ry)
  obtain ⟨m1, O1, _⟩ := ins_get I.hok ha
  obtain ⟨od, J1, _⟩ := O1.look
  obtain ⟨m2, O2, _⟩ := ins_get I.hok hb
  obtain ⟨oe, J2, _⟩ := O2.look
  show wpAny _ _ (richCompare .Eq (.ref a) (.ref b)) _ _ _
  by_cases hab : a = b
  · subst hab
    rw [decide_eq_true rfl] at q
    exact rc_eq_same I.kIn J1 ec (Nat.lt_of_succ_lt hu) ⟨.bl true, H, I, rfl, q⟩
  · rw [decide_eq_false hab] at q
    exact rc_eq_other I.kIn J1 J2 ec ed hab (Nat.lt_of_succ_lt hu) ⟨.bl false, H, I, rfl, q⟩
theorem op_neI (hu : X.A.units + 1 < cLine) : OpR X (compareOp .NotEq) (rNeI X.K) := by
  intro pins s σ H x y v u Q I rx ry h
  obtain ⟨a, b, C, D, dx, dy, fs, gs, rfl, rfl, ha, hb, ec, ed, hab, q⟩ := h
  cases (show v = Value.ref a from rx)
  cases (show u = Value.ref b from ry)
  obtain ⟨m1, O1, _⟩ := ins_get I.hok ha
  obtain ⟨od, J1, _⟩ := O1.look
  obtain ⟨m2, O2, _⟩ := ins_get I.hok hb
  obtain ⟨oe, J2, _⟩ := O2.look
  show wpAny _ _ (richCompare .NotEq (.ref a) (.ref b)) _ _ _
  exact rc_ne_other I.kIn J1 J2 ec ed hab hu ⟨.bl true, H, I, rfl, q⟩
end
/-! ### texts of rows -/
inductive VA (H : Hp) : List V → List PyData → Prop
  | nil : VA H [] []
  | cons {v : V} {d : PyData} {vs : List V} {ds : List PyData} (i : IsVal d) (h : Val H v d) (t : VA H vs ds) : VA H (v :: vs) (d :: ds)
theorem VA.of {H : Hp} : ∀ {vs : List V}, (∀ v ∈ vs, ∃ d, IsVal d ∧ Val H v d) → ∃ ds, VA H vs ds
  | [], _ => ⟨[], .nil⟩
  | v :: vs, h => by
    obtain ⟨d, h1, h2⟩ := h v List.mem_cons_self
    obtain ⟨ds, h3⟩ := VA.of (vs := vs) fun x hx => h x (List.mem_cons_of_mem _ hx)
    exact ⟨d :: ds, .cons h1 h2 h3⟩
theorem VA.len {H : Hp} : ∀ {vs : List V} {ds : List PyData}, VA H vs ds → vs.length = ds.length
  | _, _, .nil => rfl
  | _, _, .cons _ _ t => congrArg Nat.succ t.len
theorem VA.ex {H H' : Hp} (e : Ex H H') : ∀ {vs : List V} {ds : List PyData}, VA H vs ds → VA H' vs ds
  | _, _, .nil => .nil
  | _, _, .cons i h t => .cons i (h.ex e) (VA.ex e t)
theorem VA.cps {H : Hp} : ∀ {vs cs : List V} {ds : List PyData}, VA H vs ds → Cps H vs cs → DgAll H cs (ds.map cpD)
  | _, _, _, .nil, .nil => .nil
  | _, _, _, .cons _ h t, .cons k r => .cons (h.cp k) (VA.cps t r)
theorem VA.sho {H : Hp} : ∀ {vs : List V} {ds : List PyData}, VA H vs ds → ∀ d ∈ ds.map cpD, Sho d ∧ d.depth ≤ 5 ∧ d.shown.length ≤ 40
  | _, _, .nil, _, h => nomatch h
  | _, _, .cons i _ t, d, h => by
    rcases List.mem_cons.mp h with h | h
    · rw [h]; exact isVal_sho i
    · exact t.sho d h
theorem text_len : ∀ (ts : List Str) (k : Nat) (acc : Str), (∀ t ∈ ts, t.length ≤ 40) → (textFrom k acc ts).length ≤ acc.length + 42 * ts.length
  | [], _, acc, _ => by
    show acc.length ≤ _
    omega
  | t :: ts, k, acc, h => by
    have ih := text_len ts (k + 1) (acc ++ (if k > 0 then ", " else "" : String) ++ t) fun x hx => h x (List.mem_cons_of_mem _ hx)
    have ht := h t List.mem_cons_self
    have e : (acc ++ (if k > 0 then ", " else "" : String) ++ t).length = acc.length + (if k > 0 then 2 else 0) + t.length := by
      rw [strLen_append, strLen_append]
      split <;> rfl
    have c2 : (if k > 0 then 2 else 0) ≤ 2 := by split <;> decide
    rw [List.length_cons]
    refine Nat.le_trans ih ?_
    rw [e]
    omega
theorem shownAll_map : ∀ ds : List PyData, PyData.shownAll ds = ds.map PyData.shown
  | [] => by simp only [PyData.shownAll, List.map_nil]
  | d :: ds => by simp only [PyData.shownAll, List.map_cons, shownAll_map ds]
theorem depthAll_le : ∀ ds : List PyData, (∀ d ∈ ds, d.depth ≤ 5) → PyData.depthAll ds ≤ 5
  | [], _ => by simp only [PyData.depthAll]; omega
  | d :: ds, h => by
    simp only [PyData.depthAll]
    exact Nat.max_le.mpr ⟨h d List.mem_cons_self, depthAll_le ds fun x hx => h x (List.mem_cons_of_mem _ hx)⟩
/-- repr of the list of copies -/
theorem repr_go {H : Hp} {l : Addr} {vs cs : List V} {ds : List PyData} {Q : VK} (va : VA H vs ds) (cp : Cps H vs cs) (hl : H l = some (.lst cs)) (hne : vs ≠ []) (h4 : vs.length ≤ 4) (q : Q (.str (listText (PyData.shownAll (ds.map cpD)))) H) : rReprL [.ref l] H Q := by
  have sh := va.sho
  have len := va.len
  refine ⟨l, cs, ds.map cpD, rfl, hl, fun z => ?_, va.cps cp, fun d hd => (sh d hd).1, line_le ?_, Nat.le_trans (depthAll_le _ fun d hd => (sh d hd).2.1) (by decide), q⟩
  · have := congrArg List.length z
    rw [List.length_map, ← len] at this
    exact hne (List.length_eq_zero_iff.mp this)
  · unfold listText
    rw [strLen_append]
    have := text_len (PyData.shownAll (ds.map cpD)) 0 "[" fun t ht => by
      rw [shownAll_map] at ht
      obtain ⟨d, hd, rfl⟩ := List.mem_map.mp ht
      exact (sh d hd).2.2
    have e1 : (PyData.shownAll (ds.map cpD)).length = vs.length := by rw [shownAll_map, List.length_map, List.length_map, len]
    rw [e1] at this
    have e2 : ((("[" : String) : Str)).length = 1 := rfl
    have e3 : ((("]" : String) : Str)).length = 1 := rfl
    rw [e2] at this
    show _ + ((("]" : String) : Str)).length ≤ _
    rw [e3]
    omega
end Kc

namespace Kc
open PySem PySem.Spec PyProof.Rows L2 KcE KcR
theorem v14_len : ∀ d ∈ V14, (match d with | .list ds => decide (ds.length ≤ 3) | _ => true) = true := by decide +kernel
theorem isVal_len {ds : List PyData} (h : IsVal (.list ds)) : ds.length ≤ 3 := by
  rcases h with h | ⟨i, j, k, e⟩
  · exact of_decide_eq_true (v14_len _ h)
  · cases e
    exact Nat.le_refl _
theorem dgAll_len {H : Hp} : ∀ {vs : List V} {ds : List PyData}, DgAll H vs ds → vs.length = ds.length
  | _, _, .nil => rfl
  | _, _, .cons _ t => congrArg Nat.succ (dgAll_len t)
section
variable {P : Program} {w : World} {K : PySem.W.Frag} {mg : Str → Option Value} {base : Heap} {f : Addr} {cdv : Value} {A : Around} {outer : List Env} {s : Shared} {H : Hp} {E : XK} {Q : VK}
/-- what stands behind the loops -/
theorem partC {CL fL : Addr} {dL : FuncData} (TL : CI K mg "Leads" "Leads.__init__" iLeads ["steps"] CL fL dL) {fC : Addr} {fdC : FuncData} (TC : Com K mg fC fdC) (ml : mg "len" = none) (mrp : mg "repr" = none)
    (hr : Room 4 (A.deeper (envOfC "law" (defScope sLaw) s.heap.objs.size f cdv))) (hg : (A.deeper (envOfC "law" (defScope sLaw) s.heap.objs.size f cdv)).guards = some []) (q : ∀ H', Q (.bl true) H') :
    ∃ tr, PSs (cxOf CX0 P w K mg base lN "law" (defScope sLaw) f cdv A outer s H E).nox ((defBody sLaw).drop 7) tr ∧ ∀ (y0 y1 y2 y4 y5 y6 y7 y9 y10 y11 y12 y13 y14 y15 y16 y17 y18 y19 y20 : Option V) (VL R : Addr) (v0 : V) (vr rv : List V) (d0 : PyData) (H' : Hp), H' VL = some (.lst (v0 :: vr)) → Val H' v0 d0 → IsVal d0 → H' R = some (.lst rv) → rv.length = 22 → v0 ≠ .ref R →
      tr { nx := fun _ H' => Q .non H', rt := Q } [y0, y1, y2, some (.ref VL), y4, y5, y6, y7, some (.ref R), y9, y10, y11, y12, y13, y14, y15, y16, y17, y18, y19, y20] H' := by
  have hu64 : (A.deeper (envOfC "law" (defScope sLaw) s.heap.objs.size f cdv)).units + 64 < cLine := by have := hr.un; omega
  refine ⟨_, pss_cons (ps_set (i := 18) scLaw.nd rfl (.inl rfl) (pe_make TL.k.mak (okLeads TL.F TC) (hr.mono (by decide)) (by rfl) TL.k.g TL.b .nil pass0 (pa_cons (pe_ix ix_list (pv 3) pe_int (fun _ _ => rfl)) pa_nil)))
    (pss_cons (ps_set (i := 19) scLaw.nd rfl (.inl rfl) (pe_callB (call_reprD hg hu64) (by rfl) mrp PyProof.Rows.boot_repr (pa_cons (pe_fld (pv 18) rfl) pa_nil)))
    (pss_cons (ps_if (pt_val (pe_callB call_isi (by rfl) TC.ms PyProof.Rows.boot_isinstance (pa_cons (pe_ix ix_list (pv 3) pe_int (fun _ _ => rfl)) (pa_cons (pe_bltn (v := .ty "list") (by rfl) TC.ml PyProof.Rows.boot_list rfl) pa_nil))))
      (pss_one (ps_expr (pe_bm PySem.F.plainAttrs_list PySem.F.slot_list_append PySem.F.type_list_append mt_append (pe_ix ix_list (pv 3) pe_int (fun _ _ => rfl)) (pa_cons pe_int pa_nil)))) pss_nil)
    (pss_one (ps_ret (pe_and (pe_cmpR op_eq (pe_callB (call_reprD hg hu64) (by rfl) mrp PyProof.Rows.boot_repr (pa_cons (pe_fld (pv 18) rfl) pa_nil)) (pv 19) (nomark _)) (pe_one (pe_cmpR op_eq (pe_callB call_len_seq (by rfl) ml PySem.boot_len (pa_cons (pv 8) pa_nil)) pe_int (nomark _)))))))), fun y0 y1 y2 y4 y5 y6 y7 y9 y10 y11 y12 y13 y14 y15 y16 y17 y18 y19 y20 VL R v0 vr rv d0 H0 hV hv iv hR h22 hne => ?_⟩
  refine ⟨.ref VL, rfl, VL, _, 0, v0, rfl, rfl, .of hV, atI_nat (j := 0) rfl, ?_⟩
  show ∀ x dx, H0 x = none → H0 dx = none → dx ≠ x → spInit K ["steps"] (.ref x :: ([v0] ++ [])) _ _ _
  intro x dx hx hdx hnx
  rw [List.append_nil]
  refine init_go rfl (fun v h => by rw [List.mem_singleton.mp h]; exact hv.vl) TL.k.cl TL.na (fun H1 cs e1 hx1 cps1 => ⟨rfl, ?_⟩) hx hdx hnx
  cases cps1 with
  | @cons _ c0 _ _ cp tl =>
  cases tl
  have hv1 := hv.ex e1
  have dg1 := hv1.cp cp
  have look : ((["steps"] : List Str).zip [c0]).lookup ("steps" : Str) = some c0 := by simp [List.lookup]
  have sho := (isVal_sho iv).1
  have rx : R ≠ x := ne_of_none hR hx
  have vx : VL ≠ x := ne_of_none hV hx
  -- the end, in both cases
  have fin : ∀ (H3 : Hp), H3 x = some (.ins CL dx ((["steps"] : List Str).zip [c0])) → Dg H3 c0 (cpD d0) → H3 R = some (.lst rv) → (tRet (tAndV (tOp rEq (tCB rRepr (tCons (tFld K (tVar 18) "steps") tNil)) (tVar 19)) (tOp rEq (tCB (fun xs H Q => ∃ p ys, xs = [.ref p] ∧ (SqL K H p ys ∨ SqT K H p ys) ∧ Q (.int ys.length) H) (tCons (tVar 8) tNil)) (tC (.int 22))))) { nx := fun _ H' => Q .non H', rt := Q } [y0, y1, y2, some (.ref VL), y4, y5, y6, y7, some (.ref R), y9, y10, y11, y12, y13, y14, y15, y16, y17, some (.ref x), some (.str (cpD d0).shown), y20] H3 := by
    intro H3 h1 h2 h3
    refine ⟨.ref x, rfl, x, CL, dx, _, c0, rfl, h1, TL.k.cl, TL.na _ List.mem_cons_self, look, c0, cpD d0, rfl, h2, sho, .str (cpD d0).shown, rfl, rfl, true, congrArg V.bl (decide_eq_true rfl), iteT ?_⟩
    refine ⟨.ref R, rfl, R, rv, rfl, .inl (.of h3), rfl, ?_⟩
    have e : decide (V.int (rv.length : Nat) = V.int 22) = true := decide_eq_true (by rw [h22]; rfl)
    show Q (.bl (decide (V.int (rv.length : Nat) = V.int 22))) H3
    rw [e]
    exact q H3
  refine ⟨.ref x, rfl, x, CL, dx, _, c0, rfl, hx1, TL.k.cl, TL.na _ List.mem_cons_self, look, c0, cpD d0, rfl, dg1, sho, ?_⟩
  refine ⟨.ref VL, rfl, VL, _, 0, v0, rfl, rfl, .of (e1 _ _ hV), atI_nat (j := 0) rfl, ?_⟩
  simp only [tCons, tC, tNil]
  show rIsi K _ H1 _
  refine isi_list hv1.vl (fun b xs e hb => ⟨true, rfl, iteT ?_⟩) (fun n => ⟨false, rfl, iteF (fin H1 hx1 dg1 (e1 _ _ hR))⟩)
  subst e
  have bR : R ≠ b := fun z => hne (z ▸ rfl)
  have bx : x ≠ b := fun z => by rw [z, hb] at hx1; cases hx1
  cases hv1 with
  | oth n _ =>
    cases n with
    | tup e => rw [hb] at e; cases e
    | dK e => rw [hb] at e; cases e
  | @lst _ xs' ds e t =>
    rw [hb] at e
    cases e
    have l3 : xs.length ≤ 3 := by rw [dgAll_len t]; exact isVal_len iv
    refine ⟨.ref VL, rfl, VL, _, 0, .ref b, rfl, rfl, .of (e1 _ _ hV), atI_nat (j := 0) rfl, .inl ⟨rfl, _, .of hb⟩, b, xs, .int 7, rfl, rfl, hb, by rw [sizeLine_eq]; omega, ?_⟩
    refine fin _ (by rw [upd_ne bx]; exact hx1) ?_ (by rw [upd_ne bR]; exact e1 _ _ hR)
    cases cp with
    | lst c1 c2 =>
      rw [hb] at c1
      cases c1
      rename_i p
      have pb : p ≠ b := fun z => by rw [z, hb] at c2; cases c2
      have k : Ex (less b H1) (upd H1 b (.lst (xs ++ [.int 7]))) := fun y o z => by
        have ny : y ≠ b := fun z2 => by
          unfold less at z
          rw [if_pos z2] at z
          cases z
        rw [upd_ne ny]
        exact less_ex _ _ z
      exact .tup (by rw [upd_ne pb]; exact c2) (DgAll.fx (fx_ex k) _ _ t)
    | oth n =>
      cases n with
      | tup e => rw [hb] at e; cases e
      | dK e => rw [hb] at e; cases e
/-- what the second loop asks of a row -/
structure RowX (K : PySem.W.Frag) (H : Hp) (r : Row) : Prop where
  t : H r.t = some (.tup [.ref r.x, .ref r.y, .bl true, .ref r.l1, .ref r.l2, .ref r.l3])
  x : H r.x = some (.ins r.C r.dx r.fs)
  e : EqC K r.C
theorem RowX.ex {K : PySem.W.Frag} {H H' : Hp} {r : Row} (e : Ex H H') (h : RowX K H r) : RowX K H' r := ⟨e _ _ h.t, e _ _ h.x, h.e⟩
theorem at_mod {i d : Nat} (hi : i < 22) (hd : d < 21) : (i + 1 + d) % 22 < 22 ∧ (i + 1 + d) % 22 ≠ i := by omega
/-- the second loop and what follows -/
theorem partB {CL fL fD : Addr} {dL dD : FuncData} (TL : CI K mg "Leads" "Leads.__init__" iLeads ["steps"] CL fL dL) {fC : Addr} {fdC : FuncData} (TC : Com K mg fC fdC) (ml : mg "len" = none) (mrp : mg "repr" = none) (mi : mg "int" = none) (mra : mg "range" = none)
    (FD : Fun K "_law_draw" "_law_draw" sDraw fD dD) (bD : Binds K dD ["pen", "many"] []) (gD : mg "_law_draw" = some (.ref fD))
    (hr : Room 4 (A.deeper (envOfC "law" (defScope sLaw) s.heap.objs.size f cdv))) (hg : (A.deeper (envOfC "law" (defScope sLaw) s.heap.objs.size f cdv)).guards = some []) (q : ∀ H', Q (.bl true) H') :
    ∃ tr, PSs (cxOf CX0 P w K mg base lN "law" (defScope sLaw) f cdv A outer s H E).nox ((defBody sLaw).drop 6) tr ∧ ∀ (y0 y2 y4 y5 y6 y7 y9 y10 y11 y12 y13 y14 y15 y16 y17 y18 y19 y20 : Option V) (a c : Addr) (p : Pen) (VL R : Addr) (v0 : V) (vr : List V) (rs : List Row) (d0 : PyData) (H' : Hp), PenAt K H' a c p → PenOk 30 p → (less a H') VL = some (.lst (v0 :: vr)) → Val (less a H') v0 d0 → IsVal d0 →
      (less a H') R = some (.lst (rs.map fun q => .ref q.t)) → rs.length = 22 → v0 ≠ .ref R → (∀ w ∈ rs, RowX K (less a H') w) → (rs.map (·.x)).Nodup →
      tr { nx := fun _ H' => Q .non H', rt := Q } [y0, some (.ref a), y2, some (.ref VL), y4, y5, y6, y7, some (.ref R), y9, y10, y11, y12, y13, y14, y15, y16, y17, y18, y19, y20] H' := by
  obtain ⟨tr, hrest, hread⟩ := partC (P := P) (w := w) (base := base) (f := f) (cdv := cdv) (A := A) (outer := outer) (s := s) (H := H) (E := E) TL TC ml mrp hr hg q
  have hu := hu_of hr
  have GD : FnOk P w K mg base CX0 1 fD dD ["pen", "many"] (spDraw K) := ok_draw FD ml mi
  refine ⟨_, pss_cons (ps_for PassesOwn.never rfl (pi_range1 (by rfl) mra (pa_cons (pe_callB call_len_seq (by rfl) ml PySem.boot_len (pa_cons (pv 8) pa_nil)) pa_nil)) (pg_name (i := 2) scLaw.nd rfl (.inl rfl))
    (pss_cons (ps_set (i := 17) scLaw.nd rfl (.inl rfl) (pe_ix ix_tup (pe_ix ix_list (pv 8) (pe_op op_mod (pe_callTy call_int1 (by rfl) mi PyProof.Rows.boot_int (pa_cons (pe_op op_add (pe_op op_add (pv 2) pe_int) (pe_call GD (hr.mono (by decide)) (by rfl) gD FD.kp bD .nil pass0 (pa_cons (pv 1) (pa_cons (pe_op op_sub (pe_callB call_len_seq (by rfl) ml PySem.boot_len (pa_cons (pv 8) pa_nil)) pe_int) pa_nil)))) pa_nil)) (pe_callB call_len_seq (by rfl) ml PySem.boot_len (pa_cons (pv 8) pa_nil))) (fun _ _ => rfl)) pe_int (fun _ _ => rfl)))
    (pss_one (ps_if (pw_or (pt_cmpR (op_eqI hu) (pe_ix ix_tup (pe_ix ix_list (pv 8) (pv 2) (fun _ _ => rfl)) pe_int (fun _ _ => rfl)) (pv 17) (nomark _)) (pw_or (pt_cmpR (op_eqI hu) (pv 17) (pe_ix ix_tup (pe_ix ix_list (pv 8) (pv 2) (fun _ _ => rfl)) pe_int (fun _ _ => rfl)) (nomark _)) (pw_or1 (pt_not (pt_cmpR (op_neI hu) (pe_ix ix_tup (pe_ix ix_list (pv 8) (pv 2) (fun _ _ => rfl)) pe_int (fun _ _ => rfl)) (pv 17) (nomark _)))))).pt (pss_one (ps_ret pe_bl)) pss_nil)))) hrest, fun y0 y2 y4 y5 y6 y7 y9 y10 y11 y12 y13 y14 y15 y16 y17 y18 y19 y20 a c p VL R v0 vr rs d0 H0 hp ok hV hv iv hR h22 hne hrow hnd => ?_⟩
  have lenR : (rs.map fun q => V.ref q.t).length = 22 := by rw [List.length_map]; exact h22
  generalize hrv : (rs.map fun q => V.ref q.t) = rv at hR lenR
  have hR0 : H0 R = some (.lst rv) := less_ex _ _ hR
  have cast22 : ((rv.length : Nat) : Int) = 22 := by rw [lenR]; rfl
  refine ⟨.ref R, rfl, R, rv, rfl, .inl (.of hR0), ((rv.length : Nat) : Int), rfl, by rw [cast22]; decide, by rw [cast22]; decide, for_range (lo := 0) (n := ((rv.length : Nat) : Int).toNat) (fun i σ H' => ∃ z2 z17 p1, σ = [y0, some (.ref a), z2, some (.ref VL), y4, y5, y6, y7, some (.ref R), y9, y10, y11, y12, y13, y14, y15, y16, z17, y18, y19, y20] ∧ Ex (less a H0) (less a H') ∧ PenAt K H' a c p1 ∧ PenOk (30 - i) p1) ⟨y2, y17, p, rfl, Ex.refl, hp, ok⟩ ?_ ?_⟩
  · rintro i σ H1 hi ⟨z2, z17, p1, rfl, x1, hp1, ok1⟩
    have hi : i < 22 := by
      have : (((rv.length : Nat) : Int).toNat) = 22 := by rw [cast22]; rfl
      omega
    have hR1 : H1 R = some (.lst rv) := less_ex _ _ (x1 _ _ hR)
    have rowAt : ∀ (j : Nat), j < 22 → ∃ wj, rs[j]? = some wj ∧ rv[j]? = some (.ref wj.t) ∧ ∀ H2, Ex (less a H0) (less a H2) → RowX K H2 wj := fun j hj => by
      have hj' : j < rs.length := by rw [h22]; exact hj
      refine ⟨rs[j], List.getElem?_eq_getElem hj', ?_, fun H2 x2 => ((hrow _ (List.getElem_mem hj')).ex x2).ex less_ex⟩
      rw [← hrv, List.getElem?_map, List.getElem?_eq_getElem hj']
      rfl
    obtain ⟨wi, si, ri, fi⟩ := rowAt i hi
    refine ⟨.ref R, rfl, .int (0 + i), rfl, 0 + i, 1, rfl, rfl, .ref a, rfl, .ref R, rfl, R, rv, rfl, .inl (.of hR1), ((rv.length : Nat) : Int), 1, rfl, rfl, a, c, p1, 30 - (i + 1), ((rv.length : Nat) : Int) - 1, rfl, hp1, ok1.le (by omega), ⟨by rw [cast22]; decide, by rw [cast22]; decide⟩, fun H2 p2 d kp hp2 ok2 d0' d1 => ?_⟩
    rw [cast22] at d1
    have x2 := x1.trans (keep_less kp)
    have hR2 : H2 R = some (.lst rv) := less_ex _ _ (x2 _ _ hR)
    obtain ⟨n, rfl⟩ := Int.eq_ofNat_of_zero_le d0'
    obtain ⟨jl, jne⟩ := at_mod (i := i) (d := n) hi (by omega)
    obtain ⟨wj, sj, rj, fj⟩ := rowAt ((i + 1 + n) % 22) jl
    have ej : ((0 : Int) + (i : Nat) + 1 + (n : Nat)) % ((rv.length : Nat) : Int) = (((i + 1 + n) % 22 : Nat) : Int) := by rw [cast22]; omega
    refine ⟨0 + i + 1, n, rfl, rfl, .inl ⟨_, rfl, .ref R, rfl, R, rv, rfl, .inl (.of hR2), (0 : Int) + (i : Nat) + 1 + (n : Nat), ((rv.length : Nat) : Int), rfl, rfl, (show (0 : Int) < ((rv.length : Nat) : Int) by rw [cast22]; decide), R, rv, _, .ref wj.t, rfl, rfl, .of hR2, (by rw [ej]; exact atI_nat rj), wj.t, _, 0, .ref wj.x, rfl, rfl, .of (fj H2 x2).t, atI_nat (j := 0) rfl, ?_⟩⟩
    have hx : wi.x ≠ wj.x := fun z => by
      have hi' : i < rs.length := by rw [h22]; exact hi
      have hj' : (i + 1 + n) % 22 < rs.length := by rw [h22]; exact jl
      have a1 : (rs.map (·.x))[i]? = some wi.x := by rw [List.getElem?_map, si]; rfl
      have a2 : (rs.map (·.x))[(i + 1 + n) % 22]? = some wi.x := by rw [List.getElem?_map, sj, z]; rfl
      exact jne ((List.getElem?_inj (by rw [List.length_map]; exact hj') hnd).mp (a2.trans a1.symm))
    have ri' : atI rv ((0 : Int) + (i : Nat)) = some (.ref wi.t) := by rw [Int.zero_add]; exact atI_nat ri
    refine ⟨.ref R, rfl, .int (0 + i), rfl, R, rv, _, .ref wi.t, rfl, rfl, .of hR2, ri', wi.t, _, 0, .ref wi.x, rfl, rfl, .of (fi H2 x2).t, atI_nat (j := 0) rfl, .ref wj.x, rfl, wi.x, wj.x, _, _, _, _, _, _, rfl, rfl, (fi H2 x2).x, (fj H2 x2).x, (fi H2 x2).e, (fj H2 x2).e, false, congrArg V.bl (decide_eq_false hx), iteF ?_⟩
    refine ⟨.ref wj.x, rfl, .ref R, rfl, .int (0 + i), rfl, R, rv, _, .ref wi.t, rfl, rfl, .of hR2, ri', wi.t, _, 0, .ref wi.x, rfl, rfl, .of (fi H2 x2).t, atI_nat (j := 0) rfl, wj.x, wi.x, _, _, _, _, _, _, rfl, rfl, (fj H2 x2).x, (fi H2 x2).x, (fj H2 x2).e, (fi H2 x2).e, false, congrArg V.bl (decide_eq_false (Ne.symm hx)), iteF ?_⟩
    refine ⟨.ref R, rfl, .int (0 + i), rfl, R, rv, _, .ref wi.t, rfl, rfl, .of hR2, ri', wi.t, _, 0, .ref wi.x, rfl, rfl, .of (fi H2 x2).t, atI_nat (j := 0) rfl, .ref wj.x, rfl, wi.x, wj.x, _, _, _, _, _, _, rfl, rfl, (fi H2 x2).x, (fj H2 x2).x, (fi H2 x2).e, (fj H2 x2).e, hx, true, rfl, ?_⟩
    exact ⟨_, _, p2, rfl, x2, hp2, ok2⟩
  · rintro σ H1 ⟨z2, z17, p1, rfl, x1, hp1, ok1⟩
    exact hread _ _ _ _ _ _ _ _ _ _ _ _ _ _ _ _ _ _ _ VL R v0 vr rv d0 H1 (less_ex _ _ (x1 _ _ hV)) ((hv.ex x1).ex less_ex) iv (less_ex _ _ (x1 _ _ hR)) lenR hne
end
end Kc

namespace Kc
open PySem PySem.Spec PyProof.Rows L2 KcE KcR
theorem take_snoc {vs : List V} {i : Nat} {v : V} (h : vs[i]? = some v) : vs.take (i + 1) = vs.take i ++ [v] := by rw [List.take_add_one, h]; rfl
theorem Cps.snoc {H : Hp} {v c : V} (h : Cp H v c) : ∀ {vs cs : List V}, Cps H vs cs → Cps H (vs ++ [v]) (cs ++ [c])
  | _, _, .nil => .cons h .nil
  | _, _, .cons k t => .cons k (Cps.snoc h t)
section
variable {P : Program} {w : World} {K : PySem.W.Frag} {mg : Str → Option Value} {base : Heap} {f : Addr} {cdv : Value} {A : Around} {outer : List Env} {s : Shared} {H : Hp} {E : XK} {Q : VK}
/-- the first loop and what follows -/
theorem partA {CL fL fD fLC : Addr} {dL dD dLC : FuncData} (TL : CI K mg "Leads" "Leads.__init__" iLeads ["steps"] CL fL dL) {fC : Addr} {fdC : FuncData} (TC : Com K mg fC fdC) (ml : mg "len" = none) (mrp : mg "repr" = none) (mi : mg "int" = none) (mra : mg "range" = none)
    (FD : Fun K "_law_draw" "_law_draw" sDraw fD dD) (bD : Binds K dD ["pen", "many"] []) (gD : mg "_law_draw" = some (.ref fD)) (FL : Fun K "_law_copy" "_law_copy" sLawCopy fLC dLC) (bL : Binds K dLC ["value"] []) (gL : mg "_law_copy" = some (.ref fLC))
    (hr : Room 4 (A.deeper (envOfC "law" (defScope sLaw) s.heap.objs.size f cdv))) (hg : (A.deeper (envOfC "law" (defScope sLaw) s.heap.objs.size f cdv)).guards = some []) (q : ∀ H', Q (.bl true) H') :
    ∃ tr, PSs (cxOf CX0 P w K mg base lN "law" (defScope sLaw) f cdv A outer s H E).nox ((defBody sLaw).drop 5) tr ∧ ∀ (y0 y2 y4 y5 y6 y7 y9 y10 y11 y12 y13 y14 y15 y16 y17 y18 y19 y20 : Option V) (a c : Addr) (p : Pen) (VL R : Addr) (v0 : V) (vr : List V) (rs : List Row) (d0 : PyData) (us : List V) (H' : Hp), PenAt K H' a c p → PenOk 30 p → (less a H') VL = some (.lst (v0 :: vr)) → Val (less a H') v0 d0 → IsVal d0 →
      H' R = some (.lst (rs.map fun q => .ref q.t)) → rs.length = 22 → v0 ≠ .ref R → RowsAt K H' rs → (∀ w ∈ rs, (∀ v ∈ w.vs, v ∈ us) ∧ w.vs ≠ [] ∧ w.vs.length ≤ 4) → (∀ u ∈ us, ∃ d, IsVal d ∧ Val H' u d) →
      tr { nx := fun _ H' => Q .non H', rt := Q } [y0, some (.ref a), y2, some (.ref VL), y4, y5, y6, y7, some (.ref R), y9, y10, y11, y12, y13, y14, y15, y16, y17, y18, y19, y20] H' := by
  obtain ⟨tr, hrest, hread⟩ := partB (P := P) (w := w) (base := base) (f := f) (cdv := cdv) (A := A) (outer := outer) (s := s) (H := H) (E := E) TL TC ml mrp mi mra FD bD gD hr hg q
  have hu := hu_of hr
  have hu64 : (A.deeper (envOfC "law" (defScope sLaw) s.heap.objs.size f cdv)).units + 64 < cLine := by have := hr.un; omega
  have GL : FnOk P w K mg base CX0 1 fLC dLC ["value"] spCopied := ok_lawcopy FL TC.ms TC.ml TC.mt
  refine ⟨_, pss_cons (ps_for PassesOwn.never rfl (pi_list (pv 8)) (pg_tup (n := 6) rfl (pgs_cons (pg_name (i := 10) scLaw.nd rfl (.inl rfl)) (pgs_cons (pg_name (i := 11) scLaw.nd rfl (.inl rfl)) (pgs_cons (pg_name (i := 12) scLaw.nd rfl (.inl rfl)) (pgs_cons (pg_name (i := 13) scLaw.nd rfl (.inl rfl)) (pgs_cons (pg_name (i := 14) scLaw.nd rfl (.inl rfl)) (pgs_cons (pg_name (i := 15) scLaw.nd rfl (.inl rfl)) pgs_nil)))))))
    (pss_cons (ps_set (i := 16) scLaw.nd rfl (.inl rfl) (pe_callB (call_reprL hg hu64) (by rfl) mrp PyProof.Rows.boot_repr (pa_cons (pe_lc (own := [("value", 20)]) (g := gName 20) (tt := tYes) rfl scLaw.nd (pi_list (pv 15)) (blkOk_by (N := lN) (sc := defScope sLaw) (by decide +kernel)) (fun _ _ _ _ _ => pg_name (i := 20) scLaw.nd rfl (Or.inl rfl)) (fun _ _ _ _ _ => pts_nil) (fun _ _ _ _ _ => pe_call GL (hr.mono (by decide)) (by rfl) gL FL.kp bL .nil pass0 (pa_cons (pv 20) pa_nil))) pa_nil)))
    (pss_one (ps_if (pw_or (pt_cmpR op_notBl (pv 12) pe_bl (nomark _)) (pw_or (pt_cmpR op_ne (pe_callB (call_reprL hg hu64) (by rfl) mrp PyProof.Rows.boot_repr (pa_cons (pv 13) pa_nil)) (pv 16) (nomark _)) (pw_or (pt_cmpR op_ne (pe_callB (call_reprL hg hu64) (by rfl) mrp PyProof.Rows.boot_repr (pa_cons (pv 14) pa_nil)) (pv 16) (nomark _)) (pw_or (pt_not (pt_cmpR (op_eqI hu) (pv 10) (pv 10) (nomark _))) (pw_or1 (pt_cmpR (op_eqI hu) (pv 10) (pv 11) (nomark _))))))).pt (pss_one (ps_ret pe_bl)) pss_nil)))) hrest, fun y0 y2 y4 y5 y6 y7 y9 y10 y11 y12 y13 y14 y15 y16 y17 y18 y19 y20 a c p VL R v0 vr rs d0 us H0 hp ok hV hv iv hR h22 hne hrow hw hus => ?_⟩
  refine ⟨.ref R, rfl, R, rfl, ⟨_, .of hR⟩, for_list (K := K) (a := R) (xs := rs.map fun q => V.ref q.t) (fun i σ H' => ∃ z10 z11 z12 z13 z14 z15 z16 z20, σ = [y0, some (.ref a), y2, some (.ref VL), y4, y5, y6, y7, some (.ref R), y9, z10, z11, z12, z13, z14, z15, z16, y17, y18, y19, z20] ∧ Ex H0 H') ⟨y10, y11, y12, y13, y14, y15, y16, y20, rfl, .refl⟩ (fun i σ H' _ ⟨_, _, _, _, _, _, _, _, _, e⟩ => .of (e _ _ hR)) ?_ ?_⟩
  · rintro i x σ H1 hx ⟨z10, z11, z12, z13, z14, z15, z16, z20, rfl, e1⟩
    rw [List.getElem?_map] at hx
    obtain ⟨wi, hwi, rfl⟩ := Option.map_eq_some_iff.mp hx
    have hmem := List.mem_of_getElem? hwi
    have row := (hrow.at_ wi hmem).ex e1
    obtain ⟨h1, h2, h3⟩ := hw wi hmem
    obtain ⟨ds, va0⟩ := VA.of (H := H0) (vs := wi.vs) fun v hv => hus v (h1 v hv)
    refine ⟨wi.t, _, rfl, .of row.t, rfl, _, _, rfl, _, _, rfl, _, _, rfl, _, _, rfl, _, _, rfl, _, _, rfl, rfl, ?_⟩
    -- due
    refine ⟨.ref wi.l3, rfl, wi.l3, rfl, ⟨_, .of row.l3⟩, fun D nD => lc_list (K := K) (a := wi.l3) (xs := wi.vs) (fun j H' => ∃ acc, Ex H1 H' ∧ H' D = some (.lst acc) ∧ acc.length = j ∧ Cps (less D H') (wi.vs.take j) acc) ?_ ?_ ?_ ?_⟩
    · have x : Ex H1 (upd H1 D (.lst [])) := Ex.refl.laid nD
      exact ⟨[], x, upd_same, rfl, .nil⟩
    · rintro j H' _ ⟨acc, x, _⟩
      exact .of (x _ _ row.l3)
    · rintro j v H' hj ⟨acc, x, hD, hl, cp⟩
      refine ⟨rfl, ?_⟩
      have hvm := List.mem_of_getElem? hj
      obtain ⟨d, _, hd⟩ := hus v (h1 v hvm)
      have vl1 : Vl H1 v := (hd.ex e1).vl
      refine ⟨v, rfl, v, rfl, vl1.ex x, fun H2 c0 ex2 cp2 => ⟨acc, ex2 _ _ hD, ?_, acc ++ [c0], ?_, upd_same, by rw [List.length_append, hl]; rfl, ?_⟩⟩
      · have := (List.getElem?_eq_some_iff.mp hj).1
        rw [hl, sizeLine_eq]; omega
      · exact fun b o z => by rw [upd_ne (ne_of_none z nD)]; exact ex2 _ _ (x _ _ z)
      · rw [less_upd, take_snoc hj]
        have hvD : v ≠ .ref D := fun z => by
          subst z
          cases vl1 with
          | lst e => rw [nD] at e; cases e
          | oth n =>
            cases n with
            | tup e => rw [nD] at e; cases e
            | dK e => rw [nD] at e; cases e
        exact Cps.snoc (cp2.less (ex2 _ _ hD) hvD) (cp.ex (less_mono ex2))
    · rintro H2 ⟨acc, x2, hD, hl, cp⟩
      rw [List.take_length] at cp
      have e2 := e1.trans x2
      have va := va0.ex e2
      have row2 := row.ex x2
      simp only [tNil]
      show rReprL _ H2 _
      refine repr_go va (cp.ex less_ex) hD h2 h3 ?_
      refine ⟨_, rfl, true, true, rfl, rfl, false, congrArg V.bl (by decide), iteF ?_⟩
      refine ⟨_, rfl, ?_⟩
      simp only [tNil]
      show rReprL _ H2 _
      refine repr_go va row2.c1 row2.l1 h2 h3 ?_
      refine ⟨_, rfl, rfl, false, congrArg V.bl (by rw [decide_eq_true rfl]; rfl), iteF ?_⟩
      refine ⟨_, rfl, ?_⟩
      simp only [tNil]
      show rReprL _ H2 _
      refine repr_go va row2.c2 row2.l2 h2 h3 ?_
      refine ⟨_, rfl, rfl, false, congrArg V.bl (by rw [decide_eq_true rfl]; rfl), iteF ?_⟩
      refine ⟨_, rfl, _, rfl, wi.x, wi.x, _, _, _, _, _, _, rfl, rfl, row2.x, row2.x, row2.e, row2.e, true, congrArg V.bl (decide_eq_true rfl), iteF ?_⟩
      refine ⟨_, rfl, _, rfl, wi.x, wi.y, _, _, _, _, _, _, rfl, rfl, row2.x, row2.y, row2.e, row2.e, false, congrArg V.bl (decide_eq_false row2.ne), ?_⟩
      exact ⟨_, _, _, _, _, _, _, _, rfl, e2⟩
  · rintro σ H1 ⟨z10, z11, z12, z13, z14, z15, z16, z20, rfl, e1⟩
    have hp1 := hp.ex e1
    have na : ∀ {b : Addr} {o : HO}, H1 b = some o → o ≠ .dK (penKV c p) → b ≠ a := fun {b o} e h z => by
      rw [z, hp1.1] at e
      exact h (Option.some.inj e).symm
    have le := less_mono (r := a) e1
    refine hread _ _ _ _ _ _ _ _ _ _ _ _ _ _ _ _ _ _ a c p VL R v0 vr rs d0 H1 hp1 ok (le _ _ hV) (hv.ex le) iv (less_of (na (e1 _ _ hR) fun z => nomatch z) (e1 _ _ hR)) h22 hne (fun w hwm => ?_) hrow.nd
    have r1 := (hrow.at_ w hwm).ex e1
    exact ⟨less_of (na r1.t fun z => nomatch z) r1.t, less_of (na r1.x fun z => nomatch z) r1.x, r1.e⟩
end
end Kc

namespace Kc
open PySem PySem.Spec PyProof.Rows L2 KcE KcR
theorem less2_upd {a D : Addr} {H : Hp} {o : HO} : less D (less a (upd H D o)) = less D (less a H) := by
  funext b
  unfold less
  split
  · rfl
  · rename_i n
    split
    · rfl
    · exact upd_ne n
theorem Ex.put {H H' : Hp} {D : Addr} {o : HO} (x : Ex H H') (n : H D = none) : Ex H (upd H' D o) := fun b u z => by rw [upd_ne (ne_of_none z n)]; exact x b u z
theorem Val.some {H : Hp} {b : Addr} {d : PyData} (h : Val H (.ref b) d) : H b ≠ none := by
  cases h with
  | lst e t => rw [e]; exact fun z => nomatch z
  | oth n h =>
    cases n with
    | tup e => rw [e]; exact fun z => nomatch z
    | dK e => rw [e]; exact fun z => nomatch z
section
variable {P : Program} {w : World} {K : PySem.W.Frag} {mg : Str → Option Value} {base : Heap} {f : Addr} {cdv : Value} {A : Around} {outer : List Env} {s : Shared} {H : Hp} {E : XK} {Q : VK}
/-- the law's body -/
theorem law_body {CL fL fD fLC fPen fV fA fB : Addr} {dL dD dLC dPen dV dA dB : FuncData} (TL : CI K mg "Leads" "Leads.__init__" iLeads ["steps"] CL fL dL) {fC : Addr} {fdC : FuncData} (TC : Com K mg fC fdC) (ml : mg "len" = none) (mrp : mg "repr" = none) (mi : mg "int" = none) (mra : mg "range" = none)
    (FD : Fun K "_law_draw" "_law_draw" sDraw fD dD) (bD : Binds K dD ["pen", "many"] []) (gD : mg "_law_draw" = some (.ref fD)) (FL : Fun K "_law_copy" "_law_copy" sLawCopy fLC dLC) (bL : Binds K dLC ["value"] []) (gL : mg "_law_copy" = some (.ref fLC))
    (FPen : Fun K "_law_pen" "_law_pen" sPen fPen dPen) (bPen : Binds K dPen ["script"] []) (gPen : mg "_law_pen" = some (.ref fPen))
    (GV : FnOk P w K mg base CX0 3 fV dV ["pen"] (spValue K)) (kV : PySem.W.keepIn K (.ref fV) = true) (bV : Binds K dV ["pen"] []) (gV : mg "_law_value" = some (.ref fV))
    (GA : FnOk P w K mg base CX0 4 fA dA ["a", "b", "c", "d"] (spMade K)) (kA : PySem.W.keepIn K (.ref fA) = true) (bA : Binds K dA ["a", "b", "c", "d"] []) (gA : mg "_law_made_a" = some (.ref fA))
    (GB : FnOk P w K mg base CX0 4 fB dB ["a", "b", "c", "d"] (spMade K)) (kB : PySem.W.keepIn K (.ref fB) = true) (bB : Binds K dB ["a", "b", "c", "d"] []) (gB : mg "_law_made_b" = some (.ref fB))
    (hr : Room 4 (A.deeper (envOfC "law" (defScope sLaw) s.heap.objs.size f cdv))) (hg : (A.deeper (envOfC "law" (defScope sLaw) s.heap.objs.size f cdv)).guards = some []) {ls : Addr} {ns : List Int} (hS : SqL K H ls (ns.map V.int)) (hn : ns.length ≤ 1000) (q : ∀ H', Q (.bl true) H') :
    ∃ tr, PSs (cxOf CX0 P w K mg base lN "law" (defScope sLaw) f cdv A outer s H E).nox (defBody sLaw) tr ∧ tr { nx := fun _ H' => Q .non H', rt := Q } (start lN [.ref ls]) H := by
  obtain ⟨tr, hrest, hread⟩ := partA (P := P) (w := w) (base := base) (f := f) (cdv := cdv) (A := A) (outer := outer) (s := s) (H := H) (E := E) TL TC ml mrp mi mra FD bD gD FL bL gL hr hg q
  have GPen : FnOk P w K mg base CX0 1 fPen dPen ["script"] (spPen K) := ok_pen FPen mi TC.ml
  refine ⟨_, pss_cons (ps_set (i := 1) scLaw.nd rfl (.inr rfl) (pe_call GPen (hr.mono (by decide)) (by rfl) gPen FPen.kp bPen .nil pass0 (pa_cons (pv 0) pa_nil)))
    (pss_cons (ps_setLc (i := 3) (own := [("k", 2)]) (g := gName 2) (tt := tYes) rfl scLaw.nd rfl rfl (sw_true rfl rfl rfl rfl) (pi_range1 (by rfl) mra (pa_cons pe_int pa_nil)) (blkOk_by (N := lN) (sc := defScope sLaw) (by decide +kernel)) (fun _ _ _ _ _ => pg_name (i := 2) scLaw.nd rfl (Or.inl rfl)) (fun _ _ _ _ _ => pts_nil) (fun _ _ _ _ _ => pe_call GV (hr.mono (by decide)) (by rfl) gV kV bV .nil pass0 (pa_cons (pv 1) pa_nil)))
    (pss_cons (ps_asg (pe_lc (own := [("value", 20)]) (g := gName 20) (tt := tYes) rfl scLaw.nd (pi_list (pv 3)) (blkOk_by (N := lN) (sc := defScope sLaw) (by decide +kernel)) (fun _ _ _ _ _ => pg_name (i := 20) scLaw.nd rfl (Or.inl rfl)) (fun _ _ _ _ _ => pts_nil) (fun _ _ _ _ _ => pe_ifExp (pt_val (pe_callB (r := rIsi K) call_isi (by rfl) TC.ms PyProof.Rows.boot_isinstance (pa_cons (pv 20) (pa_cons (pe_bltn (v := .ty "list") (by rfl) TC.ml PyProof.Rows.boot_list rfl) pa_nil)))) (pe_callTy (r := fun xs H Q => ∃ p ys, xs = [V.ref p] ∧ (SqL K H p ys ∨ SqT K H p ys) ∧ ∀ l, H l = none → Q (V.ref l) (upd H l (HO.lst ys))) call_list_of (by rfl) TC.ml PyProof.Rows.boot_list (pa_cons (pv 20) pa_nil)) (pv 20))) (KcU.pg_lst (n := 4) rfl (pgs_cons (pg_name (i := 4) scLaw.nd rfl (.inl rfl)) (pgs_cons (pg_name (i := 5) scLaw.nd rfl (.inl rfl)) (pgs_cons (pg_name (i := 6) scLaw.nd rfl (.inl rfl)) (pgs_cons (pg_name (i := 7) scLaw.nd rfl (.inl rfl)) pgs_nil))))))
    (pss_cons (ps_set (i := 8) scLaw.nd rfl (.inl rfl) (pe_lst pa_nil))
    (pss_cons (ps_for PassesOwn.never rfl (pi_list (pe_lst (pa_cons (pe_call GA hr (by rfl) gA kA bA .nil pass0 (pa_cons (pv 4) (pa_cons (pv 5) (pa_cons (pv 6) (pa_cons (pv 7) pa_nil))))) (pa_cons (pe_call GB hr (by rfl) gB kB bB .nil pass0 (pa_cons (pv 4) (pa_cons (pv 5) (pa_cons (pv 6) (pa_cons (pv 7) pa_nil))))) pa_nil)))) (pg_name (i := 9) scLaw.nd rfl (.inl rfl)) (pss_one (ps_set (i := 8) scLaw.nd rfl (.inl rfl) (pe_op op_cat (pv 8) (pv 9))))) hrest)))), ?_⟩
  refine ⟨.ref ls, rfl, ls, ns, rfl, hS, hn, fun H1 a c p _ _ hp ok => ?_⟩
  -- values
  refine ⟨4, rfl, by decide, by decide, fun D nD => lc_range (lo := 0) (n := 4) (fun i H' => ∃ p1 acc, Ex (less a H1) (less a H') ∧ PenAt K H' a c p1 ∧ PenOk (100 + 4 * (4 - i)) p1 ∧ H' D = some (.lst acc) ∧ acc.length = i ∧ ∀ v ∈ acc, ∃ d, IsVal d ∧ Val (less D (less a H')) v d) ?_ ?_ ?_⟩
  · have x : Ex H1 (upd H1 D (.lst [])) := Ex.refl.laid nD
    exact ⟨p, [], less_mono x, hp.ex x, ok.le (by decide), upd_same, rfl, fun _ z => nomatch z⟩
  · rintro i H' hi ⟨p1, acc, x1, hp1, ok1, hD, hl, hva⟩
    have Da : D ≠ a := Ne.symm (ne_of_none hp.1 nD)
    have Dc : D ≠ c := Ne.symm (ne_of_none hp.2.1 nD)
    refine ⟨rfl, ?_⟩
    refine ⟨.ref a, rfl, a, c, p1, 100 + 4 * (4 - (i + 1)), rfl, hp1, ok1.le (by omega), fun H2 p2 v d x2 hp2 ok2 iv hv => ⟨acc, less_ex _ _ (x2 _ _ (less_of Da hD)), by rw [hl, sizeLine_eq]; omega, p2, acc ++ [v], ex_put (x1.trans x2) nD, ⟨by rw [upd_ne (Ne.symm Da)]; exact hp2.1, by rw [upd_ne (Ne.symm Dc)]; exact hp2.2.1, hp2.2.2⟩, ok2, upd_same, by rw [List.length_append, hl]; rfl, fun u hu => ?_⟩⟩
    rw [less2_upd]
    rcases List.mem_append.mp hu with hu | hu
    · obtain ⟨d', h1, h2⟩ := hva u hu
      exact ⟨d', h1, h2.ex (less_mono x2)⟩
    · rw [List.mem_singleton.mp hu]
      refine ⟨d, iv, hv.ex fun b o z => ?_⟩
      obtain ⟨z1, z2⟩ := fresh_in z
      exact less_of (fun e => by rw [e, hD] at z1; cases z1) (less_of (fun e => by rw [e, hp1.1] at z1; cases z1) z2)
  rintro H2 ⟨p1, acc, x1, hp1, ok1, hD, hl, hva⟩
  match acc, hl with
  | [v0, v1, v2, v3], _ =>
  have Da : D ≠ a := Ne.symm (ne_of_none hp.1 nD)
  -- a, b, c, d
  refine ⟨.ref D, rfl, D, rfl, ⟨_, .of hD⟩, fun D2 nD2 => lc_list (K := K) (a := D) (xs := [v0, v1, v2, v3]) (fun j H' => ∃ acc, Ex H2 H' ∧ H' D2 = some (.lst acc) ∧ acc.length = j ∧ ∀ u ∈ acc, ∃ d, IsVal d ∧ Val (less D2 H') u d) ?_ ?_ ?_ ?_⟩
  · exact ⟨[], Ex.refl.laid nD2, upd_same, rfl, fun _ z => nomatch z⟩
  · rintro j H' _ ⟨acc, x, _⟩
    exact .of (x _ _ hD)
  · rintro j v H' hj ⟨acc, x, hD2, hl, hu⟩
    obtain ⟨d, iv, hv0⟩ := hva v (List.mem_of_getElem? hj)
    have hv : Val (less D2 H') v d := hv0.ex fun b o z => by
      have z := less_ex _ _ (less_ex _ _ z)
      exact less_of (ne_of_none z nD2) (x _ _ z)
    have hz : acc.length < sizeLine := by
      have := (List.getElem?_eq_some_iff.mp hj).1
      have l4 : ([v0, v1, v2, v3] : List V).length = 4 := rfl
      rw [hl, sizeLine_eq]; omega
    refine ⟨rfl, ?_⟩
    refine ⟨v, rfl, ?_⟩
    simp only [tCons, tC, tNil]
    show rIsi K _ H' _
    refine isi_list (hv.vl.ex less_ex) (fun b xs e hb => ⟨true, rfl, iteT ?_⟩) (fun n => ⟨false, rfl, iteF ?_⟩)
    · subst e
      have bD : b ≠ D2 := fun z => hv.some (z ▸ if_pos rfl)
      refine ⟨_, rfl, b, xs, rfl, .inl (.of hb), fun l hl' => ?_⟩
      have lD : l ≠ D2 := fun z => by rw [z, hD2] at hl'; cases hl'
      have e2 : Ex H' (upd H' l (.lst xs)) := Ex.refl.laid hl'
      refine ⟨acc, e2 _ _ hD2, hz, acc ++ [.ref l], (x.trans e2).put nD2, upd_same, by rw [List.length_append, hl]; rfl, fun u hu' => ?_⟩
      rw [less_upd]
      rcases List.mem_append.mp hu' with hu' | hu'
      · obtain ⟨d', h1, h2⟩ := hu u hu'
        exact ⟨d', h1, h2.ex (less_mono e2)⟩
      · rw [List.mem_singleton.mp hu']
        refine ⟨d, iv, (hv.list (less_of bD hb) (show less D2 H' l = none by rw [less_at lD]; exact hl')).ex fun y o z => ?_⟩
        by_cases hy : y = l
        · rw [hy, upd_same] at z
          rw [hy, less_at lD, upd_same]
          exact z
        · rw [upd_ne hy] at z
          exact less_mono e2 _ _ z
    · refine ⟨_, rfl, acc, hD2, hz, acc ++ [v], x.put nD2, upd_same, by rw [List.length_append, hl]; rfl, fun u hu' => ?_⟩
      rw [less_upd]
      rcases List.mem_append.mp hu' with hu' | hu'
      · exact hu u hu'
      · rw [List.mem_singleton.mp hu']
        exact ⟨d, iv, hv⟩
  rintro H3 ⟨acc, x3, hD2, hl, hus⟩
  match acc, hl with
  | [u0, u1, u2, u3], _ =>
  refine ⟨D2, _, rfl, .of hD2, rfl, _, _, rfl, _, _, rfl, _, _, rfl, _, _, rfl, rfl, ?_⟩
  -- rows = []
  refine ⟨Nat.zero_le _, fun R0 nR0 => ?_⟩
  have x4 : Ex H3 (upd H3 R0 (.lst [])) := Ex.refl.laid nR0
  generalize h4 : upd H3 R0 (.lst []) = H4 at x4 ⊢
  have eR0 : H4 R0 = some (.lst []) := h4 ▸ upd_same
  have vals : ∀ {H' : Hp}, Ex H3 H' → ∀ u ∈ [u0, u1, u2, u3], ∃ d, IsVal d ∧ Val H' u d := fun e u hu => by
    obtain ⟨d, h1, h2⟩ := hus u hu
    exact ⟨d, h1, h2.ex (less_ex.trans e)⟩
  -- the tables
  refine ⟨_, rfl, _, rfl, _, rfl, _, rfl, u0, u1, u2, u3, rfl, (fun v hv => let ⟨d, _, h⟩ := vals x4 v hv; h.vl), fun HA rA rsA exA nrA tbA lenA memA => ?_⟩
  have xA : Ex H4 HA := exA.trans less_ex
  refine ⟨_, rfl, _, rfl, _, rfl, _, rfl, u0, u1, u2, u3, rfl, (fun v hv => let ⟨d, _, h⟩ := vals (x4.trans xA) v hv; h.vl), fun HB rB rsB exB nrB tbB lenB memB => ?_⟩
  have xB : Ex HA HB := exB.trans less_ex
  refine ⟨by show 2 ≤ sizeLine; decide, fun LL nLL => ?_⟩
  have xL : Ex HB (upd HB LL (.lst [.ref rA, .ref rB])) := Ex.refl.laid nLL
  generalize h5 : upd HB LL (.lst [.ref rA, .ref rB]) = H5 at xL ⊢
  have eLL : H5 LL = some (.lst [.ref rA, .ref rB]) := h5 ▸ upd_same
  have x35 : Ex H3 H5 := x4.trans (xA.trans (xB.trans xL))
  have lr : ∀ {b : Addr} {H' : Hp}, Ex H5 H' → H' b = none → H3 b = none := fun e n => exn (x35.trans e) n
  refine ⟨LL, rfl, ⟨_, .of eLL⟩, for_list (K := K) (a := LL) (xs := [.ref rA, .ref rB]) (fun i σ H' => ∃ y9 R, σ = [some (.ref ls), some (.ref a), none, some (.ref D), some u0, some u1, some u2, some u3, some (.ref R), y9, none, none, none, none, none, none, none, none, none, none, none] ∧ Ex H5 H' ∧ H3 R = none ∧ H' R = some (.lst ((match i with | 0 => [] | 1 => rsA | _ => rsA ++ rsB).map fun q : Row => V.ref q.t))) ⟨none, R0, rfl, .refl, nR0, (xA.trans (xB.trans xL)) _ _ eR0⟩ (fun i σ H' _ ⟨_, _, _, e, _⟩ => .of (e _ _ eLL)) ?_ ?_⟩
  · rintro i x σ H' hx ⟨y9, R, rfl, e, nR, hR⟩
    match i, hx, hR with
    | 0, hx, hR =>
      cases hx
      refine ⟨.ref R, rfl, .ref rA, rfl, R, rA, _, _, rfl, rfl, hR, e _ _ (xL _ _ (xB _ _ tbA.l)), ?_, fun R1 n1 => ⟨_, R1, rfl, e.laid n1, lr e n1, by rw [upd_same]; rfl⟩⟩
      rw [List.length_map, List.length_map, lenA, sizeLine_eq]
      exact (show 0 + 11 ≤ 16777216 by decide)
    | 1, hx, hR =>
      cases hx
      refine ⟨.ref R, rfl, .ref rB, rfl, R, rB, _, _, rfl, rfl, hR, e _ _ (xL _ _ tbB.l), ?_, fun R1 n1 => ⟨_, R1, rfl, e.laid n1, lr e n1, by rw [upd_same, ← List.map_append]; rfl⟩⟩
      rw [List.length_map, List.length_map, lenB, sizeLine_eq]
      show rsA.length + 11 ≤ 16777216
      rw [lenA]
      decide
    | i + 2, hx, _ => simp at hx
  rintro σ H6 ⟨y9, R, rfl, e, nR, hR⟩
  have x36 : Ex H3 H6 := x35.trans e
  have x26 : Ex H2 H6 := x3.trans x36
  obtain ⟨d0, iv0, hv0⟩ := hva v0 List.mem_cons_self
  have rA6 : RowsAt K H6 rsA := (tbA.r.ex less_ex).ex (xB.trans (xL.trans e))
  have rB6 : RowsAt K H6 rsB := (tbB.r.ex less_ex).ex (xL.trans e)
  refine hread _ _ _ _ _ _ _ _ _ _ _ _ _ _ _ _ _ _ a c p1 D R v0 [v1, v2, v3] (rsA ++ rsB) d0 [u0, u1, u2, u3] H6 (hp1.ex x26) (ok1.le (by decide)) (less_of Da (x26 _ _ hD)) (hv0.ex (less_ex.trans (less_mono x26))) iv0 hR (by rw [List.length_append, lenA, lenB]) (fun z => ?_) ⟨fun w hw => (List.mem_append.mp hw).elim (rA6.at_ w) (rB6.at_ w), ?_⟩ (fun w hw => ?_) (vals x36)
  · rw [z] at hv0
    have h2R : H2 R = none := exn x3 nR
    exact hv0.some (exn less_ex (exn less_ex h2R))
  · rw [List.map_append]
    refine List.nodup_append.mpr ⟨rA6.nd, rB6.nd, fun y hy z hz => ?_⟩
    obtain ⟨wa, ha, rfl⟩ := List.mem_map.mp hy
    obtain ⟨wb, hb, rfl⟩ := List.mem_map.mp hz
    intro q
    have h1 := less_ex _ _ (tbA.r.at_ wa ha).x
    rw [q, (memB wb hb).2.2.2] at h1
    cases h1
  · rcases List.mem_append.mp hw with hw | hw
    · exact ⟨(memA w hw).1, (memA w hw).2.1, (memA w hw).2.2.1⟩
    · exact ⟨(memB w hw).1, (memB w hw).2.1, (memB w hw).2.2.1⟩
end
end Kc

namespace Kc
open PySem PySem.Spec PyProof.Rows L2 KcE KcR KcG
theorem vals_rev : ∀ {vs : List V} {us : List Value}, Vals vs us → Vals vs.reverse us.reverse
  | _, _, .nil => .nil
  | _, _, .cons r t => by
    rw [List.reverse_cons, List.reverse_cons]
    exact (vals_rev t).append (.cons r .nil)
section
variable {K : PySem.W.Frag} {mg : Str → Option Value} {h : Heap}
theorem bLeads {f : Addr} {fd : FuncData} (F : Fun K "__init__" "Leads.__init__" iLeads f fd) : Binds K fd ["self", "steps"] [] := F.binds fun _ _ _ _ _ _ us hl => match us, hl with | [_, _], _ => rfl
theorem kbLeads {f : Addr} {fd : FuncData} (F : Fun K "__init__" "Leads.__init__" iLeads f fd) : KBn K fd ["self", "steps"] 1 (["steps"] : List Str).reverse (fun us ws => us ++ ws.reverse) (fun us ws => us ++ ws.reverse) := by
  obtain ⟨oc, od, kV, doc, pm, an, cdv, ct, osl, rfl, lk, hcd⟩ := F.ex
  exact ⟨fun s us ws X l1 l2 => match us, l1, ws, l2 with | [_], _, [_], _ => .of_eq rfl, fun r1 r2 => r1.append (vals_rev r2)⟩
theorem bStops {f : Addr} {fd : FuncData} (F : Fun K "__init__" "Stops.__init__" iStops f fd) : Binds K fd ["self", "number"] [] := F.binds fun _ _ _ _ _ _ us hl => match us, hl with | [_, _], _ => rfl
theorem kbStops {f : Addr} {fd : FuncData} (F : Fun K "__init__" "Stops.__init__" iStops f fd) : KBn K fd ["self", "number"] 1 (["number"] : List Str).reverse (fun us ws => us ++ ws.reverse) (fun us ws => us ++ ws.reverse) := by
  obtain ⟨oc, od, kV, doc, pm, an, cdv, ct, osl, rfl, lk, hcd⟩ := F.ex
  exact ⟨fun s us ws X l1 l2 => match us, l1, ws, l2 with | [_], _, [_], _ => .of_eq rfl, fun r1 r2 => r1.append (vals_rev r2)⟩
theorem bHived {f : Addr} {fd : FuncData} (F : Fun K "__init__" "Hived.__init__" iHived f fd) : Binds K fd ["self", "triangle"] [] := F.binds fun _ _ _ _ _ _ us hl => match us, hl with | [_, _], _ => rfl
theorem kbHived {f : Addr} {fd : FuncData} (F : Fun K "__init__" "Hived.__init__" iHived f fd) : KBn K fd ["self", "triangle"] 1 (["triangle"] : List Str).reverse (fun us ws => us ++ ws.reverse) (fun us ws => us ++ ws.reverse) := by
  obtain ⟨oc, od, kV, doc, pm, an, cdv, ct, osl, rfl, lk, hcd⟩ := F.ex
  exact ⟨fun s us ws X l1 l2 => match us, l1, ws, l2 with | [_], _, [_], _ => .of_eq rfl, fun r1 r2 => r1.append (vals_rev r2)⟩
theorem bUnhived {f : Addr} {fd : FuncData} (F : Fun K "__init__" "Unhived.__init__" iUnhived f fd) : Binds K fd ["self", "one", "other", "whole"] [] := F.binds fun _ _ _ _ _ _ us hl => match us, hl with | [_, _, _, _], _ => rfl
theorem kbUnhived {f : Addr} {fd : FuncData} (F : Fun K "__init__" "Unhived.__init__" iUnhived f fd) : KBn K fd ["self", "one", "other", "whole"] 1 (["one", "other", "whole"] : List Str).reverse (fun us ws => us ++ ws.reverse) (fun us ws => us ++ ws.reverse) := by
  obtain ⟨oc, od, kV, doc, pm, an, cdv, ct, osl, rfl, lk, hcd⟩ := F.ex
  exact ⟨fun s us ws X l1 l2 => match us, l1, ws, l2 with | [_], _, [_, _, _], _ => .of_eq rfl, fun r1 r2 => r1.append (vals_rev r2)⟩
theorem bMade {f : Addr} {fd : FuncData} (F : Fun K "__init__" "Made.__init__" iMade f fd) : Binds K fd ["self", "first", "second"] [] := F.binds fun _ _ _ _ _ _ us hl => match us, hl with | [_, _, _], _ => rfl
theorem kbMade {f : Addr} {fd : FuncData} (F : Fun K "__init__" "Made.__init__" iMade f fd) : KBn K fd ["self", "first", "second"] 1 (["first", "second"] : List Str).reverse (fun us ws => us ++ ws.reverse) (fun us ws => us ++ ws.reverse) := by
  obtain ⟨oc, od, kV, doc, pm, an, cdv, ct, osl, rfl, lk, hcd⟩ := F.ex
  exact ⟨fun s us ws X l1 l2 => match us, l1, ws, l2 with | [_], _, [_, _], _ => .of_eq rfl, fun r1 r2 => r1.append (vals_rev r2)⟩
theorem bUnmade {f : Addr} {fd : FuncData} (F : Fun K "__init__" "Unmade.__init__" iUnmade f fd) : Binds K fd ["self", "prime", "triple"] [] := F.binds fun _ _ _ _ _ _ us hl => match us, hl with | [_, _, _], _ => rfl
theorem kbUnmade {f : Addr} {fd : FuncData} (F : Fun K "__init__" "Unmade.__init__" iUnmade f fd) : KBn K fd ["self", "prime", "triple"] 1 (["prime", "triple"] : List Str).reverse (fun us ws => us ++ ws.reverse) (fun us ws => us ++ ws.reverse) := by
  obtain ⟨oc, od, kV, doc, pm, an, cdv, ct, osl, rfl, lk, hcd⟩ := F.ex
  exact ⟨fun s us ws X l1 l2 => match us, l1, ws, l2 with | [_], _, [_, _], _ => .of_eq rfl, fun r1 r2 => r1.append (vals_rev r2)⟩
theorem bPair {f : Addr} {fd : FuncData} (F : Fun K "__init__" "Pair.__init__" iPair f fd) : Binds K fd ["self", "filling", "order"] [] := F.binds fun _ _ _ _ _ _ us hl => match us, hl with | [_, _, _], _ => rfl
theorem kbPair {f : Addr} {fd : FuncData} (F : Fun K "__init__" "Pair.__init__" iPair f fd) : KBn K fd ["self", "filling", "order"] 1 (["filling", "order"] : List Str).reverse (fun us ws => us ++ ws.reverse) (fun us ws => us ++ ws.reverse) := by
  obtain ⟨oc, od, kV, doc, pm, an, cdv, ct, osl, rfl, lk, hcd⟩ := F.ex
  exact ⟨fun s us ws X l1 l2 => match us, l1, ws, l2 with | [_], _, [_, _], _ => .of_eq rfl, fun r1 r2 => r1.append (vals_rev r2)⟩
theorem bHeld {f : Addr} {fd : FuncData} (F : Fun K "__init__" "Held.__init__" iHeld f fd) : Binds K fd ["self", "rows"] [] := F.binds fun _ _ _ _ _ _ us hl => match us, hl with | [_, _], _ => rfl
theorem kbHeld {f : Addr} {fd : FuncData} (F : Fun K "__init__" "Held.__init__" iHeld f fd) : KBn K fd ["self", "rows"] 1 (["rows"] : List Str).reverse (fun us ws => us ++ ws.reverse) (fun us ws => us ++ ws.reverse) := by
  obtain ⟨oc, od, kV, doc, pm, an, cdv, ct, osl, rfl, lk, hcd⟩ := F.ex
  exact ⟨fun s us ws X l1 l2 => match us, l1, ws, l2 with | [_], _, [_], _ => .of_eq rfl, fun r1 r2 => r1.append (vals_rev r2)⟩
theorem bUnheld {f : Addr} {fd : FuncData} (F : Fun K "__init__" "Unheld.__init__" iUnheld f fd) : Binds K fd ["self", "triple"] [] := F.binds fun _ _ _ _ _ _ us hl => match us, hl with | [_, _], _ => rfl
theorem kbUnheld {f : Addr} {fd : FuncData} (F : Fun K "__init__" "Unheld.__init__" iUnheld f fd) : KBn K fd ["self", "triple"] 1 (["triple"] : List Str).reverse (fun us ws => us ++ ws.reverse) (fun us ws => us ++ ws.reverse) := by
  obtain ⟨oc, od, kV, doc, pm, an, cdv, ct, osl, rfl, lk, hcd⟩ := F.ex
  exact ⟨fun s us ws X l1 l2 => match us, l1, ws, l2 with | [_], _, [_], _ => .of_eq rfl, fun r1 r2 => r1.append (vals_rev r2)⟩
theorem bKeptRoom {f : Addr} {fd : FuncData} (F : Fun K "__init__" "KeptRoom.__init__" iKeptRoom f fd) : Binds K fd ["self", "step", "room"] [] := F.binds fun _ _ _ _ _ _ us hl => match us, hl with | [_, _, _], _ => rfl
theorem kbKeptRoom {f : Addr} {fd : FuncData} (F : Fun K "__init__" "KeptRoom.__init__" iKeptRoom f fd) : KBn K fd ["self", "step", "room"] 1 (["step", "room"] : List Str).reverse (fun us ws => us ++ ws.reverse) (fun us ws => us ++ ws.reverse) := by
  obtain ⟨oc, od, kV, doc, pm, an, cdv, ct, osl, rfl, lk, hcd⟩ := F.ex
  exact ⟨fun s us ws X l1 l2 => match us, l1, ws, l2 with | [_], _, [_, _], _ => .of_eq rfl, fun r1 r2 => r1.append (vals_rev r2)⟩
theorem bTop {f : Addr} {fd : FuncData} (F : Fun K "__init__" "Top.__init__" iTop f fd) : Binds K fd ["self", "word", "steps"] [] := F.binds fun _ _ _ _ _ _ us hl => match us, hl with | [_, _, _], _ => rfl
theorem kbTop {f : Addr} {fd : FuncData} (F : Fun K "__init__" "Top.__init__" iTop f fd) : KBn K fd ["self", "word", "steps"] 1 (["word", "steps"] : List Str).reverse (fun us ws => us ++ ws.reverse) (fun us ws => us ++ ws.reverse) := by
  obtain ⟨oc, od, kV, doc, pm, an, cdv, ct, osl, rfl, lk, hcd⟩ := F.ex
  exact ⟨fun s us ws X l1 l2 => match us, l1, ws, l2 with | [_], _, [_, _], _ => .of_eq rfl, fun r1 r2 => r1.append (vals_rev r2)⟩
theorem bWeb {f : Addr} {fd : FuncData} (F : Fun K "__init__" "Web.__init__" iWeb f fd) : Binds K fd ["self", "words", "ways"] [] := F.binds fun _ _ _ _ _ _ us hl => match us, hl with | [_, _, _], _ => rfl
theorem kbWeb {f : Addr} {fd : FuncData} (F : Fun K "__init__" "Web.__init__" iWeb f fd) : KBn K fd ["self", "words", "ways"] 1 (["words", "ways"] : List Str).reverse (fun us ws => us ++ ws.reverse) (fun us ws => us ++ ws.reverse) := by
  obtain ⟨oc, od, kV, doc, pm, an, cdv, ct, osl, rfl, lk, hcd⟩ := F.ex
  exact ⟨fun s us ws X l1 l2 => match us, l1, ws, l2 with | [_], _, [_, _], _ => .of_eq rfl, fun r1 r2 => r1.append (vals_rev r2)⟩
theorem bAlong {f : Addr} {fd : FuncData} (F : Fun K "__init__" "Along.__init__" iAlong f fd) : Binds K fd ["self", "words"] [] := F.binds fun _ _ _ _ _ _ us hl => match us, hl with | [_, _], _ => rfl
theorem kbAlong {f : Addr} {fd : FuncData} (F : Fun K "__init__" "Along.__init__" iAlong f fd) : KBn K fd ["self", "words"] 1 (["words"] : List Str).reverse (fun us ws => us ++ ws.reverse) (fun us ws => us ++ ws.reverse) := by
  obtain ⟨oc, od, kV, doc, pm, an, cdv, ct, osl, rfl, lk, hcd⟩ := F.ex
  exact ⟨fun s us ws X l1 l2 => match us, l1, ws, l2 with | [_], _, [_], _ => .of_eq rfl, fun r1 r2 => r1.append (vals_rev r2)⟩
theorem bTops {f : Addr} {fd : FuncData} (F : Fun K "__init__" "Tops.__init__" iTops f fd) : Binds K fd ["self", "one", "other"] [] := F.binds fun _ _ _ _ _ _ us hl => match us, hl with | [_, _, _], _ => rfl
theorem kbTops {f : Addr} {fd : FuncData} (F : Fun K "__init__" "Tops.__init__" iTops f fd) : KBn K fd ["self", "one", "other"] 1 (["one", "other"] : List Str).reverse (fun us ws => us ++ ws.reverse) (fun us ws => us ++ ws.reverse) := by
  obtain ⟨oc, od, kV, doc, pm, an, cdv, ct, osl, rfl, lk, hcd⟩ := F.ex
  exact ⟨fun s us ws X l1 l2 => match us, l1, ws, l2 with | [_], _, [_, _], _ => .of_eq rfl, fun r1 r2 => r1.append (vals_rev r2)⟩
theorem bTable {f : Addr} {fd : FuncData} (F : Fun K "__init__" "Table.__init__" iTable f fd) : Binds K fd ["self", "rows"] [] := F.binds fun _ _ _ _ _ _ us hl => match us, hl with | [_, _], _ => rfl
theorem kbTable {f : Addr} {fd : FuncData} (F : Fun K "__init__" "Table.__init__" iTable f fd) : KBn K fd ["self", "rows"] 1 (["rows"] : List Str).reverse (fun us ws => us ++ ws.reverse) (fun us ws => us ++ ws.reverse) := by
  obtain ⟨oc, od, kV, doc, pm, an, cdv, ct, osl, rfl, lk, hcd⟩ := F.ex
  exact ⟨fun s us ws X l1 l2 => match us, l1, ws, l2 with | [_], _, [_], _ => .of_eq rfl, fun r1 r2 => r1.append (vals_rev r2)⟩
theorem bBarred {f : Addr} {fd : FuncData} (F : Fun K "__init__" "Barred.__init__" iBarred f fd) : Binds K fd ["self", "number"] [] := F.binds fun _ _ _ _ _ _ us hl => match us, hl with | [_, _], _ => rfl
theorem kbBarred {f : Addr} {fd : FuncData} (F : Fun K "__init__" "Barred.__init__" iBarred f fd) : KBn K fd ["self", "number"] 1 (["number"] : List Str).reverse (fun us ws => us ++ ws.reverse) (fun us ws => us ++ ws.reverse) := by
  obtain ⟨oc, od, kV, doc, pm, an, cdv, ct, osl, rfl, lk, hcd⟩ := F.ex
  exact ⟨fun s us ws X l1 l2 => match us, l1, ws, l2 with | [_], _, [_], _ => .of_eq rfl, fun r1 r2 => r1.append (vals_rev r2)⟩
theorem bCrossed {f : Addr} {fd : FuncData} (F : Fun K "__init__" "Crossed.__init__" iCrossed f fd) : Binds K fd ["self", "base", "table"] [] := F.binds fun _ _ _ _ _ _ us hl => match us, hl with | [_, _, _], _ => rfl
theorem kbCrossed {f : Addr} {fd : FuncData} (F : Fun K "__init__" "Crossed.__init__" iCrossed f fd) : KBn K fd ["self", "base", "table"] 1 (["base", "table"] : List Str).reverse (fun us ws => us ++ ws.reverse) (fun us ws => us ++ ws.reverse) := by
  obtain ⟨oc, od, kV, doc, pm, an, cdv, ct, osl, rfl, lk, hcd⟩ := F.ex
  exact ⟨fun s us ws X l1 l2 => match us, l1, ws, l2 with | [_], _, [_, _], _ => .of_eq rfl, fun r1 r2 => r1.append (vals_rev r2)⟩
theorem bMoves {f : Addr} {fd : FuncData} (F : Fun K "__init__" "Moves.__init__" iMoves f fd) : Binds K fd ["self", "steps"] [] := F.binds fun _ _ _ _ _ _ us hl => match us, hl with | [_, _], _ => rfl
theorem kbMoves {f : Addr} {fd : FuncData} (F : Fun K "__init__" "Moves.__init__" iMoves f fd) : KBn K fd ["self", "steps"] 1 (["steps"] : List Str).reverse (fun us ws => us ++ ws.reverse) (fun us ws => us ++ ws.reverse) := by
  obtain ⟨oc, od, kV, doc, pm, an, cdv, ct, osl, rfl, lk, hcd⟩ := F.ex
  exact ⟨fun s us ws X l1 l2 => match us, l1, ws, l2 with | [_], _, [_], _ => .of_eq rfl, fun r1 r2 => r1.append (vals_rev r2)⟩
theorem bApart {f : Addr} {fd : FuncData} (F : Fun K "__init__" "Apart.__init__" iApart f fd) : Binds K fd ["self", "side", "limit", "rising", "falling"] [] := F.binds fun _ _ _ _ _ _ us hl => match us, hl with | [_, _, _, _, _], _ => rfl
theorem kbApart {f : Addr} {fd : FuncData} (F : Fun K "__init__" "Apart.__init__" iApart f fd) : KBn K fd ["self", "side", "limit", "rising", "falling"] 1 (["side", "limit", "rising", "falling"] : List Str).reverse (fun us ws => us ++ ws.reverse) (fun us ws => us ++ ws.reverse) := by
  obtain ⟨oc, od, kV, doc, pm, an, cdv, ct, osl, rfl, lk, hcd⟩ := F.ex
  exact ⟨fun s us ws X l1 l2 => match us, l1, ws, l2 with | [_], _, [_, _, _, _], _ => .of_eq rfl, fun r1 r2 => r1.append (vals_rev r2)⟩
theorem bLongest {f : Addr} {fd : FuncData} (F : Fun K "__init__" "Longest.__init__" iLongest f fd) : Binds K fd ["self", "rising", "falling"] [] := F.binds fun _ _ _ _ _ _ us hl => match us, hl with | [_, _, _], _ => rfl
theorem kbLongest {f : Addr} {fd : FuncData} (F : Fun K "__init__" "Longest.__init__" iLongest f fd) : KBn K fd ["self", "rising", "falling"] 1 (["rising", "falling"] : List Str).reverse (fun us ws => us ++ ws.reverse) (fun us ws => us ++ ws.reverse) := by
  obtain ⟨oc, od, kV, doc, pm, an, cdv, ct, osl, rfl, lk, hcd⟩ := F.ex
  exact ⟨fun s us ws X l1 l2 => match us, l1, ws, l2 with | [_], _, [_, _], _ => .of_eq rfl, fun r1 r2 => r1.append (vals_rev r2)⟩
theorem bFailing {f : Addr} {fd : FuncData} (F : Fun K "__init__" "Failing.__init__" iFailing f fd) : Binds K fd ["self", "left", "far", "low"] [] := F.binds fun _ _ _ _ _ _ us hl => match us, hl with | [_, _, _, _], _ => rfl
theorem kbFailing {f : Addr} {fd : FuncData} (F : Fun K "__init__" "Failing.__init__" iFailing f fd) : KBn K fd ["self", "left", "far", "low"] 1 (["left", "far", "low"] : List Str).reverse (fun us ws => us ++ ws.reverse) (fun us ws => us ++ ws.reverse) := by
  obtain ⟨oc, od, kV, doc, pm, an, cdv, ct, osl, rfl, lk, hcd⟩ := F.ex
  exact ⟨fun s us ws X l1 l2 => match us, l1, ws, l2 with | [_], _, [_, _, _], _ => .of_eq rfl, fun r1 r2 => r1.append (vals_rev r2)⟩
theorem bFollows {f : Addr} {fd : FuncData} (F : Fun K "__init__" "Follows.__init__" iFollows f fd) : Binds K fd ["self", "falls", "weights"] [] := F.binds fun _ _ _ _ _ _ us hl => match us, hl with | [_, _, _], _ => rfl
theorem kbFollows {f : Addr} {fd : FuncData} (F : Fun K "__init__" "Follows.__init__" iFollows f fd) : KBn K fd ["self", "falls", "weights"] 1 (["falls", "weights"] : List Str).reverse (fun us ws => us ++ ws.reverse) (fun us ws => us ++ ws.reverse) := by
  obtain ⟨oc, od, kV, doc, pm, an, cdv, ct, osl, rfl, lk, hcd⟩ := F.ex
  exact ⟨fun s us ws X l1 l2 => match us, l1, ws, l2 with | [_], _, [_, _], _ => .of_eq rfl, fun r1 r2 => r1.append (vals_rev r2)⟩
/-- a class from what the top has written -/
theorem ci_mk {nm qual : Str} {st : Stmt} {fields : List Str} {C f : Addr} {cd : ClassData} {oc kV dc pm cv ct : Value} {od an : Option Addr} {sl : Array (Option Value)} (X : K.In h) (G : h.Ns mainGlobals mg)
    (aC : PySem.W.nsIn K mainGlobals nm = some (some (.ref C))) (lC : PySem.W.clsIn K C = some cd) (hm : cd.mro = [.ref C, .type "object"]) (pg : PySem.W.plainGet K C Str.empty = true) (hd : PySem.W.hasDictIn K C = true) (po : PySem.W.plainOver K C = true)
    (sa : PySem.W.findIn K (.ref C) "__setattr__" = some (some (.builtin "object.__setattr__"))) (ha : PySem.W.findIn K (.ref C) "__class__" = some (some (.builtin "object.__class__")))
    (m1 : PySem.W.specialIn K (.builtin "object.__class__") "__get__" = some (some (.builtin "getset_descriptor.__get__"))) (m2 : PySem.W.takesIn K (.builtin "object.__class__") = some true)
    (mk : PySem.W.makesIn K C = true) (ini : PySem.W.findIn K (.ref C) "__init__" = some (some (.ref f))) (fn : PySem.W.isFn K (.ref f) = true) (kp : PySem.W.keepIn K (.ref C) = true)
    (eq : PySem.W.findIn K (.ref C) "__eq__" = some (some (.builtin "object.__eq__"))) (ne : PySem.W.findIn K (.ref C) "__ne__" = some (some (.builtin "object.__ne__")))
    (na : ∀ f ∈ fields, NoAttr K C f) (l1 : K.lookup f = some ⟨oc, od, .func (PySem.W.fnOf "__init__" qual (defArgs st) (defBody st) (defScope st) .none kV dc pm an cv ct), sl⟩) (c1 : PySem.W.codeIn K cv qual = true) (k1 : PySem.W.keepIn K (.ref f) = true)
    (hb : ∀ {fd : FuncData}, Fun K "__init__" qual st f fd → Binds K fd ("self" :: fields) []) (hkb : ∀ {fd : FuncData}, Fun K "__init__" qual st f fd → KBn K fd ("self" :: fields) 1 fields.reverse (fun us ws => us ++ ws.reverse) (fun us ws => us ++ ws.reverse)) :
    CI K mg nm qual st fields C f (PySem.W.fnOf "__init__" qual (defArgs st) (defBody st) (defScope st) .none kV dc pm an cv ct) := by
  have F := fun_mk (st := st) l1 c1 k1
  have cl : Cls K C := ⟨pg, hd, po, sa⟩
  have e : EqC K C := ⟨⟨cd, lC, hm⟩, eq, ne⟩
  have me : PySem.W.kitOne K (.ref C) (.ref C) = some true := if_pos (beq_self_eq_true (Value.ref C))
  exact ⟨⟨cl, ⟨cl, ha, m1, m2, e.obj, me⟩, ⟨mk, ini, fn, kp⟩, PySem.W.mg_of X G aC, e⟩, F, na, hb F, hkb F⟩
theorem na_nil {C : Addr} : ∀ f ∈ ([] : List Str), NoAttr K C f := fun _ h => nomatch h
theorem na_cons {C : Addr} {x : Str} {xs : List Str} (h : PySem.W.findIn K (.ref C) x = some none) (t : ∀ f ∈ xs, NoAttr K C f) : ∀ f ∈ x :: xs, NoAttr K C f := fun f hf => (List.mem_cons.mp hf).elim (fun e => by rw [e]; exact h) (t f)
end
/-- the law's promise, run from the claim's caller -/
abbrev LawRun (P : Program) (w : World) (K : PySem.W.Frag) (mg : Str → Option Value) (fa : Addr) : Prop := ∀ (base : Heap) (H : Hp) (s : Shared) (a : Addr) (ns : List Int), ns.length ≤ 63 → SqL K H a (ns.map V.int) → Env0 P w K mg base callerA [] s H →
  codeAny (model P w) callerA (.call (.ref fa) ⟨[.ref a], []⟩) (CR CX0 [] P w H s (fun v _ => v = .bl true) fun _ _ _ => False) s
theorem walk_g {l : PySem.W.OpenLaw} {q : Program} {loose : List Str} {XP : (Str → Option Value) → Heap → Prop} {YP : World → Heap → Prop} {d : DefRec} {K : Params → PySem.W.Frag} (hn : l.most = some 63) (hdf : d.params.defaults = []) (hY : ∀ (w : World) (h : Heap), YP w h → (K w.params).In h)
    (F : ∀ (w : World) (mg : Str → Option Value) (fa : Addr) (h : Heap), (K w.params).In h → h.Ns mainGlobals mg → mg d.name = some (.ref fa) → LawRun l.prog w (K w.params) mg fa) : PySem.W.WalkO q loose XP YP l.row.toRowW d [] (fun f vs => PySem.call f vs) :=
  Att.attach_call hn hdf (fun w _ s1 mg mb fa _ _ _ _ a vs ns G Y _ _ _ hmg hobj hints hlen hgn => told_of (hY w _ Y) G.T.g G.T.b G.T.builtins G.T.nolimit hgn hobj hints (Nat.le_trans hlen (by decide)) fun base H _ _ hS e0 => F w mg fa _ (hY w _ Y) G.T.g hmg base H s1 a ns hlen hS e0)
theorem law_all {P : Program} {w : World} {K : PySem.W.Frag} {mg : Str → Option Value} {h : Heap} {fa : Addr} {fC : Addr} {odC anC : Option Addr} {slC : Array (Option Value)} {ocC kVC dcC pmC cdC ctC : Value} {fPen : Addr} {odPen anPen : Option Addr} {slPen : Array (Option Value)} {ocPen kVPen dcPen pmPen cdPen ctPen : Value} {fD : Addr} {odD anD : Option Addr} {slD : Array (Option Value)} {ocD kVD dcD pmD cdD ctD : Value} {fP : Addr} {odP anP : Option Addr} {slP : Array (Option Value)} {ocP kVP dcP pmP cdP ctP : Value} {fA : Addr} {odA anA : Option Addr} {slA : Array (Option Value)} {ocA kVA dcA pmA cdA ctA : Value} {fB : Addr} {odB anB : Option Addr} {slB : Array (Option Value)} {ocB kVB dcB pmB cdB ctB : Value} {fV : Addr} {odV anV : Option Addr} {slV : Array (Option Value)} {ocV kVV dcV pmV cdV ctV : Value} {fL : Addr} {odL anL : Option Addr} {slL : Array (Option Value)} {ocL kVL dcL pmL cdL ctL : Value} {fLaw : Addr} {odLaw anLaw : Option Addr} {slLaw : Array (Option Value)} {ocLaw kVLaw dcLaw pmLaw cdLaw ctLaw : Value} {CMade fMade : Addr} {dMade : FuncData} {CUnmade fUnmade : Addr} {dUnmade : FuncData} {CHeld fHeld : Addr} {dHeld : FuncData} {CUnheld fUnheld : Addr} {dUnheld : FuncData} {CKeptRoom fKeptRoom : Addr} {dKeptRoom : FuncData} {CPair fPair : Addr} {dPair : FuncData} {CHived fHived : Addr} {dHived : FuncData} {CUnhived fUnhived : Addr} {dUnhived : FuncData} {CTop fTop : Addr} {dTop : FuncData} {CWeb fWeb : Addr} {dWeb : FuncData} {CAlong fAlong : Addr} {dAlong : FuncData} {CTops fTops : Addr} {dTops : FuncData} {CTable fTable : Addr} {dTable : FuncData} {CBarred fBarred : Addr} {dBarred : FuncData} {CCrossed fCrossed : Addr} {dCrossed : FuncData} {CMoves fMoves : Addr} {dMoves : FuncData} {CApart fApart : Addr} {dApart : FuncData} {CLongest fLongest : Addr} {dLongest : FuncData} {CFailing fFailing : Addr} {dFailing : FuncData} {CFollows fFollows : Addr} {dFollows : FuncData} {CLeads fLeads : Addr} {dLeads : FuncData} {CStops fStops : Addr} {dStops : FuncData} (X : K.In h) (G : h.Ns mainGlobals mg) (hfa : mg "law" = some (.ref fa))
    (aC : PySem.W.nsIn K mainGlobals "copied" = some (some (.ref fC))) (lC : K.lookup fC = some ⟨ocC, odC, .func (PySem.W.fnOf "copied" "copied" (defArgs sCopied) (defBody sCopied) (defScope sCopied) .none kVC dcC pmC anC cdC ctC), slC⟩) (cC : PySem.W.codeIn K cdC "copied" = true) (kC : PySem.W.keepIn K (.ref fC) = true)
    (aPen : PySem.W.nsIn K mainGlobals "_law_pen" = some (some (.ref fPen))) (lPen : K.lookup fPen = some ⟨ocPen, odPen, .func (PySem.W.fnOf "_law_pen" "_law_pen" (defArgs sPen) (defBody sPen) (defScope sPen) .none kVPen dcPen pmPen anPen cdPen ctPen), slPen⟩) (cPen : PySem.W.codeIn K cdPen "_law_pen" = true) (kPen : PySem.W.keepIn K (.ref fPen) = true)
    (aD : PySem.W.nsIn K mainGlobals "_law_draw" = some (some (.ref fD))) (lD : K.lookup fD = some ⟨ocD, odD, .func (PySem.W.fnOf "_law_draw" "_law_draw" (defArgs sDraw) (defBody sDraw) (defScope sDraw) .none kVD dcD pmD anD cdD ctD), slD⟩) (cD : PySem.W.codeIn K cdD "_law_draw" = true) (kD : PySem.W.keepIn K (.ref fD) = true)
    (aP : PySem.W.nsIn K mainGlobals "_law_pick" = some (some (.ref fP))) (lP : K.lookup fP = some ⟨ocP, odP, .func (PySem.W.fnOf "_law_pick" "_law_pick" (defArgs sPick) (defBody sPick) (defScope sPick) .none kVP dcP pmP anP cdP ctP), slP⟩) (cP : PySem.W.codeIn K cdP "_law_pick" = true) (kP : PySem.W.keepIn K (.ref fP) = true)
    (aA : PySem.W.nsIn K mainGlobals "_law_made_a" = some (some (.ref fA))) (lA : K.lookup fA = some ⟨ocA, odA, .func (PySem.W.fnOf "_law_made_a" "_law_made_a" (defArgs sMadeA) (defBody sMadeA) (defScope sMadeA) .none kVA dcA pmA anA cdA ctA), slA⟩) (cA : PySem.W.codeIn K cdA "_law_made_a" = true) (kA : PySem.W.keepIn K (.ref fA) = true)
    (aB : PySem.W.nsIn K mainGlobals "_law_made_b" = some (some (.ref fB))) (lB : K.lookup fB = some ⟨ocB, odB, .func (PySem.W.fnOf "_law_made_b" "_law_made_b" (defArgs sMadeB) (defBody sMadeB) (defScope sMadeB) .none kVB dcB pmB anB cdB ctB), slB⟩) (cB : PySem.W.codeIn K cdB "_law_made_b" = true) (kB : PySem.W.keepIn K (.ref fB) = true)
    (aV : PySem.W.nsIn K mainGlobals "_law_value" = some (some (.ref fV))) (lV : K.lookup fV = some ⟨ocV, odV, .func (PySem.W.fnOf "_law_value" "_law_value" (defArgs sValue) (defBody sValue) (defScope sValue) .none kVV dcV pmV anV cdV ctV), slV⟩) (cV : PySem.W.codeIn K cdV "_law_value" = true) (kV : PySem.W.keepIn K (.ref fV) = true)
    (aL : PySem.W.nsIn K mainGlobals "_law_copy" = some (some (.ref fL))) (lL : K.lookup fL = some ⟨ocL, odL, .func (PySem.W.fnOf "_law_copy" "_law_copy" (defArgs sLawCopy) (defBody sLawCopy) (defScope sLawCopy) .none kVL dcL pmL anL cdL ctL), slL⟩) (cL : PySem.W.codeIn K cdL "_law_copy" = true) (kL : PySem.W.keepIn K (.ref fL) = true)
    (aLaw : PySem.W.nsIn K mainGlobals "law" = some (some (.ref fLaw))) (lLaw : K.lookup fLaw = some ⟨ocLaw, odLaw, .func (PySem.W.fnOf "law" "law" (defArgs sLaw) (defBody sLaw) (defScope sLaw) .none kVLaw dcLaw pmLaw anLaw cdLaw ctLaw), slLaw⟩) (cLaw : PySem.W.codeIn K cdLaw "law" = true) (kLaw : PySem.W.keepIn K (.ref fLaw) = true)
    (z_len : PySem.W.nsIn K mainGlobals "len" = some none)
    (z_int : PySem.W.nsIn K mainGlobals "int" = some none)
    (z_range : PySem.W.nsIn K mainGlobals "range" = some none)
    (z_list : PySem.W.nsIn K mainGlobals "list" = some none)
    (z_isinstance : PySem.W.nsIn K mainGlobals "isinstance" = some none)
    (z_tuple : PySem.W.nsIn K mainGlobals "tuple" = some none)
    (z_repr : PySem.W.nsIn K mainGlobals "repr" = some none)
    (tMade : CI K mg "Made" "Made.__init__" iMade ["first", "second"] CMade fMade dMade)
    (tUnmade : CI K mg "Unmade" "Unmade.__init__" iUnmade ["prime", "triple"] CUnmade fUnmade dUnmade)
    (tHeld : CI K mg "Held" "Held.__init__" iHeld ["rows"] CHeld fHeld dHeld)
    (tUnheld : CI K mg "Unheld" "Unheld.__init__" iUnheld ["triple"] CUnheld fUnheld dUnheld)
    (tKeptRoom : CI K mg "KeptRoom" "KeptRoom.__init__" iKeptRoom ["step", "room"] CKeptRoom fKeptRoom dKeptRoom)
    (tPair : CI K mg "Pair" "Pair.__init__" iPair ["filling", "order"] CPair fPair dPair)
    (tHived : CI K mg "Hived" "Hived.__init__" iHived ["triangle"] CHived fHived dHived)
    (tUnhived : CI K mg "Unhived" "Unhived.__init__" iUnhived ["one", "other", "whole"] CUnhived fUnhived dUnhived)
    (tTop : CI K mg "Top" "Top.__init__" iTop ["word", "steps"] CTop fTop dTop)
    (tWeb : CI K mg "Web" "Web.__init__" iWeb ["words", "ways"] CWeb fWeb dWeb)
    (tAlong : CI K mg "Along" "Along.__init__" iAlong ["words"] CAlong fAlong dAlong)
    (tTops : CI K mg "Tops" "Tops.__init__" iTops ["one", "other"] CTops fTops dTops)
    (tTable : CI K mg "Table" "Table.__init__" iTable ["rows"] CTable fTable dTable)
    (tBarred : CI K mg "Barred" "Barred.__init__" iBarred ["number"] CBarred fBarred dBarred)
    (tCrossed : CI K mg "Crossed" "Crossed.__init__" iCrossed ["base", "table"] CCrossed fCrossed dCrossed)
    (tMoves : CI K mg "Moves" "Moves.__init__" iMoves ["steps"] CMoves fMoves dMoves)
    (tApart : CI K mg "Apart" "Apart.__init__" iApart ["side", "limit", "rising", "falling"] CApart fApart dApart)
    (tLongest : CI K mg "Longest" "Longest.__init__" iLongest ["rising", "falling"] CLongest fLongest dLongest)
    (tFailing : CI K mg "Failing" "Failing.__init__" iFailing ["left", "far", "low"] CFailing fFailing dFailing)
    (tFollows : CI K mg "Follows" "Follows.__init__" iFollows ["falls", "weights"] CFollows fFollows dFollows)
    (tLeads : CI K mg "Leads" "Leads.__init__" iLeads ["steps"] CLeads fLeads dLeads)
    (tStops : CI K mg "Stops" "Stops.__init__" iStops ["number"] CStops fStops dStops) : LawRun P w K mg fa := by
  have e := hfa.symm.trans (PySem.W.mg_of X G aLaw)
  cases e
  have FC := fun_mk (st := sCopied) lC cC kC
  have bC := FC.binds (ps := ["value"]) fun _ _ _ _ _ _ us hl => match us, hl with | [_], _ => rfl
  have gC := PySem.W.mg_of X G aC
  have FPen := fun_mk (st := sPen) lPen cPen kPen
  have bPen := FPen.binds (ps := ["script"]) fun _ _ _ _ _ _ us hl => match us, hl with | [_], _ => rfl
  have gPen := PySem.W.mg_of X G aPen
  have FD := fun_mk (st := sDraw) lD cD kD
  have bD := FD.binds (ps := ["pen", "many"]) fun _ _ _ _ _ _ us hl => match us, hl with | [_, _], _ => rfl
  have gD := PySem.W.mg_of X G aD
  have FP := fun_mk (st := sPick) lP cP kP
  have bP := FP.binds (ps := ["pen", "some"]) fun _ _ _ _ _ _ us hl => match us, hl with | [_, _], _ => rfl
  have gP := PySem.W.mg_of X G aP
  have FA := fun_mk (st := sMadeA) lA cA kA
  have bA := FA.binds (ps := ["a", "b", "c", "d"]) fun _ _ _ _ _ _ us hl => match us, hl with | [_, _, _, _], _ => rfl
  have gA := PySem.W.mg_of X G aA
  have FB := fun_mk (st := sMadeB) lB cB kB
  have bB := FB.binds (ps := ["a", "b", "c", "d"]) fun _ _ _ _ _ _ us hl => match us, hl with | [_, _, _, _], _ => rfl
  have gB := PySem.W.mg_of X G aB
  have FV := fun_mk (st := sValue) lV cV kV
  have bV := FV.binds (ps := ["pen"]) fun _ _ _ _ _ _ us hl => match us, hl with | [_], _ => rfl
  have gV := PySem.W.mg_of X G aV
  have FL := fun_mk (st := sLawCopy) lL cL kL
  have bL := FL.binds (ps := ["value"]) fun _ _ _ _ _ _ us hl => match us, hl with | [_], _ => rfl
  have gL := PySem.W.mg_of X G aL
  have FLaw := fun_mk (st := sLaw) lLaw cLaw kLaw
  have m_len := PySem.W.mg_none_of X G z_len
  have m_int := PySem.W.mg_none_of X G z_int
  have m_range := PySem.W.mg_none_of X G z_range
  have m_list := PySem.W.mg_none_of X G z_list
  have m_isinstance := PySem.W.mg_none_of X G z_isinstance
  have m_tuple := PySem.W.mg_none_of X G z_tuple
  have m_repr := PySem.W.mg_none_of X G z_repr
  have TC : Com K mg fC _ := ⟨FC, bC, gC, m_isinstance, m_list, m_tuple⟩
  intro base H s a ns hlen hS e0
  have hr : Room 5 callerA := ⟨rfl, by decide, by decide⟩
  have GA : FnOk P w K mg base CX0 4 fA _ ["a", "b", "c", "d"] (spMade K) := okMadeA FA TC ⟨tMade, tUnmade, tHeld, tUnheld, tKeptRoom, tPair, tHived, tUnhived, tTop, tWeb, tAlong⟩
  have GB : FnOk P w K mg base CX0 4 fB _ ["a", "b", "c", "d"] (spMade K) := okMadeB FB TC ⟨tTops, tTable, tBarred, tCrossed, tMoves, tApart, tLongest, tFailing, tFollows, tLeads, tStops⟩
  have GV : FnOk P w K mg base CX0 3 fV _ ["pen"] (spValue K) := ok_value FV FP bP gP FD bD gD m_len m_int m_range
  obtain ⟨t, ht, hq⟩ := law_body (P := P) (w := w) (base := base) (f := fa) (cdv := cdLaw) (A := callerA) (outer := []) (s := s) (H := H) (E := fun _ _ _ => False) (Q := fun v _ => v = .bl true) tLeads TC m_len m_repr m_int m_range FD bD gD FL bL gL FPen bPen gPen GV FV.kp bV gV GA FA.kp bA gA GB FB.kp bB gB (hr.deeper _) rfl hS (Nat.le_trans hlen (by decide)) (fun _ => rfl)
  exact at_one (N := lN) (ps := ["script"]) (k := 4) (us := [.ref a]) (vs := [.ref a]) lLaw cLaw scLaw rfl hr e0 (.of_eq rfl) (.cons rfl .nil) ⟨t, ht.nox, hq⟩
end Kc

open PySem PySem.W PyProof.Rows
set_option maxHeartbeats 0 in
theorem PySem.Challenge.cw_boxfillings_k82_classes_made_by_hand_holds : PySem.Challenge.rw_boxfillings_k82_classes_made_by_hand.Holds := by
  w_on; o_law; k_head; (case hw => w_witness2)
  k_fill
  refine Kc.walk_g (l := PySem.Challenge.rw_boxfillings_k82_classes_made_by_hand) rfl rfl (fun w h Y => PySem.W.kIn_of Y) ?F
  case F =>
    intro w mg fa h KX G hmg
    refine' Kc.law_all KX G hmg ?aC ?lC ?cC ?kC ?aPen ?lPen ?cPen ?kPen ?aD ?lD ?cD ?kD ?aP ?lP ?cP ?kP ?aA ?lA ?cA ?kA ?aB ?lB ?cB ?kB ?aV ?lV ?cV ?kV ?aL ?lL ?cL ?kL ?aLaw ?lLaw ?cLaw ?kLaw ?z_len ?z_int ?z_range ?z_list ?z_isinstance ?z_tuple ?z_repr ?tMade ?tUnmade ?tHeld ?tUnheld ?tKeptRoom ?tPair ?tHived ?tUnhived ?tTop ?tWeb ?tAlong ?tTops ?tTable ?tBarred ?tCrossed ?tMoves ?tApart ?tLongest ?tFailing ?tFollows ?tLeads ?tStops
    (case aC => k_is)
    (case lC => k_is)
    (case cC => k_is)
    (case kC => k_is)
    (case aPen => k_is)
    (case lPen => k_is)
    (case cPen => k_is)
    (case kPen => k_is)
    (case aD => k_is)
    (case lD => k_is)
    (case cD => k_is)
    (case kD => k_is)
    (case aP => k_is)
    (case lP => k_is)
    (case cP => k_is)
    (case kP => k_is)
    (case aA => k_is)
    (case lA => k_is)
    (case cA => k_is)
    (case kA => k_is)
    (case aB => k_is)
    (case lB => k_is)
    (case cB => k_is)
    (case kB => k_is)
    (case aV => k_is)
    (case lV => k_is)
    (case cV => k_is)
    (case kV => k_is)
    (case aL => k_is)
    (case lL => k_is)
    (case cL => k_is)
    (case kL => k_is)
    (case aLaw => k_is)
    (case lLaw => k_is)
    (case cLaw => k_is)
    (case kLaw => k_is)
    (case z_len => k_is)
    (case z_int => k_is)
    (case z_range => k_is)
    (case z_list => k_is)
    (case z_isinstance => k_is)
    (case z_tuple => k_is)
    (case z_repr => k_is)
    (case tMade =>
      refine' Kc.ci_mk KX G ?aC ?lC ?hm ?pg ?hd ?po ?sa ?ha ?m1 ?m2 ?mk ?ini ?fn ?kp ?eq ?ne (Kc.na_cons ?n0 (Kc.na_cons ?n1 Kc.na_nil)) ?l1 ?c1 ?k1 Kc.bMade Kc.kbMade
      (case aC => k_is)
      (case lC => k_is)
      (case hm => rfl)
      (case pg => k_is)
      (case hd => k_is)
      (case po => k_is)
      (case sa => k_is)
      (case ha => k_is)
      (case m1 => k_is)
      (case m2 => k_is)
      (case mk => k_is)
      (case ini => k_is)
      (case fn => k_is)
      (case kp => k_is)
      (case eq => k_is)
      (case ne => k_is)
      (case n0 => k_is)
      (case n1 => k_is)
      (case l1 => k_is)
      (case c1 => k_is)
      (case k1 => k_is))
    (case tUnmade =>
      refine' Kc.ci_mk KX G ?aC ?lC ?hm ?pg ?hd ?po ?sa ?ha ?m1 ?m2 ?mk ?ini ?fn ?kp ?eq ?ne (Kc.na_cons ?n0 (Kc.na_cons ?n1 Kc.na_nil)) ?l1 ?c1 ?k1 Kc.bUnmade Kc.kbUnmade
      (case aC => k_is)
      (case lC => k_is)
      (case hm => rfl)
      (case pg => k_is)
      (case hd => k_is)
      (case po => k_is)
      (case sa => k_is)
      (case ha => k_is)
      (case m1 => k_is)
      (case m2 => k_is)
      (case mk => k_is)
      (case ini => k_is)
      (case fn => k_is)
      (case kp => k_is)
      (case eq => k_is)
      (case ne => k_is)
      (case n0 => k_is)
      (case n1 => k_is)
      (case l1 => k_is)
      (case c1 => k_is)
      (case k1 => k_is))
    (case tHeld =>
      refine' Kc.ci_mk KX G ?aC ?lC ?hm ?pg ?hd ?po ?sa ?ha ?m1 ?m2 ?mk ?ini ?fn ?kp ?eq ?ne (Kc.na_cons ?n0 Kc.na_nil) ?l1 ?c1 ?k1 Kc.bHeld Kc.kbHeld
      (case aC => k_is)
      (case lC => k_is)
      (case hm => rfl)
      (case pg => k_is)
      (case hd => k_is)
      (case po => k_is)
      (case sa => k_is)
      (case ha => k_is)
      (case m1 => k_is)
      (case m2 => k_is)
      (case mk => k_is)
      (case ini => k_is)
      (case fn => k_is)
      (case kp => k_is)
      (case eq => k_is)
      (case ne => k_is)
      (case n0 => k_is)
      (case l1 => k_is)
      (case c1 => k_is)
      (case k1 => k_is))
    (case tUnheld =>
      refine' Kc.ci_mk KX G ?aC ?lC ?hm ?pg ?hd ?po ?sa ?ha ?m1 ?m2 ?mk ?ini ?fn ?kp ?eq ?ne (Kc.na_cons ?n0 Kc.na_nil) ?l1 ?c1 ?k1 Kc.bUnheld Kc.kbUnheld
      (case aC => k_is)
      (case lC => k_is)
      (case hm => rfl)
      (case pg => k_is)
      (case hd => k_is)
      (case po => k_is)
      (case sa => k_is)
      (case ha => k_is)
      (case m1 => k_is)
      (case m2 => k_is)
      (case mk => k_is)
      (case ini => k_is)
      (case fn => k_is)
      (case kp => k_is)
      (case eq => k_is)
      (case ne => k_is)
      (case n0 => k_is)
      (case l1 => k_is)
      (case c1 => k_is)
      (case k1 => k_is))
    (case tKeptRoom =>
      refine' Kc.ci_mk KX G ?aC ?lC ?hm ?pg ?hd ?po ?sa ?ha ?m1 ?m2 ?mk ?ini ?fn ?kp ?eq ?ne (Kc.na_cons ?n0 (Kc.na_cons ?n1 Kc.na_nil)) ?l1 ?c1 ?k1 Kc.bKeptRoom Kc.kbKeptRoom
      (case aC => k_is)
      (case lC => k_is)
      (case hm => rfl)
      (case pg => k_is)
      (case hd => k_is)
      (case po => k_is)
      (case sa => k_is)
      (case ha => k_is)
      (case m1 => k_is)
      (case m2 => k_is)
      (case mk => k_is)
      (case ini => k_is)
      (case fn => k_is)
      (case kp => k_is)
      (case eq => k_is)
      (case ne => k_is)
      (case n0 => k_is)
      (case n1 => k_is)
      (case l1 => k_is)
      (case c1 => k_is)
      (case k1 => k_is))
    (case tPair =>
      refine' Kc.ci_mk KX G ?aC ?lC ?hm ?pg ?hd ?po ?sa ?ha ?m1 ?m2 ?mk ?ini ?fn ?kp ?eq ?ne (Kc.na_cons ?n0 (Kc.na_cons ?n1 Kc.na_nil)) ?l1 ?c1 ?k1 Kc.bPair Kc.kbPair
      (case aC => k_is)
      (case lC => k_is)
      (case hm => rfl)
      (case pg => k_is)
      (case hd => k_is)
      (case po => k_is)
      (case sa => k_is)
      (case ha => k_is)
      (case m1 => k_is)
      (case m2 => k_is)
      (case mk => k_is)
      (case ini => k_is)
      (case fn => k_is)
      (case kp => k_is)
      (case eq => k_is)
      (case ne => k_is)
      (case n0 => k_is)
      (case n1 => k_is)
      (case l1 => k_is)
      (case c1 => k_is)
      (case k1 => k_is))
    (case tHived =>
      refine' Kc.ci_mk KX G ?aC ?lC ?hm ?pg ?hd ?po ?sa ?ha ?m1 ?m2 ?mk ?ini ?fn ?kp ?eq ?ne (Kc.na_cons ?n0 Kc.na_nil) ?l1 ?c1 ?k1 Kc.bHived Kc.kbHived
      (case aC => k_is)
      (case lC => k_is)
      (case hm => rfl)
      (case pg => k_is)
      (case hd => k_is)
      (case po => k_is)
      (case sa => k_is)
      (case ha => k_is)
      (case m1 => k_is)
      (case m2 => k_is)
      (case mk => k_is)
      (case ini => k_is)
      (case fn => k_is)
      (case kp => k_is)
      (case eq => k_is)
      (case ne => k_is)
      (case n0 => k_is)
      (case l1 => k_is)
      (case c1 => k_is)
      (case k1 => k_is))
    (case tUnhived =>
      refine' Kc.ci_mk KX G ?aC ?lC ?hm ?pg ?hd ?po ?sa ?ha ?m1 ?m2 ?mk ?ini ?fn ?kp ?eq ?ne (Kc.na_cons ?n0 (Kc.na_cons ?n1 (Kc.na_cons ?n2 Kc.na_nil))) ?l1 ?c1 ?k1 Kc.bUnhived Kc.kbUnhived
      (case aC => k_is)
      (case lC => k_is)
      (case hm => rfl)
      (case pg => k_is)
      (case hd => k_is)
      (case po => k_is)
      (case sa => k_is)
      (case ha => k_is)
      (case m1 => k_is)
      (case m2 => k_is)
      (case mk => k_is)
      (case ini => k_is)
      (case fn => k_is)
      (case kp => k_is)
      (case eq => k_is)
      (case ne => k_is)
      (case n0 => k_is)
      (case n1 => k_is)
      (case n2 => k_is)
      (case l1 => k_is)
      (case c1 => k_is)
      (case k1 => k_is))
    (case tTop =>
      refine' Kc.ci_mk KX G ?aC ?lC ?hm ?pg ?hd ?po ?sa ?ha ?m1 ?m2 ?mk ?ini ?fn ?kp ?eq ?ne (Kc.na_cons ?n0 (Kc.na_cons ?n1 Kc.na_nil)) ?l1 ?c1 ?k1 Kc.bTop Kc.kbTop
      (case aC => k_is)
      (case lC => k_is)
      (case hm => rfl)
      (case pg => k_is)
      (case hd => k_is)
      (case po => k_is)
      (case sa => k_is)
      (case ha => k_is)
      (case m1 => k_is)
      (case m2 => k_is)
      (case mk => k_is)
      (case ini => k_is)
      (case fn => k_is)
      (case kp => k_is)
      (case eq => k_is)
      (case ne => k_is)
      (case n0 => k_is)
      (case n1 => k_is)
      (case l1 => k_is)
      (case c1 => k_is)
      (case k1 => k_is))
    (case tWeb =>
      refine' Kc.ci_mk KX G ?aC ?lC ?hm ?pg ?hd ?po ?sa ?ha ?m1 ?m2 ?mk ?ini ?fn ?kp ?eq ?ne (Kc.na_cons ?n0 (Kc.na_cons ?n1 Kc.na_nil)) ?l1 ?c1 ?k1 Kc.bWeb Kc.kbWeb
      (case aC => k_is)
      (case lC => k_is)
      (case hm => rfl)
      (case pg => k_is)
      (case hd => k_is)
      (case po => k_is)
      (case sa => k_is)
      (case ha => k_is)
      (case m1 => k_is)
      (case m2 => k_is)
      (case mk => k_is)
      (case ini => k_is)
      (case fn => k_is)
      (case kp => k_is)
      (case eq => k_is)
      (case ne => k_is)
      (case n0 => k_is)
      (case n1 => k_is)
      (case l1 => k_is)
      (case c1 => k_is)
      (case k1 => k_is))
    (case tAlong =>
      refine' Kc.ci_mk KX G ?aC ?lC ?hm ?pg ?hd ?po ?sa ?ha ?m1 ?m2 ?mk ?ini ?fn ?kp ?eq ?ne (Kc.na_cons ?n0 Kc.na_nil) ?l1 ?c1 ?k1 Kc.bAlong Kc.kbAlong
      (case aC => k_is)
      (case lC => k_is)
      (case hm => rfl)
      (case pg => k_is)
      (case hd => k_is)
      (case po => k_is)
      (case sa => k_is)
      (case ha => k_is)
      (case m1 => k_is)
      (case m2 => k_is)
      (case mk => k_is)
      (case ini => k_is)
      (case fn => k_is)
      (case kp => k_is)
      (case eq => k_is)
      (case ne => k_is)
      (case n0 => k_is)
      (case l1 => k_is)
      (case c1 => k_is)
      (case k1 => k_is))
    (case tTops =>
      refine' Kc.ci_mk KX G ?aC ?lC ?hm ?pg ?hd ?po ?sa ?ha ?m1 ?m2 ?mk ?ini ?fn ?kp ?eq ?ne (Kc.na_cons ?n0 (Kc.na_cons ?n1 Kc.na_nil)) ?l1 ?c1 ?k1 Kc.bTops Kc.kbTops
      (case aC => k_is)
      (case lC => k_is)
      (case hm => rfl)
      (case pg => k_is)
      (case hd => k_is)
      (case po => k_is)
      (case sa => k_is)
      (case ha => k_is)
      (case m1 => k_is)
      (case m2 => k_is)
      (case mk => k_is)
      (case ini => k_is)
      (case fn => k_is)
      (case kp => k_is)
      (case eq => k_is)
      (case ne => k_is)
      (case n0 => k_is)
      (case n1 => k_is)
      (case l1 => k_is)
      (case c1 => k_is)
      (case k1 => k_is))
    (case tTable =>
      refine' Kc.ci_mk KX G ?aC ?lC ?hm ?pg ?hd ?po ?sa ?ha ?m1 ?m2 ?mk ?ini ?fn ?kp ?eq ?ne (Kc.na_cons ?n0 Kc.na_nil) ?l1 ?c1 ?k1 Kc.bTable Kc.kbTable
      (case aC => k_is)
      (case lC => k_is)
      (case hm => rfl)
      (case pg => k_is)
      (case hd => k_is)
      (case po => k_is)
      (case sa => k_is)
      (case ha => k_is)
      (case m1 => k_is)
      (case m2 => k_is)
      (case mk => k_is)
      (case ini => k_is)
      (case fn => k_is)
      (case kp => k_is)
      (case eq => k_is)
      (case ne => k_is)
      (case n0 => k_is)
      (case l1 => k_is)
      (case c1 => k_is)
      (case k1 => k_is))
    (case tBarred =>
      refine' Kc.ci_mk KX G ?aC ?lC ?hm ?pg ?hd ?po ?sa ?ha ?m1 ?m2 ?mk ?ini ?fn ?kp ?eq ?ne (Kc.na_cons ?n0 Kc.na_nil) ?l1 ?c1 ?k1 Kc.bBarred Kc.kbBarred
      (case aC => k_is)
      (case lC => k_is)
      (case hm => rfl)
      (case pg => k_is)
      (case hd => k_is)
      (case po => k_is)
      (case sa => k_is)
      (case ha => k_is)
      (case m1 => k_is)
      (case m2 => k_is)
      (case mk => k_is)
      (case ini => k_is)
      (case fn => k_is)
      (case kp => k_is)
      (case eq => k_is)
      (case ne => k_is)
      (case n0 => k_is)
      (case l1 => k_is)
      (case c1 => k_is)
      (case k1 => k_is))
    (case tCrossed =>
      refine' Kc.ci_mk KX G ?aC ?lC ?hm ?pg ?hd ?po ?sa ?ha ?m1 ?m2 ?mk ?ini ?fn ?kp ?eq ?ne (Kc.na_cons ?n0 (Kc.na_cons ?n1 Kc.na_nil)) ?l1 ?c1 ?k1 Kc.bCrossed Kc.kbCrossed
      (case aC => k_is)
      (case lC => k_is)
      (case hm => rfl)
      (case pg => k_is)
      (case hd => k_is)
      (case po => k_is)
      (case sa => k_is)
      (case ha => k_is)
      (case m1 => k_is)
      (case m2 => k_is)
      (case mk => k_is)
      (case ini => k_is)
      (case fn => k_is)
      (case kp => k_is)
      (case eq => k_is)
      (case ne => k_is)
      (case n0 => k_is)
      (case n1 => k_is)
      (case l1 => k_is)
      (case c1 => k_is)
      (case k1 => k_is))
    (case tMoves =>
      refine' Kc.ci_mk KX G ?aC ?lC ?hm ?pg ?hd ?po ?sa ?ha ?m1 ?m2 ?mk ?ini ?fn ?kp ?eq ?ne (Kc.na_cons ?n0 Kc.na_nil) ?l1 ?c1 ?k1 Kc.bMoves Kc.kbMoves
      (case aC => k_is)
      (case lC => k_is)
      (case hm => rfl)
      (case pg => k_is)
      (case hd => k_is)
      (case po => k_is)
      (case sa => k_is)
      (case ha => k_is)
      (case m1 => k_is)
      (case m2 => k_is)
      (case mk => k_is)
      (case ini => k_is)
      (case fn => k_is)
      (case kp => k_is)
      (case eq => k_is)
      (case ne => k_is)
      (case n0 => k_is)
      (case l1 => k_is)
      (case c1 => k_is)
      (case k1 => k_is))
    (case tApart =>
      refine' Kc.ci_mk KX G ?aC ?lC ?hm ?pg ?hd ?po ?sa ?ha ?m1 ?m2 ?mk ?ini ?fn ?kp ?eq ?ne (Kc.na_cons ?n0 (Kc.na_cons ?n1 (Kc.na_cons ?n2 (Kc.na_cons ?n3 Kc.na_nil)))) ?l1 ?c1 ?k1 Kc.bApart Kc.kbApart
      (case aC => k_is)
      (case lC => k_is)
      (case hm => rfl)
      (case pg => k_is)
      (case hd => k_is)
      (case po => k_is)
      (case sa => k_is)
      (case ha => k_is)
      (case m1 => k_is)
      (case m2 => k_is)
      (case mk => k_is)
      (case ini => k_is)
      (case fn => k_is)
      (case kp => k_is)
      (case eq => k_is)
      (case ne => k_is)
      (case n0 => k_is)
      (case n1 => k_is)
      (case n2 => k_is)
      (case n3 => k_is)
      (case l1 => k_is)
      (case c1 => k_is)
      (case k1 => k_is))
    (case tLongest =>
      refine' Kc.ci_mk KX G ?aC ?lC ?hm ?pg ?hd ?po ?sa ?ha ?m1 ?m2 ?mk ?ini ?fn ?kp ?eq ?ne (Kc.na_cons ?n0 (Kc.na_cons ?n1 Kc.na_nil)) ?l1 ?c1 ?k1 Kc.bLongest Kc.kbLongest
      (case aC => k_is)
      (case lC => k_is)
      (case hm => rfl)
      (case pg => k_is)
      (case hd => k_is)
      (case po => k_is)
      (case sa => k_is)
      (case ha => k_is)
      (case m1 => k_is)
      (case m2 => k_is)
      (case mk => k_is)
      (case ini => k_is)
      (case fn => k_is)
      (case kp => k_is)
      (case eq => k_is)
      (case ne => k_is)
      (case n0 => k_is)
      (case n1 => k_is)
      (case l1 => k_is)
      (case c1 => k_is)
      (case k1 => k_is))
    (case tFailing =>
      refine' Kc.ci_mk KX G ?aC ?lC ?hm ?pg ?hd ?po ?sa ?ha ?m1 ?m2 ?mk ?ini ?fn ?kp ?eq ?ne (Kc.na_cons ?n0 (Kc.na_cons ?n1 (Kc.na_cons ?n2 Kc.na_nil))) ?l1 ?c1 ?k1 Kc.bFailing Kc.kbFailing
      (case aC => k_is)
      (case lC => k_is)
      (case hm => rfl)
      (case pg => k_is)
      (case hd => k_is)
      (case po => k_is)
      (case sa => k_is)
      (case ha => k_is)
      (case m1 => k_is)
      (case m2 => k_is)
      (case mk => k_is)
      (case ini => k_is)
      (case fn => k_is)
      (case kp => k_is)
      (case eq => k_is)
      (case ne => k_is)
      (case n0 => k_is)
      (case n1 => k_is)
      (case n2 => k_is)
      (case l1 => k_is)
      (case c1 => k_is)
      (case k1 => k_is))
    (case tFollows =>
      refine' Kc.ci_mk KX G ?aC ?lC ?hm ?pg ?hd ?po ?sa ?ha ?m1 ?m2 ?mk ?ini ?fn ?kp ?eq ?ne (Kc.na_cons ?n0 (Kc.na_cons ?n1 Kc.na_nil)) ?l1 ?c1 ?k1 Kc.bFollows Kc.kbFollows
      (case aC => k_is)
      (case lC => k_is)
      (case hm => rfl)
      (case pg => k_is)
      (case hd => k_is)
      (case po => k_is)
      (case sa => k_is)
      (case ha => k_is)
      (case m1 => k_is)
      (case m2 => k_is)
      (case mk => k_is)
      (case ini => k_is)
      (case fn => k_is)
      (case kp => k_is)
      (case eq => k_is)
      (case ne => k_is)
      (case n0 => k_is)
      (case n1 => k_is)
      (case l1 => k_is)
      (case c1 => k_is)
      (case k1 => k_is))
    (case tLeads =>
      refine' Kc.ci_mk KX G ?aC ?lC ?hm ?pg ?hd ?po ?sa ?ha ?m1 ?m2 ?mk ?ini ?fn ?kp ?eq ?ne (Kc.na_cons ?n0 Kc.na_nil) ?l1 ?c1 ?k1 Kc.bLeads Kc.kbLeads
      (case aC => k_is)
      (case lC => k_is)
      (case hm => rfl)
      (case pg => k_is)
      (case hd => k_is)
      (case po => k_is)
      (case sa => k_is)
      (case ha => k_is)
      (case m1 => k_is)
      (case m2 => k_is)
      (case mk => k_is)
      (case ini => k_is)
      (case fn => k_is)
      (case kp => k_is)
      (case eq => k_is)
      (case ne => k_is)
      (case n0 => k_is)
      (case l1 => k_is)
      (case c1 => k_is)
      (case k1 => k_is))
    (case tStops =>
      refine' Kc.ci_mk KX G ?aC ?lC ?hm ?pg ?hd ?po ?sa ?ha ?m1 ?m2 ?mk ?ini ?fn ?kp ?eq ?ne (Kc.na_cons ?n0 Kc.na_nil) ?l1 ?c1 ?k1 Kc.bStops Kc.kbStops
      (case aC => k_is)
      (case lC => k_is)
      (case hm => rfl)
      (case pg => k_is)
      (case hd => k_is)
      (case po => k_is)
      (case sa => k_is)
      (case ha => k_is)
      (case m1 => k_is)
      (case m2 => k_is)
      (case mk => k_is)
      (case ini => k_is)
      (case fn => k_is)
      (case kp => k_is)
      (case eq => k_is)
      (case ne => k_is)
      (case n0 => k_is)
      (case l1 => k_is)
      (case c1 => k_is)
      (case k1 => k_is))

