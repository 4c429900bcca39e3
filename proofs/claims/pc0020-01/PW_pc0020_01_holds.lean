import PyProof.Rows.All
import Wide.All
import OpenK.AllK
import Wide.FinOn
import PyProof.EnumStmt
import PyProof.ExcAttrAll.Exception
import PyProof.ListIndexNeg
import PySem.Challenge.RW_pc0020_01
set_option compiler.extract_closed false
section
open PySem PySem.W PySem.Calls PyProof.Rows PySem.Spec
set_option Elab.async false
set_option maxRecDepth 100000
namespace Mine
theorem ctr {p : Prop} (h : ¬¬p) : p := Classical.byContradiction h
theorem n_b {a b : Nat} (h : Nat.ble a b = true) : a ≤ b := Nat.le_of_ble_eq_true h
theorem n_t {a b c : Nat} (h : a ≤ b) (k : b ≤ c) : a ≤ c := Nat.le_trans h k
theorem n_e {a b c : Nat} (h : a = b) (k : b ≤ c) : a ≤ c := h ▸ k
theorem n_f {a b c : Nat} (h : b = a) (k : b ≤ c) : a ≤ c := h ▸ k
theorem n_s {a b c : Nat} (h : a < b) (k : b ≤ c) : a ≤ c := Nat.le_of_lt (Nat.lt_of_lt_of_le h k)
theorem n_lt {a b c : Nat} (h : a ≤ b) (k : b < c) : a < c := Nat.lt_of_le_of_lt h k
theorem n_ls {a b c : Nat} (h : a < b) (k : b ≤ c) : a < c := Nat.lt_of_lt_of_le h k
theorem n_le {a b c : Nat} (h : a = b) (k : b < c) : a < c := h ▸ k
theorem n_lf {a b c : Nat} (h : b = a) (k : b < c) : a < c := h ▸ k
theorem n_bl {a b : Nat} (h : Nat.blt a b = true) : a < b := Nat.le_of_ble_eq_true h
theorem n_a {a b c d : Nat} (h : a ≤ c) (k : b ≤ d) : a + b ≤ c + d := Nat.add_le_add h k
theorem n_m {a b : Nat} (c : Nat) (h : a ≤ b) : c * a ≤ c * b := Nat.mul_le_mul_left c h
theorem n_r {a b c : Nat} (h : a ≤ b) : a ≤ b + c := Nat.le_add_right_of_le h
theorem n_q {a b c : Nat} (h : a ≤ c) : a ≤ b + c := Nat.le_add_left_of_le h
theorem n_x {a b c : Nat} (h : a ≤ c) (k : b ≤ c) : max a b ≤ c := Nat.max_le.mpr ⟨h, k⟩
theorem n_suc {a b : Nat} (h : a < b) : a + 1 ≤ b := h
theorem n_lsu {a b : Nat} (h : a ≤ b) : a < b + 1 := Nat.lt_succ_of_le h
theorem n_c {n m : Nat} (h : n ≤ m) (hm : Nat.ble m 100000000 = true) : (n : Int) < 2 ^ 63 := by have := n_b hm; omega
theorem n_cs {n m : Nat} {i : Int} (h : i < (n : Int)) (k : n ≤ m) (hm : Nat.ble m 100000000 = true) : i < 2 ^ 63 := by have := n_b hm; omega
theorem n_tn {i : Int} {n : Nat} (h : 0 ≤ i) (k : i < (n : Int)) : i.toNat < n := by omega
theorem n_sb {n i : Nat} (h : i < n) : n - (i + 1) < n - i := Nat.sub_succ_lt_self n i h
theorem n_bx {n i : Nat} (h : i ≤ n) (k : ¬ i < n) : i = n := Nat.le_antisymm h (Nat.le_of_not_lt k)
theorem n_k1 {k : Nat} : 0 < (k : Int) + 1 := Int.lt_add_one_of_le (Int.natCast_nonneg k)
theorem n_k2 {k : Nat} : 1 ≤ ((k + 1 : Nat) : Int) := Int.ofNat_le.mpr (Nat.le_add_left 1 k)
theorem n_cm {n m : Nat} (h : n ≤ m) (hm : Nat.ble m 1000000 = true) : (n : Int) ≤ 1000000 := Int.ofNat_le.mpr (Nat.le_trans h (n_b hm))
theorem n_tl {i : Int} {n m : Nat} (h : 0 ≤ i) (k : i < (n : Int)) (l : n ≤ m) : i.toNat < m := Nat.lt_of_lt_of_le (n_tn h k) l
theorem n_tt {i : Int} (h : 0 ≤ i) : i = i.toNat := (Int.toNat_of_nonneg h).symm
theorem n_o {i : Nat} (h : i < 2) : i = 0 ∨ i = 1 := match i, h with | 0, _ => .inl rfl | 1, _ => .inr rfl
theorem n_ml {a b c : Nat} (h : max a b ≤ c) : a ≤ c := Nat.le_trans (Nat.le_max_left a b) h
theorem n_mr {a b c : Nat} (h : max a b ≤ c) : b ≤ c := Nat.le_trans (Nat.le_max_right a b) h
theorem n_al {a b c : Nat} (h : a + b ≤ c) : a ≤ c := Nat.le_trans (Nat.le_add_right a b) h
theorem n_ar {a b c : Nat} (h : a + b ≤ c) : b ≤ c := Nat.le_trans (Nat.le_add_left b a) h
theorem n_xl {a b c : Nat} (h : a + b < c) : a < c := Nat.lt_of_le_of_lt (Nat.le_add_right a b) h
theorem lvA {a b c : Nat} (h1 : b = a + 1) {m : Nat} (h : a < m) (hm : m + 1 ≤ c := by decide) : b < c := by lia
theorem lvC {a b c : Nat} (h1 : b = a + 3) {m : Nat} (h : a < m) (hm : m + 3 ≤ c := by decide) : b < c := by lia

theorem n_z {k : Nat} : ¬ ((k : Int) + 1 = 0) := fun h => Int.ne_of_gt n_k1 h
theorem n_2 {M a b : Nat} (h : Nat.ble a b = true) : M + a ≤ 2 * M + b := Nat.add_le_add (Nat.le_mul_of_pos_left M (by decide)) (n_b h)
theorem n_63 {n : Nat} : -2 ^ 63 ≤ (n : Int) := Int.le_trans (by decide) (Int.natCast_nonneg n)
theorem n_62 {n : Nat} : -2 ^ 62 ≤ (n : Int) := Int.le_trans (by decide) (Int.natCast_nonneg n)

/-! ### the text's statements, by their place -/
noncomputable def topSt (i : Nat) : Stmt := PySem.Challenge.pw_pc0020_01.main.body.getD i (.Pass default)
noncomputable def inCls (i j : Nat) : Stmt := match topSt i with | .ClassDef _ _ _ body _ _ _ _ _ _ _ => body.getD j (.Pass default) | _ => .Pass default
noncomputable def stName : Stmt → Str | .FunctionDef n .. => n | _ => default
noncomputable def stParams : Stmt → Arguments | .FunctionDef _ a .. => a | _ => default
noncomputable def stBody : Stmt → List Stmt | .FunctionDef _ _ b .. => b | _ => []
noncomputable def stScope : Stmt → Scope | .FunctionDef _ _ _ _ _ _ sc .. => sc | _ => default
/-- a def of the text stands at f -/
noncomputable def FnAt (K : Frag) (f : Addr) (qual : Str) (st : Stmt) : Prop := ∃ oc od pm cdv doc osl,
  K.lookup f = some ⟨oc, od, .func (fnOf (stName st) qual (stParams st) (stBody st) (stScope st) .none .none doc pm none cdv .none), osl⟩ ∧ codeIn K cdv qual = true

noncomputable def globTab : List (Str × Value) := [("SwiftFault", .ref 31), ("FormFault", .ref 44), ("Trap", .ref 56), ("COUNTED", .ref 59), ("parts_of", .ref 66), ("counted_in", .ref 73), ("with_part", .ref 80), ("Thing", .ref 97), ("Heap", .ref 235),
  ("_law_kinds", .ref 246), ("_law_draw", .ref 253), ("_law_inner", .ref 260), ("_law_links", .ref 267), ("_law_more", .ref 274), ("_law_gone", .ref 281), ("_law_agrees", .ref 288), ("_law_value_told", .ref 295), ("_law_take", .ref 302),
  ("_law_make", .ref 307), ("_law_join", .ref 314), ("_law_live_ref", .ref 319), ("_law_loose", .ref 324), ("_law_part_put", .ref 329), ("_law_own", .ref 334), ("_law_taken_down", .ref 341), ("_law_act", .ref 348), ("law", .ref 353)]
noncomputable def bootTab : List Str := ["isinstance", "tuple", "list", "sorted", "len", "range", "int", "all", "enumerate", "Exception"]
noncomputable def methTab : List (Str × Addr) := [("made", 122), ("thing", 129), ("retain", 136), ("release", 143), ("drop", 150), ("dropped", 157), ("lost", 164), ("buried", 171), ("copied", 178), ("destroyed", 185), ("weak_to", 192), ("weak_read", 199),
  ("unowned_to", 206), ("unowned_read", 213), ("elements", 220), ("own_buffer", 225), ("live", 232)]
noncomputable def dataTab : List (Addr × Str) := [(235, "things"), (235, "last"), (235, "dying"), (97, "kind"), (97, "name"), (97, "fields"), (97, "strong"), (97, "weak"), (97, "unowned"), (97, "state")]

/-- what the walk asks of the text's own objects -/
structure KFacts (K : Frag) : Prop where
  glob : ∀ p ∈ globTab, nsIn K mainGlobals p.1 = some (some p.2)
  boot : ∀ x ∈ bootTab, nsIn K mainGlobals x = some none
  meth : ∀ p ∈ methTab, findIn K (.ref 235) p.1 = some (some (.ref p.2)) ∧ isFn K (.ref p.2) = true
  keep : ∀ p ∈ globTab, p.2 = .ref 59 ∨ p.2 = .ref 31 ∨ p.2 = .ref 44 ∨ p.2 = .ref 56 ∨ keepIn K p.2 = true
  keepM : ∀ p ∈ methTab, keepIn K (.ref p.2) = true
  attr : ∀ p ∈ dataTab, findIn K (.ref p.1) p.2 = some none ∧ takerIn K p.1 p.2 = some none
  plain : ∀ C, C = 97 ∨ C = 235 → (∀ x, plainGet K C x = true) ∧ hasDictIn K C = true ∧ findIn K (.ref C) "__setattr__" = some (some (.builtin "object.__setattr__")) ∧ plainOver K C = true ∧ makesIn K C = true
  initT : findIn K (.ref 97) "__init__" = some (some (.ref 94)) ∧ isFn K (.ref 94) = true
  initH : findIn K (.ref 235) "__init__" = some (some (.ref 115)) ∧ isFn K (.ref 115) = true
  counted : ∃ n t1 t2 t3, K.lookup 59 = some ⟨.type "tuple", none, .seq #[.str "ref" t1, .str "buf" t2, .str "box" t3] n, #[]⟩
  f66 : FnAt K 66 "parts_of" (topSt 6)
  f73 : FnAt K 73 "counted_in" (topSt 7)
  f80 : FnAt K 80 "with_part" (topSt 8)
  f94 : FnAt K 94 "Thing.__init__" (inCls 10 0)
  f115 : FnAt K 115 "Heap.__init__" (inCls 11 0)
  f122 : FnAt K 122 "Heap.made" (inCls 11 1)
  f129 : FnAt K 129 "Heap.thing" (inCls 11 2)
  f136 : FnAt K 136 "Heap.retain" (inCls 11 3)
  f143 : FnAt K 143 "Heap.release" (inCls 11 4)
  f150 : FnAt K 150 "Heap.drop" (inCls 11 5)
  f157 : FnAt K 157 "Heap.dropped" (inCls 11 6)
  f164 : FnAt K 164 "Heap.lost" (inCls 11 7)
  f171 : FnAt K 171 "Heap.buried" (inCls 11 8)
  f178 : FnAt K 178 "Heap.copied" (inCls 11 9)
  f185 : FnAt K 185 "Heap.destroyed" (inCls 11 10)
  f192 : FnAt K 192 "Heap.weak_to" (inCls 11 11)
  f199 : FnAt K 199 "Heap.weak_read" (inCls 11 12)
  f206 : FnAt K 206 "Heap.unowned_to" (inCls 11 13)
  f213 : FnAt K 213 "Heap.unowned_read" (inCls 11 14)
  f220 : FnAt K 220 "Heap.elements" (inCls 11 15)
  f225 : FnAt K 225 "Heap.own_buffer" (inCls 11 16)
  f232 : FnAt K 232 "Heap.live" (inCls 11 17)
  f246 : FnAt K 246 "_law_kinds" (topSt 13)
  f253 : FnAt K 253 "_law_draw" (topSt 14)
  f260 : FnAt K 260 "_law_inner" (topSt 15)
  f267 : FnAt K 267 "_law_links" (topSt 16)
  f274 : FnAt K 274 "_law_more" (topSt 17)
  f281 : FnAt K 281 "_law_gone" (topSt 18)
  f288 : FnAt K 288 "_law_agrees" (topSt 19)
  f295 : FnAt K 295 "_law_value_told" (topSt 20)
  f302 : FnAt K 302 "_law_take" (topSt 21)
  f307 : FnAt K 307 "_law_make" (topSt 22)
  f314 : FnAt K 314 "_law_join" (topSt 23)
  f319 : FnAt K 319 "_law_live_ref" (topSt 24)
  f324 : FnAt K 324 "_law_loose" (topSt 25)
  f329 : FnAt K 329 "_law_part_put" (topSt 26)
  f334 : FnAt K 334 "_law_own" (topSt 27)
  f341 : FnAt K 341 "_law_taken_down" (topSt 28)
  f348 : FnAt K 348 "_law_act" (topSt 29)

/-- tuples never change: they are kept apart, in a ledger that only grows -/
noncomputable def IsT (o : Obj) : Prop := o.cls = .type "tuple" ∧ ∃ vs n, o.data = .seq vs n
/-- new tuples of a call that began at h -/
noncomputable def TupL (h h' : Heap) (Γ : List (Addr × Obj)) : Prop := ∀ p ∈ Γ, h'.get? p.1 = some p.2 ∧ IsT p.2 ∧ h.objs.size ≤ p.1
noncomputable abbrev tupO (vs : List Value) : Obj := { cls := .type "tuple", data := .seq vs.toArray }
theorem isT_tupO (vs : List Value) : IsT (tupO vs) := ⟨rfl, _, _, rfl⟩

/-- the walk's bundle: the frame, what this call owns (keys apart), the tuples it made or was handed -/
structure Z (g : Heap) (L : Addr) (h : Heap) (m : Str → Option Value) (news Γ : List (Addr × Obj)) : Prop where
  F : Fr g L h m
  N : News g L h (news ++ Γ)
  nd : (news.map (·.1)).Nodup
  T : ∀ p ∈ Γ, IsT p.2 ∧ L < p.1

/-- what stands around a call -/
structure Cx (K : Frag) (h₀ : Heap) : Prop where
  KF : KFacts K
  X : K.In h₀
  T : ∃ p loose mean mg mb, Top p loose mean mg mb h₀
theorem Cx.keeps {K : Frag} {h₀ h : Heap} (C : Cx K h₀) (k : h₀.StaysIn h) : Cx K h :=
  ⟨C.KF, C.X.keeps k, let ⟨p, l, m, mg, mb, T⟩ := C.T; ⟨p, l, m, mg, mb, T.keeps k⟩⟩
theorem Cx.nolimit {K : Frag} {h₀ : Heap} (C : Cx K h₀) : h₀.NoLimit := let ⟨_, _, _, _, _, T⟩ := C.T; T.nolimit

/-- what a call may change: it stands as said, is not of the base, is no tuple; keys apart -/
structure Own (h₀ h : Heap) (ks : List (Addr × Obj)) : Prop where
  at_ : ∀ p ∈ ks, h.get? p.1 = some p.2
  off : ∀ p ∈ ks, h₀.get? p.1 = none
  no : ∀ p ∈ ks, ¬ IsT p.2
  nd : (ks.map (·.1)).Nodup
theorem Own.nil {h₀ h : Heap} : Own h₀ h [] := ⟨(fun _ h => nomatch h), (fun _ h => nomatch h), (fun _ h => nomatch h), List.Pairwise.nil⟩

theorem enter {prog : Program} {w : World} {K : Frag} {A : Around} {s : Shared} {h₀ : Heap} {ks : List (Addr × Obj)} {E Q : Value → Shared → Prop}
    {name bind qual : Str} {params : Arguments} {body : List Stmt} {deco : List Expr} {ret : Option Expr} {tps : List TypeParam} {tscope : Option Scope} {spos : Pos} {scope : Scope} {st : Stmt} {f : Addr} {pos : List Value} {kw : List (Str × Value)} {binds : List (Str × Value)}
    (C : Cx K h₀) (hk : h₀.StaysIn s.heap) (O : Own h₀ s.heap ks) (hf : FnAt K f qual st) (hst : st = .FunctionDef name params body deco ret tps scope tscope bind spos) (hroom : A.depth < recursionLimit)
    (hbind : ∀ cdv doc pm, BindsTo s (fnOf name qual params body scope .none .none doc pm none cdv .none) ⟨pos, kw⟩ binds) (hloc : ∀ y ∈ binds, scope.names.lookup y.1 = some .local)
    (hco : scope.isCoroutine = false) (hgen : scope.isGenerator = false) (hkk : scope.kind = .function)
    (hcell : ∀ x ∈ scope.names, x.2 ≠ .cell)
    (h : ∀ g L h₁ tk cdv, let env : Env := envOf qual scope L f cdv; let A' : Around := A.deeper env; let qk : Flow → Shared → Prop := fun fl s' => Q (match fl with | .ret v => v | _ => .none) s'; let ek : Value → Shared → Prop := fun _ _ => False;
      Z g L h₁ (fun y => binds.reverse.lookup y) ks [] → Cx K g → h₀.StaysIn g → L = s.heap.objs.size → (∀ a o, s.heap.get? a = some o → a ∉ ks.map (·.1) → g.get? a = some o) →
      wpAny (model prog w) A' (execs body env) qk ek { s with heap := h₁, toks := tk }) :
    wpAny (model prog w) A (call (.ref f) pos kw) Q E s := by
  subst hst
  refine ctr fun hG233 => ?_; obtain ⟨oc, od, pm, cdv, doc, osl, ho, hcd⟩ := hf; refine hG233 ?_; clear hG233
  refine wpAny_call ?_
  refine codeAny_call_def (fd := fnOf name qual params body scope .none .none doc pm none cdv .none) (body := body) (binds := binds) hroom (hk _ _ (C.X _ _ ho)) rfl (C.nolimit.keeps hk) (codeRec_of (C.X.keeps hk) hcd) rfl (hbind _ _ _) hcell hloc (fun h₁ hns hk₁ => ?_) hco hgen hkk
  have hin : ∀ a o, h₀.get? a = some o → a ∉ ks.map (·.1) := fun a o e q => by
    obtain ⟨p, hp, rfl⟩ := List.mem_map.mp q
    rw [O.off p hp] at e; cases e
  refine wpAny_mono (h (hideAll s.heap (ks.map (·.1))) s.heap.objs.size h₁ (s.toks + binds.length) cdv ⟨⟨hns, fun b o e => hk₁ b o (of_hideAll _ e), Nat.le_of_eq (hideAll_size _ _)⟩, by rw [List.append_nil]; exact fun p hp => ⟨hk₁ _ _ (O.at_ p hp), Nat.ne_of_lt (Heap.lt_size (O.at_ p hp)), hideAll_none _ (List.mem_map_of_mem hp)⟩, O.nd, fun _ h => nomatch h⟩
    (C.keeps fun a o e => hideAll_get _ (hk a o e) (hin a o e)) (fun a o e => hideAll_get _ (hk a o e) (hin a o e)) rfl (fun a o e n => hideAll_get _ e n)) (fun fl s' q => q) fun _ _ x => x.elim

end Mine
end
section
set_option Elab.async false
set_option linter.unusedVariables false
namespace Mine
theorem ex2 {A0 A1 : Type} {p : A0 → A1 → Prop} {G : Prop} (h : ∃ a0 a1, p a0 a1) (k : ∀ a0 a1, p a0 a1 → G) : G := h.elim fun a0 h => h.elim (k a0)
theorem ex3 {A0 A1 A2 : Type} {p : A0 → A1 → A2 → Prop} {G : Prop} (h : ∃ a0 a1 a2, p a0 a1 a2) (k : ∀ a0 a1 a2, p a0 a1 a2 → G) : G := h.elim fun a0 h => ex2 h (k a0)
theorem ex4 {A0 A1 A2 A3 : Type} {p : A0 → A1 → A2 → A3 → Prop} {G : Prop} (h : ∃ a0 a1 a2 a3, p a0 a1 a2 a3) (k : ∀ a0 a1 a2 a3, p a0 a1 a2 a3 → G) : G := h.elim fun a0 h => ex3 h (k a0)
theorem ex5 {A0 A1 A2 A3 A4 : Type} {p : A0 → A1 → A2 → A3 → A4 → Prop} {G : Prop} (h : ∃ a0 a1 a2 a3 a4, p a0 a1 a2 a3 a4) (k : ∀ a0 a1 a2 a3 a4, p a0 a1 a2 a3 a4 → G) : G := h.elim fun a0 h => ex4 h (k a0)
theorem ex6 {A0 A1 A2 A3 A4 A5 : Type} {p : A0 → A1 → A2 → A3 → A4 → A5 → Prop} {G : Prop} (h : ∃ a0 a1 a2 a3 a4 a5, p a0 a1 a2 a3 a4 a5) (k : ∀ a0 a1 a2 a3 a4 a5, p a0 a1 a2 a3 a4 a5 → G) : G := h.elim fun a0 h => ex5 h (k a0)
theorem ex7 {A0 A1 A2 A3 A4 A5 A6 : Type} {p : A0 → A1 → A2 → A3 → A4 → A5 → A6 → Prop} {G : Prop} (h : ∃ a0 a1 a2 a3 a4 a5 a6, p a0 a1 a2 a3 a4 a5 a6) (k : ∀ a0 a1 a2 a3 a4 a5 a6, p a0 a1 a2 a3 a4 a5 a6 → G) : G := h.elim fun a0 h => ex6 h (k a0)
theorem ex8 {A0 A1 A2 A3 A4 A5 A6 A7 : Type} {p : A0 → A1 → A2 → A3 → A4 → A5 → A6 → A7 → Prop} {G : Prop} (h : ∃ a0 a1 a2 a3 a4 a5 a6 a7, p a0 a1 a2 a3 a4 a5 a6 a7) (k : ∀ a0 a1 a2 a3 a4 a5 a6 a7, p a0 a1 a2 a3 a4 a5 a6 a7 → G) : G := h.elim fun a0 h => ex7 h (k a0)
theorem ex9 {A0 A1 A2 A3 A4 A5 A6 A7 A8 : Type} {p : A0 → A1 → A2 → A3 → A4 → A5 → A6 → A7 → A8 → Prop} {G : Prop} (h : ∃ a0 a1 a2 a3 a4 a5 a6 a7 a8, p a0 a1 a2 a3 a4 a5 a6 a7 a8) (k : ∀ a0 a1 a2 a3 a4 a5 a6 a7 a8, p a0 a1 a2 a3 a4 a5 a6 a7 a8 → G) : G := h.elim fun a0 h => ex8 h (k a0)
theorem ex10 {A0 A1 A2 A3 A4 A5 A6 A7 A8 A9 : Type} {p : A0 → A1 → A2 → A3 → A4 → A5 → A6 → A7 → A8 → A9 → Prop} {G : Prop} (h : ∃ a0 a1 a2 a3 a4 a5 a6 a7 a8 a9, p a0 a1 a2 a3 a4 a5 a6 a7 a8 a9) (k : ∀ a0 a1 a2 a3 a4 a5 a6 a7 a8 a9, p a0 a1 a2 a3 a4 a5 a6 a7 a8 a9 → G) : G := h.elim fun a0 h => ex9 h (k a0)
theorem ex11 {A0 A1 A2 A3 A4 A5 A6 A7 A8 A9 A10 : Type} {p : A0 → A1 → A2 → A3 → A4 → A5 → A6 → A7 → A8 → A9 → A10 → Prop} {G : Prop} (h : ∃ a0 a1 a2 a3 a4 a5 a6 a7 a8 a9 a10, p a0 a1 a2 a3 a4 a5 a6 a7 a8 a9 a10) (k : ∀ a0 a1 a2 a3 a4 a5 a6 a7 a8 a9 a10, p a0 a1 a2 a3 a4 a5 a6 a7 a8 a9 a10 → G) : G := h.elim fun a0 h => ex10 h (k a0)
theorem ex12 {A0 A1 A2 A3 A4 A5 A6 A7 A8 A9 A10 A11 : Type} {p : A0 → A1 → A2 → A3 → A4 → A5 → A6 → A7 → A8 → A9 → A10 → A11 → Prop} {G : Prop} (h : ∃ a0 a1 a2 a3 a4 a5 a6 a7 a8 a9 a10 a11, p a0 a1 a2 a3 a4 a5 a6 a7 a8 a9 a10 a11) (k : ∀ a0 a1 a2 a3 a4 a5 a6 a7 a8 a9 a10 a11, p a0 a1 a2 a3 a4 a5 a6 a7 a8 a9 a10 a11 → G) : G := h.elim fun a0 h => ex11 h (k a0)
theorem an2 {A0 A1 G : Prop} (h : A0 ∧ A1) (k : A0 → A1 → G) : G := k h.1 h.2
theorem an3 {A0 A1 A2 G : Prop} (h : A0 ∧ A1 ∧ A2) (k : A0 → A1 → A2 → G) : G := an2 h.2 (k h.1)
theorem an4 {A0 A1 A2 A3 G : Prop} (h : A0 ∧ A1 ∧ A2 ∧ A3) (k : A0 → A1 → A2 → A3 → G) : G := an3 h.2 (k h.1)
theorem an5 {A0 A1 A2 A3 A4 G : Prop} (h : A0 ∧ A1 ∧ A2 ∧ A3 ∧ A4) (k : A0 → A1 → A2 → A3 → A4 → G) : G := an4 h.2 (k h.1)
theorem an6 {A0 A1 A2 A3 A4 A5 G : Prop} (h : A0 ∧ A1 ∧ A2 ∧ A3 ∧ A4 ∧ A5) (k : A0 → A1 → A2 → A3 → A4 → A5 → G) : G := an5 h.2 (k h.1)
theorem an7 {A0 A1 A2 A3 A4 A5 A6 G : Prop} (h : A0 ∧ A1 ∧ A2 ∧ A3 ∧ A4 ∧ A5 ∧ A6) (k : A0 → A1 → A2 → A3 → A4 → A5 → A6 → G) : G := an6 h.2 (k h.1)
theorem an8 {A0 A1 A2 A3 A4 A5 A6 A7 G : Prop} (h : A0 ∧ A1 ∧ A2 ∧ A3 ∧ A4 ∧ A5 ∧ A6 ∧ A7) (k : A0 → A1 → A2 → A3 → A4 → A5 → A6 → A7 → G) : G := an7 h.2 (k h.1)
theorem an9 {A0 A1 A2 A3 A4 A5 A6 A7 A8 G : Prop} (h : A0 ∧ A1 ∧ A2 ∧ A3 ∧ A4 ∧ A5 ∧ A6 ∧ A7 ∧ A8) (k : A0 → A1 → A2 → A3 → A4 → A5 → A6 → A7 → A8 → G) : G := an8 h.2 (k h.1)
theorem an10 {A0 A1 A2 A3 A4 A5 A6 A7 A8 A9 G : Prop} (h : A0 ∧ A1 ∧ A2 ∧ A3 ∧ A4 ∧ A5 ∧ A6 ∧ A7 ∧ A8 ∧ A9) (k : A0 → A1 → A2 → A3 → A4 → A5 → A6 → A7 → A8 → A9 → G) : G := an9 h.2 (k h.1)
theorem an11 {A0 A1 A2 A3 A4 A5 A6 A7 A8 A9 A10 G : Prop} (h : A0 ∧ A1 ∧ A2 ∧ A3 ∧ A4 ∧ A5 ∧ A6 ∧ A7 ∧ A8 ∧ A9 ∧ A10) (k : A0 → A1 → A2 → A3 → A4 → A5 → A6 → A7 → A8 → A9 → A10 → G) : G := an10 h.2 (k h.1)
theorem an12 {A0 A1 A2 A3 A4 A5 A6 A7 A8 A9 A10 A11 G : Prop} (h : A0 ∧ A1 ∧ A2 ∧ A3 ∧ A4 ∧ A5 ∧ A6 ∧ A7 ∧ A8 ∧ A9 ∧ A10 ∧ A11) (k : A0 → A1 → A2 → A3 → A4 → A5 → A6 → A7 → A8 → A9 → A10 → A11 → G) : G := an11 h.2 (k h.1)
theorem an13 {A0 A1 A2 A3 A4 A5 A6 A7 A8 A9 A10 A11 A12 G : Prop} (h : A0 ∧ A1 ∧ A2 ∧ A3 ∧ A4 ∧ A5 ∧ A6 ∧ A7 ∧ A8 ∧ A9 ∧ A10 ∧ A11 ∧ A12) (k : A0 → A1 → A2 → A3 → A4 → A5 → A6 → A7 → A8 → A9 → A10 → A11 → A12 → G) : G := an12 h.2 (k h.1)
theorem an14 {A0 A1 A2 A3 A4 A5 A6 A7 A8 A9 A10 A11 A12 A13 G : Prop} (h : A0 ∧ A1 ∧ A2 ∧ A3 ∧ A4 ∧ A5 ∧ A6 ∧ A7 ∧ A8 ∧ A9 ∧ A10 ∧ A11 ∧ A12 ∧ A13) (k : A0 → A1 → A2 → A3 → A4 → A5 → A6 → A7 → A8 → A9 → A10 → A11 → A12 → A13 → G) : G := an13 h.2 (k h.1)
end Mine
end
section
open PySem PySem.W PySem.Calls PyProof.Rows PySem.Spec
set_option Elab.async false
set_option maxRecDepth 100000
namespace Mine

/-! ### the ledger: one entry's place -/
inductive At (d : Addr) (o : Obj) : List (Addr × Obj) → (Obj → List (Addr × Obj)) → Prop
  | head {r : List (Addr × Obj)} : At d o ((d, o) :: r) (fun o' => (d, o') :: r)
  | tail {p : Addr × Obj} {r : List (Addr × Obj)} {f : Obj → List (Addr × Obj)} : At d o r f → At d o (p :: r) (fun o' => p :: f o')
  | app {l r : List (Addr × Obj)} {f : Obj → List (Addr × Obj)} : At d o r f → At d o (l ++ r) (fun o' => l ++ f o')
  | appl {l r : List (Addr × Obj)} {f : Obj → List (Addr × Obj)} : At d o l f → At d o (l ++ r) (fun o' => f o' ++ r)
theorem At.split {d : Addr} {o : Obj} {l : List (Addr × Obj)} {f : Obj → List (Addr × Obj)} (a : At d o l f) : ∃ pre post, l = pre ++ (d, o) :: post ∧ ∀ o', f o' = pre ++ (d, o') :: post := by
  induction a with
  | head => exact ⟨[], _, rfl, fun _ => rfl⟩
  | @tail p _ _ _ ih => obtain ⟨pre, post, h1, h2⟩ := ih; exact ⟨p :: pre, post, by rw [h1]; rfl, fun o' => by dsimp only; rw [h2]; rfl⟩
  | @app l _ _ _ ih => obtain ⟨pre, post, h1, h2⟩ := ih; exact ⟨l ++ pre, post, by rw [h1, List.append_assoc], fun o' => by dsimp only; rw [h2, List.append_assoc]⟩
  | @appl _ r _ _ ih => obtain ⟨pre, post, h1, h2⟩ := ih; exact ⟨pre, post ++ r, by rw [h1, List.append_assoc]; rfl, fun o' => by dsimp only; rw [h2, List.append_assoc]; rfl⟩
theorem At.mem {d : Addr} {o : Obj} {l : List (Addr × Obj)} {f : Obj → List (Addr × Obj)} (a : At d o l f) : (d, o) ∈ l := by
  obtain ⟨pre, post, h1, _⟩ := a.split; rw [h1]; exact List.mem_append_right _ (.head _)
theorem At.keys {d : Addr} {o : Obj} {l : List (Addr × Obj)} {f : Obj → List (Addr × Obj)} (a : At d o l f) (o' : Obj) : (f o').map (·.1) = l.map (·.1) := by
  obtain ⟨pre, post, h1, h2⟩ := a.split; rw [h1, h2]; simp
theorem nd_mid {pre post : List (Addr × Obj)} {d : Addr} {o : Obj} (nd : ((pre ++ (d, o) :: post).map (·.1)).Nodup) : (∀ p ∈ pre, p.1 ≠ d) ∧ ∀ p ∈ post, p.1 ≠ d := by
  rw [List.map_append, List.map_cons, List.nodup_append] at nd
  obtain ⟨_, h2, h3⟩ := nd
  rw [List.nodup_cons] at h2
  exact ⟨fun p hp e => h3 p.1 (List.mem_map_of_mem hp) d (List.mem_cons_self ..) e, fun p hp e => h2.1 (by rw [← e]; exact List.mem_map.mpr ⟨p, hp, rfl⟩)⟩
theorem upd_of {pre post : List (Addr × Obj)} {d : Addr} {o o' : Obj} (h3 : ∀ p ∈ pre, p.1 ≠ d) (h4 : ∀ p ∈ post, p.1 ≠ d) : Upd d o o' (pre ++ (d, o) :: post) (pre ++ (d, o') :: post) := by
  induction pre with
  | nil => exact .head h4
  | cons p r ih => exact .tail (h3 p (.head _)) (ih fun q hq => h3 q (.tail _ hq))
theorem updF_of {pre post : List (Addr × Obj)} {d : Addr} {o : Obj} (h3 : ∀ p ∈ pre, p.1 ≠ d) (h4 : ∀ p ∈ post, p.1 ≠ d) : UpdF d o (pre ++ (d, o) :: post) (fun o' => pre ++ (d, o') :: post) := by
  induction pre with
  | nil => exact .head h4
  | cons p r ih => exact .tail (h3 p (.head _)) (ih fun q hq => h3 q (.tail _ hq))
theorem notT_list {vs : Array Value} {n : Nat} : ¬ IsT (listOf vs n) := fun h => by have := h.1; simp at this
theorem notT_dict {o : Obj} (h : o.cls = .type "dict") : ¬ IsT o := fun q => by have := q.1; rw [h] at this; simp at this
theorem notT_inst {C d : Addr} : ¬ IsT (instObj C d) := fun h => by have := h.1; simp at this
theorem ns_notT {h : Heap} {L : Addr} {m : Str → Option Value} (n : h.Ns L m) : ∃ o, h.get? L = some o ∧ ¬ IsT o := by
  refine ctr fun hG282 => ?_; obtain ⟨o, es, ep, e, d, _⟩ := n; refine hG282 ?_; clear hG282
  exact ⟨o, e, fun q => by obtain ⟨_, vs, k, q⟩ := q; rw [d] at q; cases q⟩

section
variable {g h h' : Heap} {L d : Addr} {m m' : Str → Option Value} {news Γ : List (Addr × Obj)} {o o' : Obj} {f : Obj → List (Addr × Obj)}
theorem Z.get {p : Addr × Obj} (z : Z g L h m news Γ) (hp : p ∈ news) : h.get? p.1 = some p.2 := (z.N p (List.mem_append_left _ hp)).1
theorem Z.tup {p : Addr × Obj} (z : Z g L h m news Γ) (hp : p ∈ Γ) : h.get? p.1 = some p.2 := (z.N p (List.mem_append_right _ hp)).1
theorem Z.old {a : Addr} {o : Obj} (z : Z g L h m news Γ) (e : g.get? a = some o) : h.get? a = some o := z.F.keep _ _ e
theorem Z.lt {p : Addr × Obj} (z : Z g L h m news Γ) (hp : p ∈ news ++ Γ) : p.1 < h.objs.size := Heap.lt_size (z.N p hp).1
theorem Z.store (z : Z g L h m news Γ) (hs : Heap.SameBut L h h') (F : Fr g L h' m') : Z g L h' m' news Γ := ⟨F, z.N.set hs, z.nd, z.T⟩
/-- the ledger's entry, alone under its key -/
theorem Z.mid (z : Z g L h m news Γ) (a : At d o news f) (n : ¬ IsT o) : ∃ pre post, news ++ Γ = pre ++ (d, o) :: post ∧ (∀ o', f o' ++ Γ = pre ++ (d, o') :: post) ∧ (∀ p ∈ pre, p.1 ≠ d) ∧ ∀ p ∈ post, p.1 ≠ d := by
  obtain ⟨pre, post, h1, h2⟩ := a.split
  have nd := z.nd
  rw [h1] at nd
  obtain ⟨h3, h4⟩ := nd_mid nd
  refine ⟨pre, post ++ Γ, by rw [h1]; simp, fun o' => by rw [h2]; simp, h3, fun p hp => (List.mem_append.mp hp).elim (h4 p) fun hp e => ?_⟩
  have q1 := z.tup hp
  rw [e, z.get a.mem] at q1; cases q1; exact n (z.T p hp).1
theorem Z.upd (z : Z g L h m news Γ) (a : At d o news f) (n : ¬ IsT o) (o' : Obj) : Upd d o o' (news ++ Γ) (f o' ++ Γ) := by
  refine ctr fun hG283 => ?_; obtain ⟨pre, post, e1, e2, h3, h4⟩ := z.mid a n; refine hG283 ?_; clear hG283
  rw [e1, e2]; exact upd_of h3 h4
theorem Z.updF (z : Z g L h m news Γ) (a : At d o news f) (n : ¬ IsT o) : UpdF d o (news ++ Γ) (fun o' => f o' ++ Γ) := by
  refine ctr fun hG284 => ?_; obtain ⟨pre, post, e1, e2, h3, h4⟩ := z.mid a n; refine hG284 ?_; clear hG284
  have : (fun o' => f o' ++ Γ) = fun o' => pre ++ (d, o') :: post := funext e2
  rw [e1, this]; exact updF_of h3 h4
theorem Z.put (z : Z g L h m news Γ) (a : At d o news f) (F : Fr g L h' m') (N : News g L h' (f o' ++ Γ)) : Z g L h' m' (f o') Γ := ⟨F, N, by rw [a.keys]; exact z.nd, z.T⟩
/-- an update of a ledger's entry -/
theorem Z.set (z : Z g L h m news Γ) (a : At d o news f) (n : ¬ IsT o) (hs : Heap.SameBut d h h') (e : h'.get? d = some o') : Z g L h' m (f o') Γ := by
  have hm := z.N (d, o) (List.mem_append_left _ a.mem)
  refine ctr fun hG285 => ?_; obtain ⟨pre, post, e1, e2, h3, h4⟩ := z.mid a n; refine hG285 ?_; clear hG285
  have N := z.N
  rw [e1] at N
  exact z.put a (z.F.change hs hm.2.1 hm.2.2) (by rw [e2]; exact news_set N h3 h4 hs e)
theorem push_keeps {o : Obj} (b : Addr) (x : Obj) (e : h.get? b = some x) : (h.push o).get? b = some x := Heap.get?_push_of_some _ e
/-- a new object at a fresh place -/
theorem Z.more (z : Z g L h m news Γ) {a : Addr} (hlt : ∀ p ∈ news ++ Γ, p.1 < a) (F : Fr g L h' m') (N : News g L h' ((a, o) :: (news ++ Γ))) : Z g L h' m' ((a, o) :: news) Γ :=
  ⟨F, N, List.nodup_cons.mpr ⟨fun q => by obtain ⟨p, hp, e⟩ := List.mem_map.mp q; exact Nat.lt_irrefl _ (e ▸ hlt p (List.mem_append_left _ hp)), z.nd⟩, z.T⟩
theorem Z.push (z : Z g L h m news Γ) (o : Obj) (hf : o.isFreed = false := by rfl) : Z g L (h.push o) m ((h.objs.size, o) :: news) Γ := z.more (fun _ hp => z.lt hp) (z.F.push o) (z.N.push z.F o hf)
theorem Z.pushT (z : Z g L h m news Γ) (o : Obj) (hT : IsT o) (hf : o.isFreed = false := by rfl) : Z g L (h.push o) m news ((h.objs.size, o) :: Γ) :=
  ⟨z.F.push o, (fun p hp => z.N.push z.F o hf p ((List.mem_append.mp hp).elim (fun q => .tail _ (List.mem_append_left _ q)) fun q => by
    rcases List.mem_cons.mp q with rfl | q
    · exact .head _
    · exact .tail _ (List.mem_append_right _ q))), z.nd, fun p hp => by
    rcases List.mem_cons.mp hp with rfl | hp
    · exact ⟨hT, z.F.ns.lt⟩
    · exact z.T p hp⟩
/-- a garbage object -/
theorem Z.pushG (z : Z g L h m news Γ) (o : Obj) : Z g L (h.push o) m news Γ := ⟨z.F.push o, (fun p hp => ⟨push_keeps _ _ (z.N p hp).1, (z.N p hp).2⟩), z.nd, z.T⟩
theorem Z.sub {news' : List (Addr × Obj)} (z : Z g L h m news Γ) (hs : news'.Sublist news) : Z g L h m news' Γ := ⟨z.F, fun p hp => z.N p ((List.mem_append.mp hp).elim (fun q => List.mem_append_left _ (hs.subset q)) fun q => List.mem_append_right _ q), z.nd.sublist (hs.map _), z.T⟩
theorem Z.perm {news' : List (Addr × Obj)} (z : Z g L h m news Γ) (hs : news'.Perm news) : Z g L h m news' Γ := ⟨z.F, fun p hp => z.N p ((List.mem_append.mp hp).elim (fun q => List.mem_append_left _ (hs.subset q)) fun q => List.mem_append_right _ q), (hs.map _).nodup_iff.mpr z.nd, z.T⟩
theorem Z.addT {h₀ : Heap} {Γ' : List (Addr × Obj)} (z : Z g L h m news Γ) (k : TupL h₀ h Γ') (hle : L < h₀.objs.size) (hg : ∀ a o, g.get? a = some o → h₀.get? a = some o) : Z g L h m news (Γ' ++ Γ) :=
  ⟨z.F, (fun p hp => by
    rcases List.mem_append.mp hp with q | q
    · exact z.N p (List.mem_append_left _ q)
    · rcases List.mem_append.mp q with q | q
      · obtain ⟨a, b, c⟩ := k p q
        refine ⟨a, fun e => ?_, ?_⟩
        · rw [e] at c; exact Nat.lt_irrefl _ (Nat.lt_of_lt_of_le hle c)
        · cases e : g.get? p.1 with
          | none => rfl
          | some o => exact absurd (Heap.lt_size (hg _ _ e)) (Nat.not_lt.mpr c)
      · exact z.N p (List.mem_append_right _ q)), z.nd, fun p hp => (List.mem_append.mp hp).elim (fun q => ⟨(k p q).2.1, Nat.lt_of_lt_of_le hle (k p q).2.2⟩) (z.T p)⟩
end

/-- behind a call: what it does not own stands as it stood -/
structure Kept (h₀ : Heap) (ks : List (Addr × Obj)) (h h' : Heap) (ks' : List (Addr × Obj)) : Prop where
  keep : ∀ a o, h.get? a = some o → a ∉ ks.map (·.1) → h'.get? a = some o
  own : Own h₀ h' ks'
  fresh : ∀ p ∈ ks', p.1 ∈ ks.map (·.1) ∨ h.get? p.1 = none
theorem Kept.tups {h₀ h h' : Heap} {ks ks' : List (Addr × Obj)} (k : Kept h₀ ks h h' ks') (O : Own h₀ h ks) (a : Addr) (o : Obj) (e : h.get? a = some o) (t : IsT o) : h'.get? a = some o := k.keep a o e fun q => by
  obtain ⟨p, hp, rfl⟩ := List.mem_map.mp q
  rw [O.at_ p hp] at e; cases e; exact O.no p hp t
theorem Z.call {h₀ g h h' : Heap} {L : Addr} {m : Str → Option Value} {loc ks ks' Γ Γ' : List (Addr × Obj)} (z : Z g L h m (loc ++ ks) Γ) (O : Own h₀ h ks) (k : Kept h₀ ks h h' ks') (t : TupL h h' Γ') : Z g L h' m (loc ++ ks') (Γ' ++ Γ) := by
  have hin : ∀ p ∈ ks, p ∈ (loc ++ ks) ++ Γ := fun p hp => List.mem_append_left _ (List.mem_append_right _ hp)
  have nL : L ∉ ks.map (·.1) := fun q => by obtain ⟨p, hp, e⟩ := List.mem_map.mp q; exact (z.N p (hin p hp)).2.1 e
  have nd := z.nd
  rw [List.map_append, List.nodup_append] at nd
  refine ctr fun hG286 => ?_; obtain ⟨oL, es, ep, hL, r⟩ := id z.F.ns; refine hG286 ?_; clear hG286
  have gk : ∀ b o, g.get? b = some o → h'.get? b = some o := fun b o e => k.keep b o (z.F.keep b o e) fun q => by
    obtain ⟨p, hp, rfl⟩ := List.mem_map.mp q
    rw [(z.N p (hin p hp)).2.2] at e; cases e
  refine Z.addT ⟨⟨⟨oL, es, ep, k.keep _ _ hL nL, r⟩, gk, z.F.above⟩, fun p hp => ?_, ?_, z.T⟩ t z.F.ns.lt z.F.keep
  · rcases List.mem_append.mp hp with hp | hp
    · rcases List.mem_append.mp hp with hp | hp
      · have q := z.N p (List.mem_append_left _ (List.mem_append_left _ hp))
        exact ⟨k.keep _ _ q.1 fun e => nd.2.2 p.1 (List.mem_map_of_mem hp) p.1 e rfl, q.2⟩
      · refine ⟨k.own.at_ p hp, fun e => ?_, ?_⟩
        · rcases k.fresh p hp with q | q
          · exact nL (e ▸ q)
          · rw [e, hL] at q; cases q
        · rcases k.fresh p hp with q | q
          · obtain ⟨q', hq', e⟩ := List.mem_map.mp q; rw [← e]; exact (z.N q' (hin q' hq')).2.2
          · cases e : g.get? p.1 with
            | none => rfl
            | some o => rw [z.F.keep _ _ e] at q; cases q
    · exact ⟨k.tups O _ _ (z.tup hp) (z.T p hp).1, (z.N p (List.mem_append_right _ hp)).2⟩
  · rw [List.map_append, List.nodup_append]
    refine ⟨nd.1, k.own.nd, fun a ha b hb e => ?_⟩
    subst e
    obtain ⟨p, hp, rfl⟩ := List.mem_map.mp hb
    rcases k.fresh p hp with q | q
    · exact nd.2.2 _ ha _ q rfl
    · obtain ⟨p', hp', e⟩ := List.mem_map.mp ha
      rw [← e, (z.N p' (List.mem_append_left _ (List.mem_append_left _ hp'))).1] at q; cases q
/-- what a body's bundle gives to its caller -/
theorem Z.kept {h₀ g h h₁ : Heap} {L : Addr} {m : Str → Option Value} {ks news ks' Γ : List (Addr × Obj)} (z : Z g L h₁ m news Γ) (h0 : h₀.StaysIn g) (hin : ∀ a o, h.get? a = some o → a ∉ ks.map (·.1) → g.get? a = some o)
    (hs : ∀ p ∈ ks', p ∈ news) (no : ∀ p ∈ ks', ¬ IsT p.2) (nd : (ks'.map (·.1)).Nodup) : Kept h₀ ks h h₁ ks' :=
  ⟨fun a o e n => z.F.keep _ _ (hin a o e n), ⟨fun p hp => z.get (hs p hp), (fun p hp => by
    cases e : h₀.get? p.1 with
    | none => rfl
    | some o =>
      have := (z.N p (List.mem_append_left _ (hs p hp))).2.2
      rw [h0 _ _ e] at this
      cases this), no, nd⟩, (fun p hp => by
    by_cases q : p.1 ∈ ks.map (·.1)
    · exact .inl q
    · refine .inr ?_
      cases e : h.get? p.1 with
      | none => rfl
      | some o =>
        have := (z.N p (List.mem_append_left _ (hs p hp))).2.2
        rw [hin _ _ e q] at this
        cases this)⟩
theorem Z.kept0 {h₀ g h h₁ : Heap} {L : Addr} {m : Str → Option Value} {ks news Γ : List (Addr × Obj)} (z : Z g L h₁ m news Γ) (h0 : h₀.StaysIn g) (hin : ∀ a o, h.get? a = some o → a ∉ ks.map (·.1) → g.get? a = some o) : Kept h₀ ks h h₁ [] :=
  z.kept h0 hin (fun _ h => nomatch h) (fun _ h => nomatch h) List.Pairwise.nil
theorem Z.kept1 {h₀ g h h₁ : Heap} {L : Addr} {m : Str → Option Value} {ks news Γ : List (Addr × Obj)} {p : Addr × Obj} (z : Z g L h₁ m news Γ) (h0 : h₀.StaysIn g) (hin : ∀ a o, h.get? a = some o → a ∉ ks.map (·.1) → g.get? a = some o) (hp : p ∈ news) (no : ¬ IsT p.2) : Kept h₀ ks h h₁ [p] :=
  z.kept h0 hin (fun q hq => by rw [List.mem_singleton.mp hq]; exact hp) (fun q hq => by rw [List.mem_singleton.mp hq]; exact no) (by simp)
theorem Z.tupL {g h h₁ : Heap} {L : Addr} {m : Str → Option Value} {news Γ : List (Addr × Obj)} (z : Z g L h₁ m news Γ) (hL : L = h.objs.size) : TupL h h₁ Γ := fun p hp => ⟨z.tup hp, (z.T p hp).1, hL ▸ Nat.le_of_lt (z.T p hp).2⟩

end Mine
end
section
open PySem PySem.W PySem.Calls PyProof.Rows PySem.Spec
set_option Elab.async false
set_option maxRecDepth 100000
namespace Mine

/-! ### the values of the program -/
inductive RK where
  | ref | buf | box
inductive V where
  | int (i : Int)
  | hold (k : RK) (n : Nat)
  | fn (n : Nat)
  | weak0
  | soft (u : Bool) (n : Nat)
  | agg (a b : V)
  | enum0
  | enum1 (v : V)
  | any (v : V)
noncomputable abbrev S (x : String) : PyData := .str (Str.ofString x)
noncomputable def RK.word : RK → Str
  | .ref => Str.ofString "ref"
  | .buf => Str.ofString "buf"
  | .box => Str.ofString "box"
noncomputable def softWord : Bool → Str
  | true => Str.ofString "unowned"
  | false => Str.ofString "weak"
noncomputable def V.py : V → PyData
  | .int i => .int i
  | .hold k n => .tuple [.str k.word, .int (n + 1)]
  | .fn n => .tuple [S "fn", S "f", .int (n + 1)]
  | .weak0 => .tuple [S "weak", .int 0]
  | .soft u n => .tuple [.str (softWord u), .int (n + 1)]
  | .agg a b => .tuple [S "agg", .tuple [a.py, b.py]]
  | .enum0 => .tuple [S "enum", .int 0, .none]
  | .enum1 v => .tuple [S "enum", .int 1, v.py]
  | .any v => .tuple [S "any", .tuple [S "table", S "k", .tuple []], v.py]
noncomputable def V.parts : V → List V
  | .agg a b => [a, b]
  | .enum1 v => [v]
  | .any v => [v]
  | .int _ => []
  | .hold _ _ => []
  | .fn _ => []
  | .weak0 => []
  | .soft _ _ => []
  | .enum0 => []
noncomputable def V.dep : V → Nat
  | .agg a b => max a.dep b.dep + 2
  | .enum1 v => v.dep + 1
  | .any v => v.dep + 1
  | .int _ => 1
  | .hold _ _ => 1
  | .fn _ => 1
  | .weak0 => 1
  | .soft _ _ => 1
  | .enum0 => 1
noncomputable def V.size : V → Nat
  | .agg a b => a.size + b.size + 1
  | .enum1 v => v.size + 1
  | .any v => v.size + 1
  | .int _ => 1
  | .hold _ _ => 1
  | .fn _ => 1
  | .weak0 => 1
  | .soft _ _ => 1
  | .enum0 => 1
/-- what a link is: strong, weak, unowned -/
inductive W3 where
  | strong | weak | unowned
noncomputable def W3.word : W3 → Str
  | .strong => Str.ofString "strong"
  | .weak => Str.ofString "weak"
  | .unowned => Str.ofString "unowned"
noncomputable abbrev Link := W3 × Nat
noncomputable def Link.py (l : Link) : PyData := .tuple [.str l.1.word, .int (l.2 + 1)]
noncomputable def V.links : V → List Link
  | .hold _ n => [(.strong, n)]
  | .fn n => [(.strong, n)]
  | .soft true n => [(.unowned, n)]
  | .soft false n => [(.weak, n)]
  | .agg a b => a.links ++ b.links
  | .enum1 v => v.links
  | .any v => v.links
  | .int _ => []
  | .weak0 => []
  | .enum0 => []
theorem V.links_parts (v : V) (h : v.parts ≠ []) : v.links = v.parts.flatMap V.links := by
  cases v <;> simp_all [V.parts, V.links]

theorem V.six (v : V) : (∃ i, v = .int i) ∨ (∃ a b, v = .agg a b) ∨ v = .enum0 ∨ (∃ u, v = .enum1 u) ∨ (∃ u, v = .any u) ∨
    ∃ W rest, v.py = .tuple (.str W :: rest) ∧ v.parts = [] ∧ (W == Str.ofString "agg") = false ∧ (W == Str.ofString "enum") = false ∧ (W == Str.ofString "any") = false := by
  cases v with
  | int i => exact .inl ⟨_, rfl⟩
  | agg a b => exact .inr (.inl ⟨_, _, rfl⟩)
  | enum0 => exact .inr (.inr (.inl rfl))
  | enum1 u => exact .inr (.inr (.inr (.inl ⟨_, rfl⟩)))
  | any u => exact .inr (.inr (.inr (.inr (.inl ⟨_, rfl⟩))))
  | hold k n => cases k <;> exact .inr (.inr (.inr (.inr (.inr ⟨_, _, rfl, rfl, rfl, rfl, rfl⟩))))
  | fn n => exact .inr (.inr (.inr (.inr (.inr ⟨_, _, rfl, rfl, rfl, rfl, rfl⟩))))
  | weak0 => exact .inr (.inr (.inr (.inr (.inr ⟨_, _, rfl, rfl, rfl, rfl, rfl⟩))))
  | soft u n => cases u <;> exact .inr (.inr (.inr (.inr (.inr ⟨_, _, rfl, rfl, rfl, rfl, rfl⟩))))
theorem V.lay (v : V) : v.py.canLay0 = true ∧ v.py.depth ≤ v.dep + 1 := by
  induction v with
  | int i => (refine ⟨?_, Nat.le_of_ble_eq_true rfl⟩; simp only [V.py, RK.word, softWord, PyData.canLay0, PyData.canLayAll0]; try decide +kernel)
  | hold k n => cases k <;> (refine ⟨?_, Nat.le_of_ble_eq_true rfl⟩; simp only [V.py, RK.word, softWord, PyData.canLay0, PyData.canLayAll0]; try decide +kernel)
  | fn n => (refine ⟨?_, Nat.le_of_ble_eq_true rfl⟩; simp only [V.py, RK.word, softWord, PyData.canLay0, PyData.canLayAll0]; try decide +kernel)
  | weak0 => (refine ⟨?_, Nat.le_of_ble_eq_true rfl⟩; simp only [V.py, RK.word, softWord, PyData.canLay0, PyData.canLayAll0]; try decide +kernel)
  | soft u n => cases u <;> (refine ⟨?_, Nat.le_of_ble_eq_true rfl⟩; simp only [V.py, RK.word, softWord, PyData.canLay0, PyData.canLayAll0]; try decide +kernel)
  | enum0 => (refine ⟨?_, Nat.le_of_ble_eq_true rfl⟩; simp only [V.py, RK.word, softWord, PyData.canLay0, PyData.canLayAll0]; try decide +kernel)
  | agg a b ha hb =>
    have h0 : PyData.strOk (Str.ofString "agg") = true := by decide +kernel
    simp only [V.py, V.dep, PyData.canLay0, PyData.canLayAll0, PyData.depth, PyData.depthAll, ha.1, hb.1, h0, Bool.and_self, true_and, Nat.max_zero, Nat.zero_max]
    exact Nat.succ_le_succ (Nat.succ_le_succ (Nat.max_le.mpr ⟨Nat.le_trans ha.2 (Nat.succ_le_succ (Nat.le_max_left ..)), Nat.le_trans hb.2 (Nat.succ_le_succ (Nat.le_max_right ..))⟩))
  | enum1 v hv =>
    have h0 : PyData.strOk (Str.ofString "enum") = true := by decide +kernel
    simp only [V.py, V.dep, PyData.canLay0, PyData.canLayAll0, PyData.depth, PyData.depthAll, hv.1, h0, Bool.and_self, true_and, Nat.max_zero, Nat.zero_max]
    exact Nat.succ_le_succ hv.2
  | any v hv =>
    have h0 : PyData.strOk (Str.ofString "any") = true := by decide +kernel
    have h1 : PyData.strOk (Str.ofString "table") = true := by decide +kernel
    have h2 : PyData.strOk (Str.ofString "k") = true := by decide +kernel
    simp only [V.py, V.dep, PyData.canLay0, PyData.canLayAll0, PyData.depth, PyData.depthAll, hv.1, h0, h1, h2, Bool.and_self, true_and, Nat.max_zero, Nat.zero_max]
    have : 1 ≤ v.dep := by cases v <;> simp [V.dep]
    exact Nat.succ_le_succ (Nat.max_le.mpr ⟨Nat.succ_le_succ this, hv.2⟩)
mutual
theorem eqv_refl0 : ∀ d : PyData, d.canLay0 = true → PyData.eqv d d = true
  | .none, _ => by simp [PyData.eqv]
  | .bool b, _ => by simp [PyData.eqv]
  | .int i, _ => by simp [PyData.eqv]
  | .str x, _ => by simp [PyData.eqv]
  | .list xs, h => by simp only [PyData.canLay0] at h; simp only [PyData.eqv]; exact eqvAll_refl0 xs h
  | .tuple xs, h => by simp only [PyData.canLay0] at h; simp only [PyData.eqv]; exact eqvAll_refl0 xs h
  | .dict _, h => by simp [PyData.canLay0] at h
theorem eqvAll_refl0 : ∀ xs : List PyData, PyData.canLayAll0 xs = true → PyData.eqvAll xs xs = true
  | [], _ => by simp [PyData.eqvAll]
  | x :: xs, h => by
    simp only [PyData.canLayAll0, Bool.and_eq_true] at h
    simp only [PyData.eqvAll, Bool.and_eq_true]
    exact ⟨eqv_refl0 x h.1, eqvAll_refl0 xs h.2⟩
end
theorem shaped_of {d : PyData} {n : Nat} (h : d.canLay0 = true ∧ d.depth ≤ n) (hn : n ≤ 64) : PySem.SeqAt.shaped d = true := by
  unfold PySem.SeqAt.shaped; rw [h.1, Bool.true_and]; exact decide_eq_true (Nat.le_trans h.2 hn)

/-! ### a value reads data over what P tells of tuples -/
mutual
inductive VR (P : Addr → Obj → Prop) : Value → PyData → Prop
  | none : VR P .none .none
  | int (i : Int) (t : Tok) : VR P (.int i t) (.int i)
  | str (x : Str) (t : Tok) : VR P (.str x t) (.str x)
  | tuple {a : Addr} {o : Obj} {vs : List Value} {n : Nat} {xs : List PyData} : P a o → o.cls = .type "tuple" → o.data = .seq vs.toArray n → VRs P vs xs → VR P (.ref a) (.tuple xs)
inductive VRs (P : Addr → Obj → Prop) : List Value → List PyData → Prop
  | nil : VRs P [] []
  | cons {v : Value} {vs : List Value} {d : PyData} {ds : List PyData} : VR P v d → VRs P vs ds → VRs P (v :: vs) (d :: ds)
end
section
variable {P P' : Addr → Obj → Prop}
theorem VR.mono2 {P P' : Addr → Obj → Prop} (h : ∀ a o, IsT o → P a o → P' a o) {v : Value} {d : PyData} (r : VR P v d) : VR P' v d :=
  VR.rec (motive_1 := fun v d _ => VR P' v d) (motive_2 := fun vs ds _ => VRs P' vs ds) .none .int .str (fun p c e _ r => .tuple (h _ _ ⟨c, _, _, e⟩ p) c e r) .nil (fun _ _ x r => .cons x r) r
theorem VRs.mono2 {P P' : Addr → Obj → Prop} (h : ∀ a o, IsT o → P a o → P' a o) {v : List Value} {d : List PyData} (r : VRs P v d) : VRs P' v d :=
  VRs.rec (motive_1 := fun v d _ => VR P' v d) (motive_2 := fun vs ds _ => VRs P' vs ds) .none .int .str (fun p c e _ r => .tuple (h _ _ ⟨c, _, _, e⟩ p) c e r) .nil (fun _ _ x r => .cons x r) r
theorem VR.mono (h : ∀ a o, o.cls = .type "tuple" → P a o → P' a o) {v : Value} {d : PyData} (r : VR P v d) : VR P' v d := r.mono2 fun a o t => h a o t.1
theorem VRs.mono (h : ∀ a o, o.cls = .type "tuple" → P a o → P' a o) {v : List Value} {d : List PyData} (r : VRs P v d) : VRs P' v d := r.mono2 fun a o t => h a o t.1
theorem VR.reads {h : Heap} (k : ∀ a o, P a o → h.get? a = some o) {v : Value} {d : PyData} (r : VR P v d) : ∃ as, Reads h v d as :=
  VR.rec (motive_1 := fun v d _ => ∃ as, Reads h v d as) (motive_2 := fun vs ds _ => ∃ as, ReadsAll h vs ds as) ⟨_, .none⟩ (fun i t => ⟨_, .int i t⟩) (fun i t => ⟨_, .str i t⟩)
    (fun p c e _ r => r.elim fun as q => ⟨as, .tuple (k _ _ p) c e (by simpa using q)⟩) ⟨_, .nil⟩ (fun _ _ x r => x.elim fun _ q => r.elim fun _ q' => ⟨_, .cons q q'⟩) r
theorem VRs.reads {h : Heap} (k : ∀ a o, P a o → h.get? a = some o) {v : List Value} {d : List PyData} (r : VRs P v d) : ∃ as, ReadsAll h v d as :=
  VRs.rec (motive_1 := fun v d _ => ∃ as, Reads h v d as) (motive_2 := fun vs ds _ => ∃ as, ReadsAll h vs ds as) ⟨_, .none⟩ (fun i t => ⟨_, .int i t⟩) (fun i t => ⟨_, .str i t⟩)
    (fun p c e _ r => r.elim fun as q => ⟨as, .tuple (k _ _ p) c e (by simpa using q)⟩) ⟨_, .nil⟩ (fun _ _ x r => x.elim fun _ q => r.elim fun _ q' => ⟨_, .cons q q'⟩) r
theorem VRs.length {vs : List Value} {ds : List PyData} (r : VRs P vs ds) : vs.length = ds.length :=
  VRs.rec (motive_1 := fun _ _ _ => True) (motive_2 := fun vs ds _ => vs.length = ds.length) trivial (fun _ _ => trivial) (fun _ _ => trivial) (fun _ _ _ _ _ => trivial) rfl (fun _ _ _ h => congrArg (· + 1) h) r
theorem VRs.append {vs ws : List Value} {ds es : List PyData} (r : VRs P vs ds) (q : VRs P ws es) : VRs P (vs ++ ws) (ds ++ es) :=
  VRs.rec (motive_1 := fun _ _ _ => True) (motive_2 := fun vs ds _ => VRs P (vs ++ ws) (ds ++ es)) trivial (fun _ _ => trivial) (fun _ _ => trivial) (fun _ _ _ _ _ => trivial) q (fun x _ _ h => .cons x h) r
theorem VRs.get {vs : List Value} {ds : List PyData} (r : VRs P vs ds) {i : Nat} {d : PyData} (h : ds[i]? = some d) : ∃ v, vs[i]? = some v ∧ VR P v d :=
  VRs.rec (motive_1 := fun _ _ _ => True) (motive_2 := fun vs ds _ => ∀ i, ds[i]? = some d → ∃ v, vs[i]? = some v ∧ VR P v d) trivial (fun _ _ => trivial) (fun _ _ => trivial) (fun _ _ _ _ _ => trivial) (fun i h => by simp at h)
    (fun x _ _ h i e => by cases i with | zero => exact ⟨_, rfl, Option.some.inj e ▸ x⟩ | succ i => exact h i e) r i h
theorem VRs.snoc {vs : List Value} {ds : List PyData} {d : PyData} (r : VRs P vs (ds ++ [d])) : ∃ ws v, vs = ws ++ [v] ∧ VRs P ws ds ∧ VR P v d := by
  induction ds generalizing vs with
  | nil => cases r with | cons x r => cases r; exact ⟨[], _, rfl, .nil, x⟩
  | cons e ds ih =>
    cases r with
    | cons x r =>
      refine ctr fun hG313 => ?_; obtain ⟨ws, v, rfl, a, b⟩ := ih r; refine hG313 ?_; clear hG313
      exact ⟨_ :: ws, v, rfl, .cons x a, b⟩
theorem VRs.reverse {vs : List Value} {ds : List PyData} (r : VRs P vs ds) : VRs P vs.reverse ds.reverse :=
  VRs.rec (motive_1 := fun _ _ _ => True) (motive_2 := fun vs ds _ => VRs P vs.reverse ds.reverse) trivial (fun _ _ => trivial) (fun _ _ => trivial) (fun _ _ _ _ _ => trivial) .nil (fun x _ _ h => by rw [List.reverse_cons, List.reverse_cons]; exact h.append (.cons x .nil)) r
end
/-- P and a ledger -/
noncomputable abbrev Or (P : Addr → Obj → Prop) (Γ : List (Addr × Obj)) (a : Addr) (o : Obj) : Prop := P a o ∨ (a, o) ∈ Γ
end Mine
end
section
open PySem PySem.W PySem.Calls PyProof.Rows PySem.Spec
set_option Elab.async false
set_option linter.unusedVariables false
namespace Mine
section
variable {P : Addr → Obj → Prop} {x : Value}
theorem VR.tI {r : List PyData} (h : VR P x (.tuple r)) : ∃ t o n vs, x = .ref t ∧ P t o ∧ o.cls = .type "tuple" ∧ o.data = .seq (List.toArray vs) n ∧ VRs P vs r := by
  cases h with | tuple p1 p2 p3 p4 => exact ⟨_, _, _, _, rfl, p1, p2, p3, p4⟩
theorem VR.sI {a : Str} (h : VR P x (.str a)) : ∃ u, x = .str a u := by cases h; exact ⟨_, rfl⟩
theorem VR.iI {a : Int} (h : VR P x (.int a)) : ∃ u, x = .int a u := by cases h; exact ⟨_, rfl⟩
theorem VR.nI (h : VR P x .none) : x = .none := by cases h; rfl
theorem VRs.cI {xs : List Value} {d : PyData} {r : List PyData} (h : VRs P xs (d :: r)) : ∃ y ys, xs = y :: ys ∧ VR P y d ∧ VRs P ys r := by
  cases h with | cons p q => exact ⟨_, _, rfl, p, q⟩
theorem VRs.nI {xs : List Value} (h : VRs P xs []) : xs = [] := by cases h; rfl
theorem VRs.c1 {xs : List Value} {d : PyData} (h : VRs P xs [d]) : ∃ y, xs = [y] ∧ VR P y d :=
  h.cI.elim fun y k => k.elim fun _ k => ⟨y, by rw [k.1, k.2.2.nI], k.2.1⟩
theorem VRs.c2 {xs : List Value} {d e : PyData} (h : VRs P xs [d, e]) : ∃ y z, xs = [y, z] ∧ VR P y d ∧ VR P z e :=
  h.cI.elim fun y k => k.elim fun _ k => k.2.2.c1.elim fun z l => ⟨y, z, by rw [k.1, l.1], k.2.1, l.2⟩
theorem VRs.c3 {xs : List Value} {d e f : PyData} (h : VRs P xs [d, e, f]) : ∃ y z w, xs = [y, z, w] ∧ VR P y d ∧ VR P z e ∧ VR P w f :=
  h.cI.elim fun y k => k.elim fun _ k => k.2.2.c2.elim fun z l => l.elim fun w l => ⟨y, z, w, by rw [k.1, l.1], k.2.1, l.2⟩
theorem VR.hdp {a : Str} {r : List PyData} (h : VR P x (.tuple (.str a :: r))) : ∃ t o n u vs, x = .ref t ∧ P t o ∧ o.cls = .type "tuple" ∧ o.data = .seq (Value.str a u :: vs).toArray n ∧ VRs P vs r :=
  ex4 h.tI fun t o n vs k => an5 k fun e p1 p2 p3 q => ex2 q.cI fun y ys l => an3 l fun e1 q1 q2 => q1.sI.elim fun u e2 => ⟨t, o, n, u, ys, e, p1, p2, by rw [p3, e1, e2], q2⟩
theorem VR.pv {a : Str} {d : PyData} (h : VR P x (.tuple [.str a, d])) : ∃ t o n u v, x = .ref t ∧ P t o ∧ o.cls = .type "tuple" ∧ o.data = .seq [Value.str a u, v].toArray n ∧ VR P v d :=
  ex5 h.hdp fun t o n u vs k => an5 k fun e p1 p2 p3 q => q.c1.elim fun v l => ⟨t, o, n, u, v, e, p1, p2, by rw [p3, l.1], l.2⟩
theorem VR.pvv {a : Str} {d e : PyData} (h : VR P x (.tuple [.str a, d, e])) : ∃ t o n u v v2, x = .ref t ∧ P t o ∧ o.cls = .type "tuple" ∧ o.data = .seq [Value.str a u, v, v2].toArray n ∧ VR P v d ∧ VR P v2 e :=
  ex5 h.hdp fun t o n u vs k => an5 k fun e p1 p2 p3 q => ex2 q.c2 fun v v2 l => ⟨t, o, n, u, v, v2, e, p1, p2, by rw [p3, l.1], l.2⟩
theorem VR.two {a : Str} {i : Int} (h : VR P x (.tuple [.str a, .int i])) : ∃ t o n u z, x = .ref t ∧ P t o ∧ o.cls = .type "tuple" ∧ o.data = .seq [Value.str a u, .int i z].toArray n :=
  ex5 h.pv fun t o n u v k => an5 k fun e p1 p2 p3 q => q.iI.elim fun z l => ⟨t, o, n, u, z, e, p1, p2, by rw [p3, l]⟩
theorem VR.ppv {a : Str} {i : Int} {d : PyData} (h : VR P x (.tuple [.str a, .int i, d])) : ∃ t o n u z v, x = .ref t ∧ P t o ∧ o.cls = .type "tuple" ∧ o.data = .seq [Value.str a u, .int i z, v].toArray n ∧ VR P v d :=
  ex6 h.pvv fun t o n u v v2 k => an6 k fun e p1 p2 p3 q q2 => q.iI.elim fun z l => ⟨t, o, n, u, z, v2, e, p1, p2, by rw [p3, l], q2⟩
theorem VR.three {a b : Str} {i : Int} (h : VR P x (.tuple [.str a, .str b, .int i])) : ∃ t o n u u2 z, x = .ref t ∧ P t o ∧ o.cls = .type "tuple" ∧ o.data = .seq [Value.str a u, .str b u2, .int i z].toArray n :=
  ex6 h.pvv fun t o n u v v2 k => an6 k fun e p1 p2 p3 q q2 => q.sI.elim fun w l => q2.iI.elim fun z l2 => ⟨t, o, n, u, w, z, e, p1, p2, by rw [p3, l, l2]⟩
theorem VR.pin {a : Str} {i : Int} (h : VR P x (.tuple [.str a, .int i, .none])) : ∃ t o n u z, x = .ref t ∧ P t o ∧ o.cls = .type "tuple" ∧ o.data = .seq [Value.str a u, .int i z, .none].toArray n :=
  ex6 h.ppv fun t o n u z v k => an5 k fun e p1 p2 p3 q => ⟨t, o, n, u, z, e, p1, p2, by rw [p3, q.nI]⟩
end
end Mine
end
section
open PySem PySem.W PySem.Calls PyProof.Rows PySem.Spec
set_option Elab.async false
set_option maxRecDepth 100000
namespace Mine

section
variable {prog : Program} {w : World} {K : Frag} {A : Around} {E : Value → Shared → Prop} {s : Shared} {g : Heap} {L : Addr} {m : Str → Option Value} {news Γ : List (Addr × Obj)}
  {cn : Str} {cs : Scope} {a : Addr} {cd : Value}
/-! names -/
theorem z_loc {x : Str} {pos : Pos} {v : Value} {Q : Value → Shared → Prop} (z : Z g L s.heap m news Γ) (hv : m x = some v) (h : Q v s)
    (hk : cs.kind = .function := by rfl) (hl : (envOf cn cs L a cd).kindOf x = some .local := by rfl) (hd : (x == ("__debug__" : Str)) = false := by decide) :
    wpAny (model prog w) A (eval (.Name x pos) (envOf cn cs L a cd)) Q E s := ld z.F hv h hk hl hd
theorem z_glob {x : Str} {pos : Pos} {v : Value} {Q : Value → Shared → Prop} (z : Z g L s.heap m news Γ) (C : Cx K g) (e : nsIn K mainGlobals x = some (some v)) (h : Q v s)
    (hk : cs.kind = .function := by rfl) (hx : (envOf cn cs L a cd).kindOf x = some .globalImplicit := by rfl) (hd : (x == ("__debug__" : Str)) = false := by decide) :
    wpAny (model prog w) A (eval (.Name x pos) (envOf cn cs L a cd)) Q E s := let ⟨_, _, _, _, _, T⟩ := C.T; name_K z.F C.X (topRead_of T) e h hk hx hd
theorem z_boot {x : Str} {pos : Pos} {v : Value} {Q : Value → Shared → Prop} (z : Z g L s.heap m news Γ) (C : Cx K g) (e : nsIn K mainGlobals x = some none) (hv : bootBuiltins x = some v) (hn : x ≠ "__name__") (h : Q v s)
    (hk : cs.kind = .function := by rfl) (hx : (envOf cn cs L a cd).kindOf x = some .globalImplicit := by rfl) (hd : (x == ("__debug__" : Str)) = false := by decide) :
    wpAny (model prog w) A (eval (.Name x pos) (envOf cn cs L a cd)) Q E s := let ⟨_, _, _, _, _, T⟩ := C.T; name_B z.F C.X (topRead_of T) e hv hn h hk hx hd
theorem z_store {x : Str} {v : Value} {Q : Unit → Shared → Prop} (z : Z g L s.heap m news Γ)
    (h : ∀ h', Z g L h' (fun y => if y = x then some v else m y) news Γ → Q () { s with heap := h', toks := s.toks + 1 })
    (hk : cs.kind = .function := by rfl) (hl : (envOf cn cs L a cd).kindOf x = some .local := by rfl) :
    wpAny (model prog w) A (storeName (envOf cn cs L a cd) x v) Q E s := wpAny_storeName_local hl z.F.ns (fun h' hn hs => h h' (z.store hs (z.F.set hn hs))) (by show (cs.kind == .class || (cs.kind == .module && L != mainGlobals)) = false; rw [hk]; rfl)

/-! what is made -/
theorem z_tuple {vs : List Value} {Q : Value → Shared → Prop} (z : Z g L s.heap m news Γ)
    (h : ∀ t h', Z g L h' m news ((t, tupO vs) :: Γ) → Q (.ref t) { s with heap := h' }) (hsz : vs.length ≤ sizeLine := by size_fits) : wpAny (model prog w) A (newTuple vs) Q E s :=
  wpAny_newTuple (h _ _ (z.pushT _ (isT_tupO vs))) hsz
theorem z_list {vs : List Value} {Q : Value → Shared → Prop} (z : Z g L s.heap m news Γ)
    (h : ∀ t h', Z g L h' m ((t, listOf vs.toArray 0) :: news) Γ → Q (.ref t) { s with heap := h' }) (hsz : vs.length ≤ sizeLine := by size_fits) : wpAny (model prog w) A (newList vs) Q E s :=
  wpAny_newList (h _ _ (z.push _)) hsz

/-! where an object stands -/
theorem tupAt {h : Heap} {a : Addr} {o : Obj} {vs : List Value} {n : Nat} (e : h.get? a = some o) (hc : o.cls = .type "tuple") (hd : o.data = .seq vs.toArray n) : IsTup h a vs.toArray := ⟨o, e, hc, n, hd⟩
theorem z_tupN {t : Addr} {vs : List Value} (z : Z g L s.heap m news Γ) (hm : (t, tupO vs) ∈ Γ) : IsTup s.heap t vs.toArray := ⟨_, z.tup hm, rfl, 0, rfl⟩
theorem z_tupG {t : Addr} {vs : List Value} (z : Z g L s.heap m news Γ) (hg : IsTup g t vs.toArray) : IsTup s.heap t vs.toArray := hg.keeps z.F.keep

/-! isinstance -/
theorem z_isi {t : Addr} {vs : List Value} {Q : Value → Shared → Prop} (ht : IsTup s.heap t vs.toArray) (h : Q (.bool true) s) : wpAny (model prog w) A (call (.builtin "isinstance") [.ref t, .type "tuple"]) Q E s := by
  obtain ⟨o, ho, hc, _⟩ := ht
  exact IsiPair.tuple_tuple ho hc h

/-! what a body may read: the heap it found, and its ledger -/
noncomputable abbrev Gt (g : Heap) (a : Addr) (o : Obj) : Prop := g.get? a = some o
theorem Z.has (z : Z g L s.heap m news Γ) : ∀ a o, Or (Gt g) Γ a o → s.heap.get? a = some o := fun _ _ h => h.elim z.old fun h => z.tup h
theorem isT_of {o : Obj} {vs : Array Value} {n : Nat} (c : o.cls = .type "tuple") (e : o.data = .seq vs n) : IsT o := ⟨c, _, _, e⟩
theorem gt_of {h₀ : Heap} {P : Addr → Obj → Prop} {h : Heap} {ks : List (Addr × Obj)} (O : Own h₀ h ks) (hin : ∀ a o, h.get? a = some o → a ∉ ks.map (·.1) → g.get? a = some o) (hP : ∀ a o, P a o → h.get? a = some o) : ∀ a o, IsT o → P a o → Gt g a o := fun a o ht hp => hin a o (hP a o hp) fun q => by
  obtain ⟨p, hm, rfl⟩ := List.mem_map.mp q
  have hp' := hP _ _ hp
  rw [O.at_ p hm] at hp'; cases hp'; exact O.no p hm ht
theorem VR.inl {P : Addr → Obj → Prop} {Γ : List (Addr × Obj)} {x : Value} {d : PyData} (r : VR P x d) : VR (Or P Γ) x d := r.mono fun _ _ _ h => .inl h
theorem VRs.inl {P : Addr → Obj → Prop} {Γ : List (Addr × Obj)} {x : List Value} {d : List PyData} (r : VRs P x d) : VRs (Or P Γ) x d := r.mono fun _ _ _ h => .inl h
theorem VR.tup {P : Addr → Obj → Prop} {Γ : List (Addr × Obj)} {t : Addr} {vs : List Value} {ds : List PyData} (hm : (t, tupO vs) ∈ Γ) (r : VRs (Or P Γ) vs ds) : VR (Or P Γ) (.ref t) (.tuple ds) := .tuple (.inr hm) rfl rfl r

theorem VR.notNone {P : Addr → Obj → Prop} {x : Value} {v : V} (r : VR P x v.py) : (x == Value.none) = false := by
  generalize hd : v.py = d at r
  cases r with
  | none => cases v <;> simp [V.py] at hd
  | _ => rfl

theorem z_item0 {value slice : Expr} {t : Addr} {x : Value} {vs : List Value} {u : Tok} {Q : Value → Shared → Prop} (ht : IsTup s.heap t (x :: vs).toArray) (h : Q x s)
    (hs : subscripted slice false (.ref t) (.int 0 u) = operate [.ref t, .int 0 u] (getItem (.ref t) (.int 0 u)) := by with_unfolding_all rfl) :
    wpAny (model prog w) A (subscriptTail value slice (.ref t) (.int 0 u)) Q E s := item_tupleT (j := 0) ht (by decide) (by decide) (by simp [seqIndex?]) rfl h hs

/-! == and in over data -/
theorem z_eq (b : Bool) {x y : Value} {dx dy : PyData} {Q : Value → Shared → Prop} (z : Z g L s.heap m news Γ) (ra : VR (Or (Gt g) Γ) x dx) (rb : VR (Or (Gt g) Γ) y dy) (ha : PySem.SeqAt.shaped dx = true) (hb : PySem.SeqAt.shaped dy = true) (hu : A.units + 64 < cLine)
    (he : PyData.eqv dx dy = b) (h : Q (.bool b) s) : wpAny (model prog w) A (compareOp .Eq x y) Q E s := by
  obtain ⟨as, qa⟩ := ra.reads z.has
  obtain ⟨bs, qb⟩ := rb.reads z.has
  exact eq_dataH qa qb ha hb hu (he ▸ h)
theorem z_ne (b : Bool) {x y : Value} {dx dy : PyData} {Q : Value → Shared → Prop} (z : Z g L s.heap m news Γ) (ra : VR (Or (Gt g) Γ) x dx) (rb : VR (Or (Gt g) Γ) y dy) (ha : PySem.SeqAt.shaped dx = true) (hb : PySem.SeqAt.shaped dy = true) (hu : A.units + 64 < cLine)
    (he : PyData.eqv dx dy = b) (h : Q (.bool (!b)) s) : wpAny (model prog w) A (compareOp .NotEq x y) Q E s := by
  obtain ⟨as, qa⟩ := ra.reads z.has
  obtain ⟨bs, qb⟩ := rb.reads z.has
  exact ne_dataH qa qb ha hb hu (he ▸ h)
end
end Mine
end
section
open PySem PySem.W PySem.Calls PyProof.Rows PySem.Spec
set_option Elab.async false
set_option maxRecDepth 100000
namespace Mine
section
variable {K : Frag} {h : Heap}
theorem Cx.g_SwiftFault (C : Cx K h) : nsIn K mainGlobals (Str.ofString "SwiftFault") = some (some (.ref 31)) := C.KF.glob (_, _) (List.mem_of_getElem? (i := 0) rfl)
theorem Cx.g_FormFault (C : Cx K h) : nsIn K mainGlobals (Str.ofString "FormFault") = some (some (.ref 44)) := C.KF.glob (_, _) (List.mem_of_getElem? (i := 1) rfl)
theorem Cx.g_Trap (C : Cx K h) : nsIn K mainGlobals (Str.ofString "Trap") = some (some (.ref 56)) := C.KF.glob (_, _) (List.mem_of_getElem? (i := 2) rfl)
theorem Cx.g_COUNTED (C : Cx K h) : nsIn K mainGlobals (Str.ofString "COUNTED") = some (some (.ref 59)) := C.KF.glob (_, _) (List.mem_of_getElem? (i := 3) rfl)
theorem Cx.g_parts_of (C : Cx K h) : nsIn K mainGlobals (Str.ofString "parts_of") = some (some (.ref 66)) := C.KF.glob (_, _) (List.mem_of_getElem? (i := 4) rfl)
theorem Cx.k_parts_of (C : Cx K h) : keepIn K (.ref 66) = true := by
  rcases C.KF.keep (_, _) (List.mem_of_getElem? (l := globTab) (i := 4) rfl) with e | e | e | e | e <;> first | exact e | cases e
theorem Cx.g_counted_in (C : Cx K h) : nsIn K mainGlobals (Str.ofString "counted_in") = some (some (.ref 73)) := C.KF.glob (_, _) (List.mem_of_getElem? (i := 5) rfl)
theorem Cx.k_counted_in (C : Cx K h) : keepIn K (.ref 73) = true := by
  rcases C.KF.keep (_, _) (List.mem_of_getElem? (l := globTab) (i := 5) rfl) with e | e | e | e | e <;> first | exact e | cases e
theorem Cx.g_with_part (C : Cx K h) : nsIn K mainGlobals (Str.ofString "with_part") = some (some (.ref 80)) := C.KF.glob (_, _) (List.mem_of_getElem? (i := 6) rfl)
theorem Cx.k_with_part (C : Cx K h) : keepIn K (.ref 80) = true := by
  rcases C.KF.keep (_, _) (List.mem_of_getElem? (l := globTab) (i := 6) rfl) with e | e | e | e | e <;> first | exact e | cases e
theorem Cx.g_Thing (C : Cx K h) : nsIn K mainGlobals (Str.ofString "Thing") = some (some (.ref 97)) := C.KF.glob (_, _) (List.mem_of_getElem? (i := 7) rfl)
theorem Cx.k_Thing (C : Cx K h) : keepIn K (.ref 97) = true := by
  rcases C.KF.keep (_, _) (List.mem_of_getElem? (l := globTab) (i := 7) rfl) with e | e | e | e | e <;> first | exact e | cases e
theorem Cx.g_Heap (C : Cx K h) : nsIn K mainGlobals (Str.ofString "Heap") = some (some (.ref 235)) := C.KF.glob (_, _) (List.mem_of_getElem? (i := 8) rfl)
theorem Cx.k_Heap (C : Cx K h) : keepIn K (.ref 235) = true := by
  rcases C.KF.keep (_, _) (List.mem_of_getElem? (l := globTab) (i := 8) rfl) with e | e | e | e | e <;> first | exact e | cases e
theorem Cx.g_law_kinds (C : Cx K h) : nsIn K mainGlobals (Str.ofString "_law_kinds") = some (some (.ref 246)) := C.KF.glob (_, _) (List.mem_of_getElem? (i := 9) rfl)
theorem Cx.k_law_kinds (C : Cx K h) : keepIn K (.ref 246) = true := by
  rcases C.KF.keep (_, _) (List.mem_of_getElem? (l := globTab) (i := 9) rfl) with e | e | e | e | e <;> first | exact e | cases e
theorem Cx.g_law_draw (C : Cx K h) : nsIn K mainGlobals (Str.ofString "_law_draw") = some (some (.ref 253)) := C.KF.glob (_, _) (List.mem_of_getElem? (i := 10) rfl)
theorem Cx.k_law_draw (C : Cx K h) : keepIn K (.ref 253) = true := by
  rcases C.KF.keep (_, _) (List.mem_of_getElem? (l := globTab) (i := 10) rfl) with e | e | e | e | e <;> first | exact e | cases e
theorem Cx.g_law_inner (C : Cx K h) : nsIn K mainGlobals (Str.ofString "_law_inner") = some (some (.ref 260)) := C.KF.glob (_, _) (List.mem_of_getElem? (i := 11) rfl)
theorem Cx.k_law_inner (C : Cx K h) : keepIn K (.ref 260) = true := by
  rcases C.KF.keep (_, _) (List.mem_of_getElem? (l := globTab) (i := 11) rfl) with e | e | e | e | e <;> first | exact e | cases e
theorem Cx.g_law_links (C : Cx K h) : nsIn K mainGlobals (Str.ofString "_law_links") = some (some (.ref 267)) := C.KF.glob (_, _) (List.mem_of_getElem? (i := 12) rfl)
theorem Cx.k_law_links (C : Cx K h) : keepIn K (.ref 267) = true := by
  rcases C.KF.keep (_, _) (List.mem_of_getElem? (l := globTab) (i := 12) rfl) with e | e | e | e | e <;> first | exact e | cases e
theorem Cx.g_law_more (C : Cx K h) : nsIn K mainGlobals (Str.ofString "_law_more") = some (some (.ref 274)) := C.KF.glob (_, _) (List.mem_of_getElem? (i := 13) rfl)
theorem Cx.k_law_more (C : Cx K h) : keepIn K (.ref 274) = true := by
  rcases C.KF.keep (_, _) (List.mem_of_getElem? (l := globTab) (i := 13) rfl) with e | e | e | e | e <;> first | exact e | cases e
theorem Cx.g_law_gone (C : Cx K h) : nsIn K mainGlobals (Str.ofString "_law_gone") = some (some (.ref 281)) := C.KF.glob (_, _) (List.mem_of_getElem? (i := 14) rfl)
theorem Cx.k_law_gone (C : Cx K h) : keepIn K (.ref 281) = true := by
  rcases C.KF.keep (_, _) (List.mem_of_getElem? (l := globTab) (i := 14) rfl) with e | e | e | e | e <;> first | exact e | cases e
theorem Cx.g_law_agrees (C : Cx K h) : nsIn K mainGlobals (Str.ofString "_law_agrees") = some (some (.ref 288)) := C.KF.glob (_, _) (List.mem_of_getElem? (i := 15) rfl)
theorem Cx.k_law_agrees (C : Cx K h) : keepIn K (.ref 288) = true := by
  rcases C.KF.keep (_, _) (List.mem_of_getElem? (l := globTab) (i := 15) rfl) with e | e | e | e | e <;> first | exact e | cases e
theorem Cx.g_law_value_told (C : Cx K h) : nsIn K mainGlobals (Str.ofString "_law_value_told") = some (some (.ref 295)) := C.KF.glob (_, _) (List.mem_of_getElem? (i := 16) rfl)
theorem Cx.k_law_value_told (C : Cx K h) : keepIn K (.ref 295) = true := by
  rcases C.KF.keep (_, _) (List.mem_of_getElem? (l := globTab) (i := 16) rfl) with e | e | e | e | e <;> first | exact e | cases e
theorem Cx.g_law_take (C : Cx K h) : nsIn K mainGlobals (Str.ofString "_law_take") = some (some (.ref 302)) := C.KF.glob (_, _) (List.mem_of_getElem? (i := 17) rfl)
theorem Cx.k_law_take (C : Cx K h) : keepIn K (.ref 302) = true := by
  rcases C.KF.keep (_, _) (List.mem_of_getElem? (l := globTab) (i := 17) rfl) with e | e | e | e | e <;> first | exact e | cases e
theorem Cx.g_law_make (C : Cx K h) : nsIn K mainGlobals (Str.ofString "_law_make") = some (some (.ref 307)) := C.KF.glob (_, _) (List.mem_of_getElem? (i := 18) rfl)
theorem Cx.k_law_make (C : Cx K h) : keepIn K (.ref 307) = true := by
  rcases C.KF.keep (_, _) (List.mem_of_getElem? (l := globTab) (i := 18) rfl) with e | e | e | e | e <;> first | exact e | cases e
theorem Cx.g_law_join (C : Cx K h) : nsIn K mainGlobals (Str.ofString "_law_join") = some (some (.ref 314)) := C.KF.glob (_, _) (List.mem_of_getElem? (i := 19) rfl)
theorem Cx.k_law_join (C : Cx K h) : keepIn K (.ref 314) = true := by
  rcases C.KF.keep (_, _) (List.mem_of_getElem? (l := globTab) (i := 19) rfl) with e | e | e | e | e <;> first | exact e | cases e
theorem Cx.g_law_live_ref (C : Cx K h) : nsIn K mainGlobals (Str.ofString "_law_live_ref") = some (some (.ref 319)) := C.KF.glob (_, _) (List.mem_of_getElem? (i := 20) rfl)
theorem Cx.k_law_live_ref (C : Cx K h) : keepIn K (.ref 319) = true := by
  rcases C.KF.keep (_, _) (List.mem_of_getElem? (l := globTab) (i := 20) rfl) with e | e | e | e | e <;> first | exact e | cases e
theorem Cx.g_law_loose (C : Cx K h) : nsIn K mainGlobals (Str.ofString "_law_loose") = some (some (.ref 324)) := C.KF.glob (_, _) (List.mem_of_getElem? (i := 21) rfl)
theorem Cx.k_law_loose (C : Cx K h) : keepIn K (.ref 324) = true := by
  rcases C.KF.keep (_, _) (List.mem_of_getElem? (l := globTab) (i := 21) rfl) with e | e | e | e | e <;> first | exact e | cases e
theorem Cx.g_law_part_put (C : Cx K h) : nsIn K mainGlobals (Str.ofString "_law_part_put") = some (some (.ref 329)) := C.KF.glob (_, _) (List.mem_of_getElem? (i := 22) rfl)
theorem Cx.k_law_part_put (C : Cx K h) : keepIn K (.ref 329) = true := by
  rcases C.KF.keep (_, _) (List.mem_of_getElem? (l := globTab) (i := 22) rfl) with e | e | e | e | e <;> first | exact e | cases e
theorem Cx.g_law_own (C : Cx K h) : nsIn K mainGlobals (Str.ofString "_law_own") = some (some (.ref 334)) := C.KF.glob (_, _) (List.mem_of_getElem? (i := 23) rfl)
theorem Cx.k_law_own (C : Cx K h) : keepIn K (.ref 334) = true := by
  rcases C.KF.keep (_, _) (List.mem_of_getElem? (l := globTab) (i := 23) rfl) with e | e | e | e | e <;> first | exact e | cases e
theorem Cx.g_law_taken_down (C : Cx K h) : nsIn K mainGlobals (Str.ofString "_law_taken_down") = some (some (.ref 341)) := C.KF.glob (_, _) (List.mem_of_getElem? (i := 24) rfl)
theorem Cx.k_law_taken_down (C : Cx K h) : keepIn K (.ref 341) = true := by
  rcases C.KF.keep (_, _) (List.mem_of_getElem? (l := globTab) (i := 24) rfl) with e | e | e | e | e <;> first | exact e | cases e
theorem Cx.g_law_act (C : Cx K h) : nsIn K mainGlobals (Str.ofString "_law_act") = some (some (.ref 348)) := C.KF.glob (_, _) (List.mem_of_getElem? (i := 25) rfl)
theorem Cx.k_law_act (C : Cx K h) : keepIn K (.ref 348) = true := by
  rcases C.KF.keep (_, _) (List.mem_of_getElem? (l := globTab) (i := 25) rfl) with e | e | e | e | e <;> first | exact e | cases e
theorem Cx.g_law (C : Cx K h) : nsIn K mainGlobals (Str.ofString "law") = some (some (.ref 353)) := C.KF.glob (_, _) (List.mem_of_getElem? (i := 26) rfl)
theorem Cx.k_law (C : Cx K h) : keepIn K (.ref 353) = true := by
  rcases C.KF.keep (_, _) (List.mem_of_getElem? (l := globTab) (i := 26) rfl) with e | e | e | e | e <;> first | exact e | cases e
theorem Cx.b_isinstance (C : Cx K h) : nsIn K mainGlobals (Str.ofString "isinstance") = some none := C.KF.boot _ (List.mem_of_getElem? (i := 0) rfl)
theorem Cx.b_tuple (C : Cx K h) : nsIn K mainGlobals (Str.ofString "tuple") = some none := C.KF.boot _ (List.mem_of_getElem? (i := 1) rfl)
theorem Cx.b_list (C : Cx K h) : nsIn K mainGlobals (Str.ofString "list") = some none := C.KF.boot _ (List.mem_of_getElem? (i := 2) rfl)
theorem Cx.b_sorted (C : Cx K h) : nsIn K mainGlobals (Str.ofString "sorted") = some none := C.KF.boot _ (List.mem_of_getElem? (i := 3) rfl)
theorem Cx.b_len (C : Cx K h) : nsIn K mainGlobals (Str.ofString "len") = some none := C.KF.boot _ (List.mem_of_getElem? (i := 4) rfl)
theorem Cx.b_range (C : Cx K h) : nsIn K mainGlobals (Str.ofString "range") = some none := C.KF.boot _ (List.mem_of_getElem? (i := 5) rfl)
theorem Cx.b_int (C : Cx K h) : nsIn K mainGlobals (Str.ofString "int") = some none := C.KF.boot _ (List.mem_of_getElem? (i := 6) rfl)
theorem Cx.b_all (C : Cx K h) : nsIn K mainGlobals (Str.ofString "all") = some none := C.KF.boot _ (List.mem_of_getElem? (i := 7) rfl)
theorem Cx.b_enumerate (C : Cx K h) : nsIn K mainGlobals (Str.ofString "enumerate") = some none := C.KF.boot _ (List.mem_of_getElem? (i := 8) rfl)
theorem Cx.b_Exception (C : Cx K h) : nsIn K mainGlobals (Str.ofString "Exception") = some none := C.KF.boot _ (List.mem_of_getElem? (i := 9) rfl)
theorem Cx.m_made (C : Cx K h) : findIn K (.ref 235) (Str.ofString "made") = some (some (.ref 122)) := (C.KF.meth (_, _) (List.mem_of_getElem? (l := methTab) (i := 0) rfl)).1
theorem Cx.n_made (C : Cx K h) : isFn K (.ref 122) = true := (C.KF.meth (_, _) (List.mem_of_getElem? (l := methTab) (i := 0) rfl)).2
theorem Cx.km_made (C : Cx K h) : keepIn K (.ref 122) = true := C.KF.keepM (_, _) (List.mem_of_getElem? (l := methTab) (i := 0) rfl)
theorem Cx.m_thing (C : Cx K h) : findIn K (.ref 235) (Str.ofString "thing") = some (some (.ref 129)) := (C.KF.meth (_, _) (List.mem_of_getElem? (l := methTab) (i := 1) rfl)).1
theorem Cx.n_thing (C : Cx K h) : isFn K (.ref 129) = true := (C.KF.meth (_, _) (List.mem_of_getElem? (l := methTab) (i := 1) rfl)).2
theorem Cx.km_thing (C : Cx K h) : keepIn K (.ref 129) = true := C.KF.keepM (_, _) (List.mem_of_getElem? (l := methTab) (i := 1) rfl)
theorem Cx.m_retain (C : Cx K h) : findIn K (.ref 235) (Str.ofString "retain") = some (some (.ref 136)) := (C.KF.meth (_, _) (List.mem_of_getElem? (l := methTab) (i := 2) rfl)).1
theorem Cx.n_retain (C : Cx K h) : isFn K (.ref 136) = true := (C.KF.meth (_, _) (List.mem_of_getElem? (l := methTab) (i := 2) rfl)).2
theorem Cx.km_retain (C : Cx K h) : keepIn K (.ref 136) = true := C.KF.keepM (_, _) (List.mem_of_getElem? (l := methTab) (i := 2) rfl)
theorem Cx.m_release (C : Cx K h) : findIn K (.ref 235) (Str.ofString "release") = some (some (.ref 143)) := (C.KF.meth (_, _) (List.mem_of_getElem? (l := methTab) (i := 3) rfl)).1
theorem Cx.n_release (C : Cx K h) : isFn K (.ref 143) = true := (C.KF.meth (_, _) (List.mem_of_getElem? (l := methTab) (i := 3) rfl)).2
theorem Cx.km_release (C : Cx K h) : keepIn K (.ref 143) = true := C.KF.keepM (_, _) (List.mem_of_getElem? (l := methTab) (i := 3) rfl)
theorem Cx.m_drop (C : Cx K h) : findIn K (.ref 235) (Str.ofString "drop") = some (some (.ref 150)) := (C.KF.meth (_, _) (List.mem_of_getElem? (l := methTab) (i := 4) rfl)).1
theorem Cx.n_drop (C : Cx K h) : isFn K (.ref 150) = true := (C.KF.meth (_, _) (List.mem_of_getElem? (l := methTab) (i := 4) rfl)).2
theorem Cx.km_drop (C : Cx K h) : keepIn K (.ref 150) = true := C.KF.keepM (_, _) (List.mem_of_getElem? (l := methTab) (i := 4) rfl)
theorem Cx.m_dropped (C : Cx K h) : findIn K (.ref 235) (Str.ofString "dropped") = some (some (.ref 157)) := (C.KF.meth (_, _) (List.mem_of_getElem? (l := methTab) (i := 5) rfl)).1
theorem Cx.n_dropped (C : Cx K h) : isFn K (.ref 157) = true := (C.KF.meth (_, _) (List.mem_of_getElem? (l := methTab) (i := 5) rfl)).2
theorem Cx.km_dropped (C : Cx K h) : keepIn K (.ref 157) = true := C.KF.keepM (_, _) (List.mem_of_getElem? (l := methTab) (i := 5) rfl)
theorem Cx.m_lost (C : Cx K h) : findIn K (.ref 235) (Str.ofString "lost") = some (some (.ref 164)) := (C.KF.meth (_, _) (List.mem_of_getElem? (l := methTab) (i := 6) rfl)).1
theorem Cx.n_lost (C : Cx K h) : isFn K (.ref 164) = true := (C.KF.meth (_, _) (List.mem_of_getElem? (l := methTab) (i := 6) rfl)).2
theorem Cx.km_lost (C : Cx K h) : keepIn K (.ref 164) = true := C.KF.keepM (_, _) (List.mem_of_getElem? (l := methTab) (i := 6) rfl)
theorem Cx.m_buried (C : Cx K h) : findIn K (.ref 235) (Str.ofString "buried") = some (some (.ref 171)) := (C.KF.meth (_, _) (List.mem_of_getElem? (l := methTab) (i := 7) rfl)).1
theorem Cx.n_buried (C : Cx K h) : isFn K (.ref 171) = true := (C.KF.meth (_, _) (List.mem_of_getElem? (l := methTab) (i := 7) rfl)).2
theorem Cx.km_buried (C : Cx K h) : keepIn K (.ref 171) = true := C.KF.keepM (_, _) (List.mem_of_getElem? (l := methTab) (i := 7) rfl)
theorem Cx.m_copied (C : Cx K h) : findIn K (.ref 235) (Str.ofString "copied") = some (some (.ref 178)) := (C.KF.meth (_, _) (List.mem_of_getElem? (l := methTab) (i := 8) rfl)).1
theorem Cx.n_copied (C : Cx K h) : isFn K (.ref 178) = true := (C.KF.meth (_, _) (List.mem_of_getElem? (l := methTab) (i := 8) rfl)).2
theorem Cx.km_copied (C : Cx K h) : keepIn K (.ref 178) = true := C.KF.keepM (_, _) (List.mem_of_getElem? (l := methTab) (i := 8) rfl)
theorem Cx.m_destroyed (C : Cx K h) : findIn K (.ref 235) (Str.ofString "destroyed") = some (some (.ref 185)) := (C.KF.meth (_, _) (List.mem_of_getElem? (l := methTab) (i := 9) rfl)).1
theorem Cx.n_destroyed (C : Cx K h) : isFn K (.ref 185) = true := (C.KF.meth (_, _) (List.mem_of_getElem? (l := methTab) (i := 9) rfl)).2
theorem Cx.km_destroyed (C : Cx K h) : keepIn K (.ref 185) = true := C.KF.keepM (_, _) (List.mem_of_getElem? (l := methTab) (i := 9) rfl)
theorem Cx.m_weak_to (C : Cx K h) : findIn K (.ref 235) (Str.ofString "weak_to") = some (some (.ref 192)) := (C.KF.meth (_, _) (List.mem_of_getElem? (l := methTab) (i := 10) rfl)).1
theorem Cx.n_weak_to (C : Cx K h) : isFn K (.ref 192) = true := (C.KF.meth (_, _) (List.mem_of_getElem? (l := methTab) (i := 10) rfl)).2
theorem Cx.km_weak_to (C : Cx K h) : keepIn K (.ref 192) = true := C.KF.keepM (_, _) (List.mem_of_getElem? (l := methTab) (i := 10) rfl)
theorem Cx.m_weak_read (C : Cx K h) : findIn K (.ref 235) (Str.ofString "weak_read") = some (some (.ref 199)) := (C.KF.meth (_, _) (List.mem_of_getElem? (l := methTab) (i := 11) rfl)).1
theorem Cx.n_weak_read (C : Cx K h) : isFn K (.ref 199) = true := (C.KF.meth (_, _) (List.mem_of_getElem? (l := methTab) (i := 11) rfl)).2
theorem Cx.km_weak_read (C : Cx K h) : keepIn K (.ref 199) = true := C.KF.keepM (_, _) (List.mem_of_getElem? (l := methTab) (i := 11) rfl)
theorem Cx.m_unowned_to (C : Cx K h) : findIn K (.ref 235) (Str.ofString "unowned_to") = some (some (.ref 206)) := (C.KF.meth (_, _) (List.mem_of_getElem? (l := methTab) (i := 12) rfl)).1
theorem Cx.n_unowned_to (C : Cx K h) : isFn K (.ref 206) = true := (C.KF.meth (_, _) (List.mem_of_getElem? (l := methTab) (i := 12) rfl)).2
theorem Cx.km_unowned_to (C : Cx K h) : keepIn K (.ref 206) = true := C.KF.keepM (_, _) (List.mem_of_getElem? (l := methTab) (i := 12) rfl)
theorem Cx.m_unowned_read (C : Cx K h) : findIn K (.ref 235) (Str.ofString "unowned_read") = some (some (.ref 213)) := (C.KF.meth (_, _) (List.mem_of_getElem? (l := methTab) (i := 13) rfl)).1
theorem Cx.n_unowned_read (C : Cx K h) : isFn K (.ref 213) = true := (C.KF.meth (_, _) (List.mem_of_getElem? (l := methTab) (i := 13) rfl)).2
theorem Cx.km_unowned_read (C : Cx K h) : keepIn K (.ref 213) = true := C.KF.keepM (_, _) (List.mem_of_getElem? (l := methTab) (i := 13) rfl)
theorem Cx.m_elements (C : Cx K h) : findIn K (.ref 235) (Str.ofString "elements") = some (some (.ref 220)) := (C.KF.meth (_, _) (List.mem_of_getElem? (l := methTab) (i := 14) rfl)).1
theorem Cx.n_elements (C : Cx K h) : isFn K (.ref 220) = true := (C.KF.meth (_, _) (List.mem_of_getElem? (l := methTab) (i := 14) rfl)).2
theorem Cx.km_elements (C : Cx K h) : keepIn K (.ref 220) = true := C.KF.keepM (_, _) (List.mem_of_getElem? (l := methTab) (i := 14) rfl)
theorem Cx.m_own_buffer (C : Cx K h) : findIn K (.ref 235) (Str.ofString "own_buffer") = some (some (.ref 225)) := (C.KF.meth (_, _) (List.mem_of_getElem? (l := methTab) (i := 15) rfl)).1
theorem Cx.n_own_buffer (C : Cx K h) : isFn K (.ref 225) = true := (C.KF.meth (_, _) (List.mem_of_getElem? (l := methTab) (i := 15) rfl)).2
theorem Cx.km_own_buffer (C : Cx K h) : keepIn K (.ref 225) = true := C.KF.keepM (_, _) (List.mem_of_getElem? (l := methTab) (i := 15) rfl)
theorem Cx.m_live (C : Cx K h) : findIn K (.ref 235) (Str.ofString "live") = some (some (.ref 232)) := (C.KF.meth (_, _) (List.mem_of_getElem? (l := methTab) (i := 16) rfl)).1
theorem Cx.n_live (C : Cx K h) : isFn K (.ref 232) = true := (C.KF.meth (_, _) (List.mem_of_getElem? (l := methTab) (i := 16) rfl)).2
theorem Cx.km_live (C : Cx K h) : keepIn K (.ref 232) = true := C.KF.keepM (_, _) (List.mem_of_getElem? (l := methTab) (i := 16) rfl)
theorem Cx.a_things (C : Cx K h) : findIn K (.ref 235) (Str.ofString "things") = some none := (C.KF.attr (_, _) (List.mem_of_getElem? (l := dataTab) (i := 0) rfl)).1
theorem Cx.t_things (C : Cx K h) : takerIn K 235 (Str.ofString "things") = some none := (C.KF.attr (_, _) (List.mem_of_getElem? (l := dataTab) (i := 0) rfl)).2
theorem Cx.a_last (C : Cx K h) : findIn K (.ref 235) (Str.ofString "last") = some none := (C.KF.attr (_, _) (List.mem_of_getElem? (l := dataTab) (i := 1) rfl)).1
theorem Cx.t_last (C : Cx K h) : takerIn K 235 (Str.ofString "last") = some none := (C.KF.attr (_, _) (List.mem_of_getElem? (l := dataTab) (i := 1) rfl)).2
theorem Cx.a_dying (C : Cx K h) : findIn K (.ref 235) (Str.ofString "dying") = some none := (C.KF.attr (_, _) (List.mem_of_getElem? (l := dataTab) (i := 2) rfl)).1
theorem Cx.t_dying (C : Cx K h) : takerIn K 235 (Str.ofString "dying") = some none := (C.KF.attr (_, _) (List.mem_of_getElem? (l := dataTab) (i := 2) rfl)).2
theorem Cx.a_kind (C : Cx K h) : findIn K (.ref 97) (Str.ofString "kind") = some none := (C.KF.attr (_, _) (List.mem_of_getElem? (l := dataTab) (i := 3) rfl)).1
theorem Cx.t_kind (C : Cx K h) : takerIn K 97 (Str.ofString "kind") = some none := (C.KF.attr (_, _) (List.mem_of_getElem? (l := dataTab) (i := 3) rfl)).2
theorem Cx.a_name (C : Cx K h) : findIn K (.ref 97) (Str.ofString "name") = some none := (C.KF.attr (_, _) (List.mem_of_getElem? (l := dataTab) (i := 4) rfl)).1
theorem Cx.t_name (C : Cx K h) : takerIn K 97 (Str.ofString "name") = some none := (C.KF.attr (_, _) (List.mem_of_getElem? (l := dataTab) (i := 4) rfl)).2
theorem Cx.a_fields (C : Cx K h) : findIn K (.ref 97) (Str.ofString "fields") = some none := (C.KF.attr (_, _) (List.mem_of_getElem? (l := dataTab) (i := 5) rfl)).1
theorem Cx.t_fields (C : Cx K h) : takerIn K 97 (Str.ofString "fields") = some none := (C.KF.attr (_, _) (List.mem_of_getElem? (l := dataTab) (i := 5) rfl)).2
theorem Cx.a_strong (C : Cx K h) : findIn K (.ref 97) (Str.ofString "strong") = some none := (C.KF.attr (_, _) (List.mem_of_getElem? (l := dataTab) (i := 6) rfl)).1
theorem Cx.t_strong (C : Cx K h) : takerIn K 97 (Str.ofString "strong") = some none := (C.KF.attr (_, _) (List.mem_of_getElem? (l := dataTab) (i := 6) rfl)).2
theorem Cx.a_weak (C : Cx K h) : findIn K (.ref 97) (Str.ofString "weak") = some none := (C.KF.attr (_, _) (List.mem_of_getElem? (l := dataTab) (i := 7) rfl)).1
theorem Cx.t_weak (C : Cx K h) : takerIn K 97 (Str.ofString "weak") = some none := (C.KF.attr (_, _) (List.mem_of_getElem? (l := dataTab) (i := 7) rfl)).2
theorem Cx.a_unowned (C : Cx K h) : findIn K (.ref 97) (Str.ofString "unowned") = some none := (C.KF.attr (_, _) (List.mem_of_getElem? (l := dataTab) (i := 8) rfl)).1
theorem Cx.t_unowned (C : Cx K h) : takerIn K 97 (Str.ofString "unowned") = some none := (C.KF.attr (_, _) (List.mem_of_getElem? (l := dataTab) (i := 8) rfl)).2
theorem Cx.a_state (C : Cx K h) : findIn K (.ref 97) (Str.ofString "state") = some none := (C.KF.attr (_, _) (List.mem_of_getElem? (l := dataTab) (i := 9) rfl)).1
theorem Cx.t_state (C : Cx K h) : takerIn K 97 (Str.ofString "state") = some none := (C.KF.attr (_, _) (List.mem_of_getElem? (l := dataTab) (i := 9) rfl)).2
end
end Mine
end
section
open PySem PySem.W PySem.Calls PyProof.Rows PySem.Spec
set_option Elab.async false
set_option maxRecDepth 100000
namespace Mine
section
variable {prog : Program} {w : World} {K : Frag} {A : Around} {E : Value → Shared → Prop} {s : Shared} {g : Heap} {L : Addr} {m : Str → Option Value} {news Γ : List (Addr × Obj)} {f : Obj → List (Addr × Obj)} {D : Addr} {its : Array Value} {n : Nat}
  {cn : Str} {cs : Scope} {a : Addr} {cd : Value}
/-! lists -/
theorem z_append {x : Value} {Q : Value → Shared → Prop} (z : Z g L s.heap m news Γ) (a : At D (listOf its n) news f)
    (h : ∀ h', Z g L h' m (f (listOf (its.push x) (n + 1))) Γ → Q .none { s with heap := h' }) (hsz : its.size ≤ sizeLine) : wpAny (model prog w) A (call (.builtin "list.append") [.ref D, x]) Q E s :=
  append_K z.F z.N (z.upd a notT_list _) (fun h' F' N' => h h' (z.put a F' N')) hsz
theorem z_listMethod {name : Str} {id : String} {pl : Sem Bool} {Q : Value × List Value → Shared → Prop} (z : Z g L s.heap m news Γ) (a : At D (listOf its n) news f) (slot : Slot "list" name id) (hty : typeOf (.builtin id) = pure (.type "method_descriptor"))
    (h : Q (.builtin id, [.ref D]) s) : wpAny (model prog w) A (getMethod (.ref D) name pl) Q E s := kl_method z.N (List.mem_append_left _ a.mem) slot hty h
theorem kl_last_snoc (p : List Value) (y : Value) : kl_last (p ++ [y]) = some (p, y) := by
  induction p with
  | nil => rfl
  | cons x p ih =>
    cases p with
    | nil => rfl
    | cons x' p => simp only [List.cons_append] at ih ⊢; unfold kl_last; rw [ih]
theorem z_pop {p : List Value} {y : Value} {Q : Value → Shared → Prop} (z : Z g L s.heap m news Γ) (a : At D (listOf (p ++ [y]).toArray n) news f)
    (h : ∀ h', Z g L h' m (f (listOf p.toArray (n + 1))) Γ → Q y { s with heap := h' }) (hsz : (p ++ [y]).length ≤ sizeLine) : wpAny (model prog w) A (call (.builtin "list.pop") [.ref D]) Q E s :=
  kl_pop z.F z.N (kl_last_snoc p y) (z.upd a notT_list _) hsz fun h' F' N' => h h' (z.put a F' N')
theorem notTooLong {n m : Nat} {b : Bool} (h : n + m ≤ sizeLine) : ¬(b && Builtin.List.listTooLong (n + m)) = true := by
  have : Builtin.List.listTooLong (n + m) = false := decide_eq_false (Nat.not_lt.mpr h)
  rw [this, Bool.and_false]; exact Bool.false_ne_true
theorem z_extend {b : Addr} {its2 : Array Value} {n2 : Nat} {Q : Value → Shared → Prop} (z : Z g L s.heap m news Γ) (a : At D (listOf its n) news f) (hb : (b, listOf its2 n2) ∈ news)
    (h : ∀ h' k, Z g L h' m (f (listOf (its ++ its2) k)) Γ → Q .none { s with heap := h' }) (hsz : its.size + its2.size ≤ sizeLine) : wpAny (model prog w) A (call (.builtin "list.extend") [.ref D, .ref b]) Q E s := by
  have h1 : its.toList.length ≤ sizeLine := by rw [Array.length_toList]; exact n_al hsz
  have h2 : its.size + its2.size ≤ sizeLine + 1 := by exact n_r hsz
  by_cases e : its2.toList = []
  · have e1 : its2 = #[] := Array.toList_inj.mp (by rw [e])
    subst e1
    rw [Array.append_empty] at h
    exact kxn_extend z.F z.N (List.mem_append_left _ hb) e (z.upd a notT_list _) (notTooLong hsz) h1 h2 fun h' F' N' => h h' _ (z.put a F' N')
  · refine kl_extend (l := its.toList ++ its2.toList) z.F z.N (List.mem_append_left _ hb) rfl (by rw [ne_eq, List.length_eq_zero_iff]; exact e) (z.upd a notT_list _) (notTooLong hsz) h1 h2 fun h' F' N' => h h' (n + 1) ?_
    have := z.put a F' N'
    rwa [show (its.toList ++ its2.toList).toArray = its ++ its2 by simp] at this
theorem z_extendT {b : Addr} {vs : List Value} {Q : Value → Shared → Prop} (z : Z g L s.heap m news Γ) (a : At D (listOf its n) news f) (hb : (b, tupO vs) ∈ Γ)
    (h : ∀ h' k, Z g L h' m (f (listOf (its.toList ++ vs).toArray k)) Γ → Q .none { s with heap := h' }) (hsz : its.size + vs.length ≤ sizeLine) : wpAny (model prog w) A (call (.builtin "list.extend") [.ref D, .ref b]) Q E s :=
  call_meets PySem.F.slot_list_extend ⟨_, z.get a.mem, rfl⟩ PySem.F.entry_list_extend (PySem.F.args_list_extend_2 _ _)
    (PySem.AutoSeq1.list_extend_list_tuple_0 D its n b vs.toArray 0 (notTooLong (by rw [List.size_toArray]; exact hsz)) (n_al hsz) (Nat.le_succ_of_le (by rw [List.size_toArray]; exact hsz)))
    ⟨z.get a.mem, z.tup hb, h _ _ (by
      have := z.set a notT_list (Heap.SameBut.update ..) (PySem.IsL.update (z.get a.mem) fun x => x ++ vs.toArray)
      rwa [show its ++ vs.toArray = (its.toList ++ vs).toArray by simp] at this)⟩
theorem z_eqi (r : Bool) {a b : Int} {t u : Tok} {Q : Value → Shared → Prop} (hb : (a == b) = r) (h : Q (.bool r) s) : wpAny (model prog w) A (compareOp .Eq (.int a t) (.int b u)) Q E s := PyProof.Rows.eq_int (hb ▸ h)
theorem z_nei (r : Bool) {a b : Int} {t u : Tok} {Q : Value → Shared → Prop} (hb : (a == b) = r) (h : Q (.bool (!r)) s) : wpAny (model prog w) A (compareOp .NotEq (.int a t) (.int b u)) Q E s := by
  refine PyProof.Rows.ne_int ?_
  show Q (.bool (!(a == b))) s
  rw [hb]; exact h
theorem z_lti (r : Bool) {a b : Int} {t u : Tok} {Q : Value → Shared → Prop} (hb : decide (a < b) = r) (h : Q (.bool r) s) : wpAny (model prog w) A (compareOp .Lt (.int a t) (.int b u)) Q E s := PyProof.Rows.lt_int (hb ▸ h)
theorem z_gti (r : Bool) {a b : Int} {t u : Tok} {Q : Value → Shared → Prop} (hb : decide (b < a) = r) (h : Q (.bool r) s) : wpAny (model prog w) A (compareOp .Gt (.int a t) (.int b u)) Q E s := PyProof.Rows.gt_int (hb ▸ h)
theorem z_eqs (b : Bool) {x y : Str} {t u : Tok} {Q : Value → Shared → Prop} (hb : (x == y) = b) (h : Q (.bool b) s) : wpAny (model prog w) A (compareOp .Eq (.str x t) (.str y u)) Q E s := PyProof.Rows.eq_str (hb ▸ h)
theorem z_nes (b : Bool) {x y : Str} {t u : Tok} {Q : Value → Shared → Prop} (hb : (x == y) = b) (h : Q (.bool (!b)) s) : wpAny (model prog w) A (compareOp .NotEq (.str x t) (.str y u)) Q E s := by
  refine PyProof.Rows.ne_str ?_
  show Q (.bool (!(x == y))) s
  rw [hb]; exact h
theorem z_listOfTup {l : Addr} {items : Array Value} {Q : Value → Shared → Prop} (z : Z g L s.heap m news Γ) (hl : IsTup s.heap l items)
    (h : ∀ D c h', Z g L h' m ((D, listOf items c) :: news) Γ → Q (.ref D) { s with heap := h' }) (hsz : items.size ≤ sizeLine) : wpAny (model prog w) A (call (.type "list") [.ref l]) Q E s :=
  list_copyKT z.F z.N hl (fun D c h' F' N' lt => h D c h' (z.more lt F' N')) hsz
theorem z_listOfList {l : Addr} {items : Array Value} {Q : Value → Shared → Prop} (z : Z g L s.heap m news Γ) (hl : s.heap.IsList l items)
    (h : ∀ D c h', Z g L h' m ((D, listOf items c) :: news) Γ → Q (.ref D) { s with heap := h' }) (hsz : items.size ≤ sizeLine) : wpAny (model prog w) A (call (.type "list") [.ref l]) Q E s :=
  list_copyK z.F z.N hl (fun D c h' F' N' lt => h D c h' (z.more lt F' N')) hsz
theorem Z.isList {p : Addr} (z : Z g L s.heap m news Γ) (hm : (p, listOf its n) ∈ news) : s.heap.IsList p its := ⟨_, z.get hm, rfl, n, rfl⟩
theorem z_truthy (b : Bool) {its : List Value} {n : Nat} {Q : Bool → Shared → Prop} (z : Z g L s.heap m news Γ) (hm : (D, listOf its.toArray n) ∈ news) (hsz : its.length ≤ sizeLine) (hb : its.isEmpty = !b) (h : Q b { s with toks := s.toks + 1 + 1 }) : wpAny (model prog w) A (truthy (.ref D)) Q E s :=
  wpAny_truthy_list (z.isList hm) (by rw [List.size_toArray]; have : sizeLine = 16777216 := rfl; exact n_c (n_t hsz (Nat.le_refl _)) rfl) (by cases b <;> cases its <;> first | exact h | cases hb)
/-! slices of tuples -/
theorem slicePart_of {v : Value} {k : Option Int} {Q : Option Int → Shared → Prop} (p : IsPart v k) (h : Q k s) : wpAny (model prog w) A (Builtin.Slice.slicePartIndex v) Q E s := by
  cases p with
  | none => exact slicePart_none h
  | int i t => exact slicePart_int h
theorem sliceApplied_of {sl : Addr} {vl vu vk : Value} {lo hi st : Option Int} {len a b : Int} {k : Nat} {Q : Int × Int × Nat → Shared → Prop} (hs : s.heap.IsSliceOf sl vl vu vk) (pl : IsPart vl lo) (pu : IsPart vu hi) (pk : IsPart vk st) (h0 : (st.getD 1 == 0) = false)
    (e : Builtin.Slice.sliceAdjust lo hi (st.getD 1) len = (a, b)) (e2 : Builtin.Slice.slicePlaces a b (st.getD 1) = k) (h : Q (a, st.getD 1, k) s) :
    wpAny (model prog w) A (Builtin.Slice.sliceApplied (.ref sl) (pure len)) Q E s := by
  obtain ⟨os, hos, hcs, hds⟩ := id hs
  unfold Builtin.Slice.sliceApplied Builtin.Slice.sliceFields
  refine wpAny_bind (wpAny_bind (wpAny_field hos hds (x := vl) rfl (wpAny_bind (wpAny_field hos hds (x := vu) rfl (wpAny_bind (wpAny_field hos hds (x := vk) rfl (wpAny_pure ?_)))))))
  refine wpAny_bind (slicePart_of pk ?_)
  show wpAny _ _ (if (st.getD 1 == 0) = true then _ else _) _ _ s
  rw [h0]
  refine wpAny_bind (slicePart_of pl (wpAny_bind (slicePart_of pu (wpAny_bind (wpAny_pure ?_)))))
  show wpAny _ _ (match Builtin.Slice.sliceAdjust lo hi (st.getD 1) len with | (lo, hi) => pure (lo, st.getD 1, Builtin.Slice.slicePlaces lo hi (st.getD 1))) _ _ s
  rw [e]
  show wpAny _ _ (pure (a, st.getD 1, Builtin.Slice.slicePlaces a b (st.getD 1))) _ _ s
  rw [e2]
  exact wpAny_pure h
theorem getItem_tup {t sl : Addr} {items : Array Value} {zs : List Value} {vl vu vk : Value} {lo hi st : Option Int} {a b : Int} {k : Nat} {Q : Value → Shared → Prop} (ht : IsTup s.heap t items) (hs : s.heap.IsSliceOf sl vl vu vk) (pl : IsPart vl lo) (pu : IsPart vu hi) (pk : IsPart vk st) (h0 : (st.getD 1 == 0) = false)
    (e : Builtin.Slice.sliceAdjust lo hi (st.getD 1) items.size = (a, b)) (e2 : Builtin.Slice.slicePlaces a b (st.getD 1) = k) (hw : (a == 0 && st.getD 1 == 1 && k == items.size) = false) (ez : ((List.range k).filterMap fun (j : Nat) => items[(a + (j : Int) * st.getD 1).toNat]?) = zs)
    (h : Q (.ref s.heap.objs.size) { s with heap := s.heap.push (tupO zs) }) (hsz : zs.length ≤ sizeLine) : wpAny (model prog w) A (getItem (.ref t) (.ref sl)) Q E s := by
  have hdrop : sizeOk (.seq zs.toArray) := by show zs.toArray.size ≤ sizeLine; rwa [List.size_toArray]
  obtain ⟨os, hos, hcs, hds⟩ := id hs
  have hTs : s.TypeIs (.ref sl) "slice" := ⟨os, hos, hcs⟩
  unfold getItem
  try with_reducible refine wpAny_holding ?_
  first | refine wpAny_bind (wpAny_pure ?_) | skip
  refine wpAny_bind (wpAny_sequenceKey ht.typeIs (by decide) ?_)
  refine wpAny_bind (wpAny_callSpecial?_slot (name := Str.ofString "__getitem__") ht.typeIs slot_tuple_getitem
    (wpAny_call_entry slot_tuple_getitem ht.typeIs entry_tuple_getitem ?_ (args_tuple_getitem _ _)))
  show wpAny _ _ (Builtin.Tuple.tupleItemsOf (.ref t) >>= _) _ _ s
  refine wpAny_bind (tupleItemsOf_ ht ?_)
  refine wpAny_bind (wpAny_typeOf hTs ?_)
  rw [if_pos (by decide)]
  refine wpAny_bind (sliceApplied_of hs pl pu pk h0 e e2 ?_)
  show wpAny _ _ (if (a == 0 && st.getD 1 == 1 && k == items.size) = true then _ else _) _ _ s
  rw [hw, ez]
  first
    | exact wpAny_bind (m := Builtin.Tuple.tupleExact _) (wpAny_newObj_type (wpAny_pure ⟨_, rfl, wpAny_pure h⟩) hdrop)
    | exact wpAny_bind (m := Builtin.Tuple.tupleExact _) (wpAny_newObj_type (wpAny_bind (wpAny_pure (wpAny_pure ⟨_, rfl, wpAny_pure h⟩))) hdrop)
    | exact wpAny_bind (wpAny_bind (m := Builtin.Tuple.tupleExact _) (wpAny_newObj_type (wpAny_pure (wpAny_pure ⟨_, rfl, wpAny_pure h⟩)) hdrop))
    | exact wpAny_bind (wpAny_bind (m := Builtin.Tuple.tupleExact _) (wpAny_newObj_type (wpAny_pure ⟨_, rfl, wpAny_pure h⟩) hdrop))
theorem z_sliceT {value slice : Expr} {t : Addr} {vs zs : List Value} {vl vu vk : Value} {lo hi st : Option Int} {a b : Int} {k : Nat} {ops : List Value} {Q : Value → Shared → Prop}
    (z : Z g L s.heap m news Γ) (ht : IsTup s.heap t vs.toArray) (pl : IsPart vl lo) (pu : IsPart vu hi) (pk : IsPart vk st) (h0 : (st.getD 1 == 0) = false)
    (e : Builtin.Slice.sliceAdjust lo hi (st.getD 1) vs.length = (a, b)) (e2 : Builtin.Slice.slicePlaces a b (st.getD 1) = k) (hw : (a == 0 && st.getD 1 == 1 && k == vs.length) = false) (ez : ((List.range k).filterMap fun (j : Nat) => vs[(a + (j : Int) * st.getD 1).toNat]?) = zs)
    (h : ∀ t' h', Z g L h' m news ((t', tupO zs) :: Γ) → Q (.ref t') { s with heap := h' }) (hsz : zs.length ≤ sizeLine)
    (hs : subscripted slice false (.ref t) (.ref s.heap.objs.size) = operate ops (getItem (.ref t) (.ref s.heap.objs.size)) := by with_unfolding_all rfl) :
    wpAny (model prog w) A (subscriptTail value slice (.ref t) (.ref s.heap.objs.size)) Q E { s with heap := s.heap.push { cls := .type "slice", data := .fields #[vl, vu, vk] } } := by
  have ht' := ht.push (o := { cls := .type "slice", data := .fields #[vl, vu, vk] })
  have z' := (z.pushG { cls := .type "slice", data := .fields #[vl, vu, vk] }).pushT (tupO zs) (isT_tupO zs)
  exact tail_any (IsTup.typeIs (s := { s with heap := s.heap.push { cls := .type "slice", data := .fields #[vl, vu, vk] } }) ht') slot_tuple_getitem.lookup
    (getItem_tup ht' (Heap.IsSliceOf.new ..) pl pu pk h0 (by rw [List.size_toArray]; exact e) e2 (by rw [List.size_toArray]; exact hw) (by simpa using ez) (h _ _ z') hsz) hs
theorem pick_rev (vs : List Value) : ((List.range vs.length).filterMap fun (j : Nat) => vs[(((vs.length : Int) - 1) + (j : Int) * (-1)).toNat]?) = vs.reverse := by
  have h := krv_all vs.toArray
  rw [List.size_toArray] at h
  have e : ((List.range vs.length).filterMap fun (j : Nat) => vs[(((vs.length : Int) - 1) + (j : Int) * (-1)).toNat]?) = ((List.range vs.length).map fun k => vs.length - 1 - k).filterMap (vs.toArray[·]?) := by
    rw [List.filterMap_map]
    congr 1; funext j
    have : (((vs.length : Int) - 1) + (j : Int) * (-1)).toNat = vs.length - 1 - j := by lia
    rw [this]; simp
  rw [e, krv_range, List.filterMap_reverse, h]
theorem z_revT {value slice : Expr} {t : Addr} {vs : List Value} {vk : Value} {ops : List Value} {Q : Value → Shared → Prop} (z : Z g L s.heap m news Γ) (ht : IsTup s.heap t vs.toArray) (pk : IsPart vk (some (-1))) (hsz : vs.length ≤ sizeLine)
    (h : ∀ t' h', Z g L h' m news ((t', tupO vs.reverse) :: Γ) → Q (.ref t') { s with heap := h' })
    (hs : subscripted slice false (.ref t) (.ref s.heap.objs.size) = operate ops (getItem (.ref t) (.ref s.heap.objs.size)) := by with_unfolding_all rfl) :
    wpAny (model prog w) A (subscriptTail value slice (.ref t) (.ref s.heap.objs.size)) Q E { s with heap := s.heap.push { cls := .type "slice", data := .fields #[.none, .none, vk] } } := by
  refine z_sliceT (a := (vs.length : Int) - 1) (b := -1) (k := vs.length) z ht .none .none pk rfl ?_ ?_ ?_ (pick_rev vs) h (by simpa using hsz) hs
  · rfl
  · show Builtin.Slice.slicePlaces ((vs.length : Int) - 1) (-1) (-1) = vs.length
    unfold Builtin.Slice.slicePlaces
    have h1 : ¬ ((-1 : Int) > 0) := by decide
    simp only [h1, if_false]
    rw [show (- -1 : Int) = 1 by decide, Int.ediv_one]
    split <;> lia
  · simp
theorem z_headT {value slice : Expr} {t : Addr} {x y : Value} {vs : List Value} {vu : Value} {ops : List Value} {Q : Value → Shared → Prop} (z : Z g L s.heap m news Γ) (ht : IsTup s.heap t (x :: y :: vs).toArray) (pu : IsPart vu (some 1))
    (h : ∀ t' h', Z g L h' m news ((t', tupO [x]) :: Γ) → Q (.ref t') { s with heap := h' })
    (hs : subscripted slice false (.ref t) (.ref s.heap.objs.size) = operate ops (getItem (.ref t) (.ref s.heap.objs.size)) := by with_unfolding_all rfl) :
    wpAny (model prog w) A (subscriptTail value slice (.ref t) (.ref s.heap.objs.size)) Q E { s with heap := s.heap.push { cls := .type "slice", data := .fields #[.none, vu, .none] } } := by
  refine z_sliceT (a := 0) (b := 1) (k := 1) z ht .none pu .none rfl ?_ ?_ ?_ ?_ h (Nat.le_of_ble_eq_true rfl) hs
  · show Builtin.Slice.sliceAdjust none (some 1) 1 _ = _
    unfold Builtin.Slice.sliceAdjust
    simp only [List.length_cons]
    congr 1
    have : ¬ ((1 : Int) < 0) := by decide
    simp only [this, if_false]
    lia
  · decide
  · simp
  · rfl
theorem Z.ext {h h' : Heap} (z : Z g L h m news Γ) (he : Heap.ExtBut h.objs.size h h') : Z g L h' m news Γ := ⟨z.F.extBut he (Nat.le_refl _), z.N.extBut he (Nat.le_refl _), z.nd, z.T⟩
theorem z_unpackT {t : Addr} {vs : List Value} {n : Nat} {Q : List Value → Shared → Prop} (z : Z g L s.heap m news Γ) (ht : IsTup s.heap t vs.toArray) (hh : A.handled = none) (hn : n = vs.length)
    (h : ∀ h', Z g L h' m news Γ → Q vs { s with heap := h' }) : wpAny (model prog w) A (unpackItems (.ref t) n none) Q E s := by
  have := unpackItems_tuple (prog := prog) (w := w) (E := E) (Q := Q) hh ht (fun h' he => h h' (z.ext he))
  rwa [List.size_toArray, ← hn] at this
/-! what a name holds behind stores -/
theorem m_skip {x y : Str} {v : Value} {m : Str → Option Value} {r : Option Value} (hne : (y == x) = false) (h : m y = r) : (fun y => if y = x then some v else m y) y = r := by
  have : y ≠ x := by simpa using hne
  simp [this, h]
theorem m_hit {x : Str} {v : Value} {m : Str → Option Value} : (fun y => if y = x then some v else m y) x = some v := by simp
theorem VR.up1 {P : Addr → Obj → Prop} {p : Addr × Obj} {x : Value} {d : PyData} (r : VR (Or P Γ) x d) : VR (Or P (p :: Γ)) x d := r.mono fun _ _ _ h => h.imp id (List.mem_cons_of_mem _)
theorem VRs.up1 {P : Addr → Obj → Prop} {p : Addr × Obj} {x : List Value} {d : List PyData} (r : VRs (Or P Γ) x d) : VRs (Or P (p :: Γ)) x d := r.mono fun _ _ _ h => h.imp id (List.mem_cons_of_mem _)
theorem VR.upA {P : Addr → Obj → Prop} {Γ' : List (Addr × Obj)} {x : Value} {d : PyData} (r : VR (Or P Γ) x d) : VR (Or P (Γ' ++ Γ)) x d := r.mono fun _ _ _ h => h.imp id (List.mem_append_right _)
theorem VRs.upA {P : Addr → Obj → Prop} {Γ' : List (Addr × Obj)} {x : List Value} {d : List PyData} (r : VRs (Or P Γ) x d) : VRs (Or P (Γ' ++ Γ)) x d := r.mono fun _ _ _ h => h.imp id (List.mem_append_right _)
noncomputable abbrev No (_ : Addr) (_ : Obj) : Prop := False
theorem VR.no {P : Addr → Obj → Prop} {x : Value} {d : PyData} (r : VR (Or No Γ) x d) : VR (Or P Γ) x d := r.mono fun _ _ _ h => h.imp False.elim id
theorem VRs.no {P : Addr → Obj → Prop} {x : List Value} {d : List PyData} (r : VRs (Or No Γ) x d) : VRs (Or P Γ) x d := r.mono fun _ _ _ h => h.imp False.elim id
/-- a tuple of the heap found or of the ledger -/
noncomputable def TT (g : Heap) (Γ : List (Addr × Obj)) (a : Addr) (vs : List Value) : Prop := ∃ o n, Or (Gt g) Γ a o ∧ o.cls = .type "tuple" ∧ o.data = .seq vs.toArray n
theorem TT.mk {o : Obj} {vs : List Value} {n : Nat} (p : Or (Gt g) Γ a o) (c : o.cls = .type "tuple") (d : o.data = .seq vs.toArray n) : TT g Γ a vs := ⟨o, n, p, c, d⟩
theorem TT.up1 {p : Addr × Obj} {vs : List Value} (r : TT g Γ a vs) : TT g (p :: Γ) a vs := let ⟨o, n, p, c, d⟩ := r; ⟨o, n, p.imp id (List.mem_cons_of_mem _), c, d⟩
theorem TT.upA {Γ' : List (Addr × Obj)} {vs : List Value} (r : TT g Γ a vs) : TT g (Γ' ++ Γ) a vs := let ⟨o, n, p, c, d⟩ := r; ⟨o, n, p.imp id (List.mem_append_right _), c, d⟩
theorem z_tupO {t : Addr} {vs : List Value} (z : Z g L s.heap m news Γ) (r : TT g Γ t vs) : IsTup s.heap t vs.toArray := let ⟨o, n, p, c, d⟩ := r; ⟨o, z.has _ _ p, c, n, d⟩
theorem Cx.cvr {h : Heap} (C : Cx K h) : VR (Gt h) (.ref 59) (.tuple [S "ref", S "buf", S "box"]) := by
  refine ctr fun hG166 => ?_; obtain ⟨n, t1, t2, t3, e⟩ := C.KF.counted; refine hG166 ?_; clear hG166
  exact VR.tuple (vs := [.str "ref" t1, .str "buf" t2, .str "box" t3]) (C.X _ _ e) rfl rfl (.cons (.str _ _) (.cons (.str _ _) (.cons (.str _ _) .nil)))
theorem VRs.push {P : Addr → Obj → Prop} {its : Array Value} {x : Value} {ds : List PyData} {d : PyData} (r : VRs P its.toList ds) (q : VR P x d) : VRs P (its.push x).toList (ds ++ [d]) := by
  rw [Array.toList_push]; exact r.append (.cons q .nil)
theorem z_kin {h : Heap} (z : Z g L h m news Γ) (C : Cx K g) : K.In h := C.X.keeps z.F.keep
theorem Z.call0 {h₀ h h' : Heap} {Γ' : List (Addr × Obj)} (z : Z g L h m news Γ) (k : Kept h₀ [] h h' []) (t : TupL h h' Γ') : Z g L h' m news (Γ' ++ Γ) := by
  have := Z.call (loc := news) (by rw [List.append_nil]; exact z) Own.nil k t
  rwa [List.append_nil] at this
theorem Z.call1 {h₀ h h' : Heap} {p : Addr × Obj} {Γ' : List (Addr × Obj)} (z : Z g L h m news Γ) (k : Kept h₀ [] h h' [p]) (t : TupL h h' Γ') : Z g L h' m (p :: news) (Γ' ++ Γ) := by
  have := Z.call (loc := news) (by rw [List.append_nil]; exact z) Own.nil k t
  exact this.perm (List.perm_append_comm (l₁ := [p]) (l₂ := news))
theorem or_or {P : Addr → Obj → Prop} {Γ' : List (Addr × Obj)} {a : Addr} {o : Obj} (h : Or (Or P Γ) Γ' a o) : Or P (Γ' ++ Γ) a o := h.elim (fun h => h.imp id (List.mem_append_right _)) fun h => .inr (List.mem_append_left _ h)
theorem VR.orr {P : Addr → Obj → Prop} {Γ' : List (Addr × Obj)} {x : Value} {d : PyData} (r : VR (Or (Or P Γ) Γ') x d) : VR (Or P (Γ' ++ Γ)) x d := r.mono fun _ _ _ => or_or
theorem VRs.orr {P : Addr → Obj → Prop} {Γ' : List (Addr × Obj)} {x : List Value} {d : List PyData} (r : VRs (Or (Or P Γ) Γ') x d) : VRs (Or P (Γ' ++ Γ)) x d := r.mono fun _ _ _ => or_or
theorem VRs.link {P : Addr → Obj → Prop} {its : Array Value} {t : Addr} {W : Str} {u u' : Tok} {i : Int} {j : Nat} {ls : List Link} (k : W3) (hm : (t, tupO [.str W u, .int i u']) ∈ Γ) (r : VRs (Or P Γ) its.toList (ls.map Link.py)) (hW : k.word = W := by rfl) (hi : i = (j : Int) + 1 := by rfl) :
    VRs (Or P Γ) (its.push (.ref t)).toList ((ls ++ [(k, j)]).map Link.py) := by
  subst hW hi
  rw [List.map_append]
  exact VRs.push r (VR.tup hm (.cons (.str _ _) (.cons (.int _ _) .nil)))
/-- a tuple is let go out of the ledger -/
theorem Z.pushG_drop {h : Heap} {p : Addr × Obj} (z : Z g L h m news (p :: Γ)) : Z g L h m news Γ := ⟨z.F, fun q hq => z.N q ((List.mem_append.mp hq).elim (fun hq => List.mem_append_left _ hq) fun hq => List.mem_append_right _ (.tail _ hq)), z.nd, fun q hq => z.T q (.tail _ hq)⟩
theorem Z.dropA {h : Heap} {Γ' : List (Addr × Obj)} (z : Z g L h m news (Γ' ++ Γ)) : Z g L h m news Γ := ⟨z.F, fun q hq => z.N q ((List.mem_append.mp hq).elim (fun hq => List.mem_append_left _ hq) fun hq => List.mem_append_right _ (List.mem_append_right _ hq)), z.nd, fun q hq => z.T q (List.mem_append_right _ hq)⟩
/-! in, not in -/
theorem z_in (b : Bool) {c x : Value} {xs : List PyData} {d : PyData} {Q : Value → Shared → Prop} (z : Z g L s.heap m news Γ) (rc : VR (Or (Gt g) Γ) c (.tuple xs)) (rx : VR (Or (Gt g) Γ) x d) (hxs : PyData.canLayAll0 xs = true) (hd : d.canLay0 = true)
    (hx : PyData.depthAll xs ≤ 8) (hu : A.units + 64 < cLine) (e : xs.any (fun y => PyData.eqv y d) = b) (h : Q (.bool b) s) : wpAny (model prog w) A (compareOp .In x c) Q E s := by
  obtain ⟨as, qa⟩ := rc.reads z.has
  obtain ⟨bs, qb⟩ := rx.reads z.has
  exact SeqAt.in_tuple_reads qa qb hxs hd (Nat.lt_of_le_of_lt (Nat.add_le_add_left (Nat.le_trans (Nat.min_le_left _ _) hx) _) (by lia)) (e ▸ h)
theorem z_notIn (b : Bool) {c x : Value} {xs : List PyData} {d : PyData} {Q : Value → Shared → Prop} (z : Z g L s.heap m news Γ) (rc : VR (Or (Gt g) Γ) c (.tuple xs)) (rx : VR (Or (Gt g) Γ) x d) (hxs : PyData.canLayAll0 xs = true) (hd : d.canLay0 = true)
    (hx : PyData.depthAll xs ≤ 8) (hu : A.units + 64 < cLine) (e : xs.any (fun y => PyData.eqv y d) = b) (h : Q (.bool (!b)) s) : wpAny (model prog w) A (compareOp .NotIn x c) Q E s := by
  obtain ⟨as, qa⟩ := rc.reads z.has
  obtain ⟨bs, qb⟩ := rx.reads z.has
  exact SeqAt.notIn_tuple_reads qa qb hxs hd (Nat.lt_of_le_of_lt (Nat.add_le_add_left (Nat.le_trans (Nat.min_le_left _ _) hx) _) (by lia)) (e ▸ h)
end
/-! loops -/
noncomputable def Less (I : Nat → Shared → Prop) (n : Nat) (s : Shared) : Prop := ∃ m, m < n ∧ I m s
theorem Less.mk {I : Nat → Shared → Prop} {n k : Nat} {s : Shared} (h : k < n) (i : I k s) : Less I n s := ⟨k, h, i⟩
section
variable {prog : Program} {w : World} {A : Around} {E : Value → Shared → Prop} {s : Shared}
theorem z_while {test body orelse env pos} {Q : Flow → Shared → Prop} (I : Nat → Shared → Prop)
    (turn : ∀ n s, I n s →
      wpAny (model prog w) A (isTrue test env (eval test env)) (fun b s₂ =>
        if b then wpAny (model prog w) A (execs body env) (fun f s₃ => match f with
            | .next | .cont => Less I n s₃
            | .brk => Q .next s₃
            | .ret v => Q (.ret v) s₃) (notedBy (model prog w) A env fun e s' => cameBackBy (model prog w) A env E e s') s₂
        else wpAny (model prog w) A (execs orelse env) (fun f s₃ => Q f s₃) (notedBy (model prog w) A env fun e s' => cameBackBy (model prog w) A env E e s') s₂)
        (notedBy (model prog w) A env fun e s' => cameBackBy (model prog w) A env E e s') s)
    (n : Nat) (h : I n s) : wpAny (model prog w) A (exec (.While test body orelse pos) env) Q E s :=
  wpAny_While (codeAny_whileLoop I turn n h)
end
end Mine
end
section
open PySem PySem.W PySem.Calls PyProof.Rows PySem.Spec
set_option Elab.async false
set_option maxRecDepth 100000
set_option maxHeartbeats 1000000
set_option rowWalk.seconds 0
set_option linter.unusedVariables false
namespace Mine
/-- what a body's run holds fast -/
structure Fn where
  prog : Program
  w : World
  K : Frag
  A : Around
  env : Env
  b : Shared
  g : Heap
  L : Addr
structure Fn.Ok (X : Fn) : Prop where
  hk : X.env.scope.kind = .function
  hL : X.env.locals = X.L
  hG : X.env.globals = mainGlobals
  hB : X.env.builtins = builtinsNs
  hh : X.A.handled = none
  C : Cx X.K X.g
  hu : X.A.units + 64 < cLine
structure Y (X : Fn) (m : Str → Option Value) (news Γ : List (Addr × Obj)) (s : Shared) : Prop where
  z : Z X.g X.L s.heap m news Γ
  e : s = { X.b with heap := s.heap, toks := s.toks }
  ok : X.Ok
/-- what follows an if, a while, a for: named, so that the goals stay small -/
noncomputable def KIf (X : Fn) (rest : List Stmt) (Q : Flow → Shared → Prop) (E : Value → Shared → Prop) (f : Flow) (s : Shared) : Prop :=
  match f with | .next => wpAny (model X.prog X.w) X.A (execs rest X.env) Q E s | f => Q f s
noncomputable def KWh (I : Shared → Prop) (Q : Flow → Shared → Prop) (f : Flow) (s : Shared) : Prop :=
  match f with | .next | .cont => I s | .brk => False | .ret v => Q (.ret v) s
theorem KWh.nx {I : Shared → Prop} {Q : Flow → Shared → Prop} {s : Shared} (h : I s) : KWh I Q .next s := h
noncomputable def KFo (X : Fn) (J : (Str → Option Value) → List (Addr × Obj) → List (Addr × Obj) → Prop) (p : Addr × Obj) (Q : Flow → Shared → Prop) (f : Flow) (s : Shared) : Prop :=
  match f with | .next | .cont => ∃ m' news' Γ', Y X m' (p :: news') Γ' s ∧ J m' news' Γ' | .brk => False | .ret v => Q (.ret v) s
/-- an expression without effect: its value -/
noncomputable def PV (X : Fn) (m : Str → Option Value) (news Γ : List (Addr × Obj)) (e : Expr) (vp : Value → Prop) : Prop :=
  ∀ E s, Y X m news Γ s → wpAny (model X.prog X.w) X.A (eval e X.env) (fun v s' => vp v ∧ Y X m news Γ s') E s
/-- a test without effect -/
noncomputable def PB (X : Fn) (m : Str → Option Value) (news Γ : List (Addr × Obj)) (e : Expr) (b : Bool) : Prop :=
  ∀ E s, Y X m news Γ s → wpAny (model X.prog X.w) X.A (isTrue e X.env (eval e X.env)) (fun b' s' => b' = b ∧ Y X m news Γ s') E s
noncomputable abbrev IsI (i : Int) (v : Value) : Prop := ∃ t, v = .int i t
noncomputable abbrev IsS (x : Str) (v : Value) : Prop := ∃ t, v = .str x t
noncomputable def up (x : Str) (v : Value) (m : Str → Option Value) : Str → Option Value := fun z => if z = x then some v else m z
theorem up_hit {x : Str} {v : Value} {m : Str → Option Value} : up x v m x = some v := m_hit
theorem up_skip {x y : Str} {v : Value} {m : Str → Option Value} {r : Option Value} (h : m y = r) (hne : (y == x) = false := by decide) : up x v m y = r := m_skip hne h
section
variable {X : Fn} {m : Str → Option Value} {news Γ : List (Addr × Obj)} {Q : Flow → Shared → Prop} {E : Value → Shared → Prop} {s : Shared}
theorem Y.tk (y : Y X m news Γ s) (t : Tok) : Y X m news Γ { s with toks := t } := ⟨y.z, by rw [y.e], y.ok⟩
theorem Y.to {h' : Heap} {t : Tok} {m' : Str → Option Value} {news' Γ' : List (Addr × Obj)} (y : Y X m news Γ s) (z : Z X.g X.L h' m' news' Γ') : Y X m' news' Γ' { s with heap := h', toks := t } := ⟨z, by rw [y.e], y.ok⟩
theorem PV.mono {e : Expr} {vp vp' : Value → Prop} (h1 : PV X m news Γ e vp) (h : ∀ v, vp v → vp' v) : PV X m news Γ e vp' := fun E s y => wpAny_mono (h1 E s y) (fun _ _ q => ⟨h _ q.1, q.2⟩) fun _ _ x => x

/-! statements -/
theorem y_if {test : Expr} {body orelse rest : List Stmt} {pos : Pos} (b : Bool) (h1 : PB X m news Γ test b) (y : Y X m news Γ s)
    (h : ∀ s', Y X m news Γ s' → wpAny (model X.prog X.w) X.A (execs (bif b then body else orelse) X.env) (KIf X rest Q E) E s') :
    wpAny (model X.prog X.w) X.A (execs (.If test body orelse pos :: rest) X.env) Q E s := by
  repeat' walk1
  refine wpAny_mono (h1 _ s y) (fun b' s' q => ?_) (fun _ _ x => x)
  obtain ⟨rfl, y'⟩ := q
  cases b' <;> exact h s' y'
theorem y_ret {e : Expr} {rest : List Stmt} {pos : Pos} {vp : Value → Prop} (h1 : PV X m news Γ e vp) (y : Y X m news Γ s) (h : ∀ v s', vp v → Y X m news Γ s' → Q (.ret v) s') :
    wpAny (model X.prog X.w) X.A (execs (.Return (some e) pos :: rest) X.env) Q E s := by
  repeat' walk1
  exact wpAny_mono (h1 _ s y) (fun v s' q => h v s' q.1 q.2) (fun _ _ x => x)
theorem y_reteff {e : Expr} {rest : List Stmt} {pos : Pos} (h : wpAny (model X.prog X.w) X.A (eval e X.env) (fun v s' => Q (.ret v) s') E s) :
    wpAny (model X.prog X.w) X.A (execs (.Return (some e) pos :: rest) X.env) Q E s := by
  repeat' walk1
  exact h
theorem y_nil (h : Q .next s) : wpAny (model X.prog X.w) X.A (execs [] X.env) Q E s := by
  repeat' walk1
  exact h
theorem y_expr {e : Expr} {rest : List Stmt} {pos : Pos} (h : wpAny (model X.prog X.w) X.A (eval e X.env) (fun _ s' => wpAny (model X.prog X.w) X.A (execs rest X.env) Q E s') E s)
    (hi : interactive X.env = false := by rfl) (hs : swapsWith e none pos.line X.env = pure false := by rfl) :
    wpAny (model X.prog X.w) X.A (execs (.Expr e pos :: rest) X.env) Q E s := by
  walk1
  exact wpAny_Expr_any h hi hs
theorem y_asgeff {x : Str} {e : Expr} {rest : List Stmt} {pos px : Pos} (h : wpAny (model X.prog X.w) X.A (eval e X.env) (fun v s' => wpAny (model X.prog X.w) X.A (storeName X.env x v) (fun _ s' => wpAny (model X.prog X.w) X.A (execs rest X.env) Q E s') E s') E s)
    (hs : swapsWith e (some (.Name x px)) pos.line X.env = pure false := by rfl) :
    wpAny (model X.prog X.w) X.A (execs (.Assign [.Name x px] e pos :: rest) X.env) Q E s := by
  walk1
  exact wpAny_Assign_Name h hs
theorem y_store {x : Str} {v : Value} {Q : Unit → Shared → Prop} (y : Y X m news Γ s)
    (h : ∀ s', Y X (up x v m) news Γ s' → Q () s') (hl : X.env.kindOf x = some .local := by rfl) : wpAny (model X.prog X.w) X.A (storeName X.env x v) Q E s :=
  wpAny_storeName_local hl (by rw [y.ok.hL]; exact y.z.F.ns) (fun h' hn hs => by rw [y.ok.hL] at hn hs; exact h _ (y.to (y.z.store hs (y.z.F.set hn hs)))) (by rw [y.ok.hk]; rfl)
theorem y_asg {x : Str} {e : Expr} {rest : List Stmt} {pos px : Pos} {vp : Value → Prop} (h1 : PV X m news Γ e vp) (y : Y X m news Γ s)
    (h : ∀ v s', vp v → Y X (up x v m) news Γ s' → wpAny (model X.prog X.w) X.A (execs rest X.env) Q E s')
    (hl : X.env.kindOf x = some .local := by rfl) (hs : swapsWith e (some (.Name x px)) pos.line X.env = pure false := by rfl) :
    wpAny (model X.prog X.w) X.A (execs (.Assign [.Name x px] e pos :: rest) X.env) Q E s :=
  y_asgeff (wpAny_mono (h1 _ s y) (fun v s' q => y_store q.2 (fun s2 y2 => h v s2 q.1 y2) hl) fun _ _ x => x) hs

/-! values -/
theorem pv_str {x : Str} {k : Nat} {pos : Pos} : PV X m news Γ (.Constant (.str x) k pos) (IsS x) := by
  intro E s y
  repeat' walk1
  all_goals first | exact y.tk _ | exact ⟨_, rfl⟩
theorem pv_int {i : Int} {k : Nat} {pos : Pos} : PV X m news Γ (.Constant (.int i) k pos) (IsI i) := by
  intro E s y
  repeat' walk1
  all_goals first | exact y.tk _ | exact ⟨_, rfl⟩
theorem pv_none {k : Nat} {pos : Pos} : PV X m news Γ (.Constant .none k pos) (· = .none) := by
  intro E s y
  repeat' walk1
  all_goals first | exact y | rfl
/-! tests -/
theorem pb_not {e : Expr} {pos : Pos} {b : Bool} (h1 : PB X m news Γ e b) : PB X m news Γ (.UnaryOp .Not e pos) (!b) := by
  intro E s y
  repeat' walk1
  exact wpAny_mono (h1 _ s y) (fun b' s' q => ⟨by rw [q.1], q.2⟩) (fun _ _ x => x)
theorem pb_and2_f {a b : Expr} {pos : Pos} (h1 : PB X m news Γ a false) : PB X m news Γ (.BoolOp .And [a, b] pos) false := by
  intro E s y
  repeat' walk1
  refine wpAny_mono (h1 _ _ (by assumption)) (fun b' s' q => ?_) (fun _ _ x => x)
  obtain ⟨rfl, y'⟩ := q
  repeat' walk1
  all_goals first | contradiction | exact ⟨rfl, y'⟩ | exact y' | rfl | (cases b' <;> first | exact ⟨rfl, y'⟩ | ((repeat' walk1); all_goals first | contradiction | rfl | exact y'))
theorem pb_or2_t {a b : Expr} {pos : Pos} (h1 : PB X m news Γ a true) : PB X m news Γ (.BoolOp .Or [a, b] pos) true := by
  intro E s y
  repeat' walk1
  refine wpAny_mono (h1 _ _ (by assumption)) (fun b' s' q => ?_) (fun _ _ x => x)
  obtain ⟨rfl, y'⟩ := q
  repeat' walk1
  all_goals first | contradiction | exact ⟨rfl, y'⟩ | exact y' | rfl | (cases b' <;> first | exact ⟨rfl, y'⟩ | ((repeat' walk1); all_goals first | contradiction | rfl | exact y'))
theorem pb_and2_tr {a b : Expr} {pos : Pos} {r : Bool} (h1 : PB X m news Γ a true) (h2 : PB X m news Γ b r) : PB X m news Γ (.BoolOp .And [a, b] pos) r := by
  intro E s y
  repeat' walk1
  refine wpAny_mono (h1 _ _ (by assumption)) (fun b' s' q => ?_) (fun _ _ x => x)
  obtain ⟨rfl, y'⟩ := q
  repeat' walk1
  refine wpAny_mono (h2 _ _ (by assumption)) (fun b' s' q => ?_) (fun _ _ x => x)
  obtain ⟨rfl, y'⟩ := q
  repeat' walk1
  all_goals first | contradiction | exact ⟨rfl, y'⟩ | exact y' | rfl | (cases b' <;> first | exact ⟨rfl, y'⟩ | ((repeat' walk1); all_goals first | contradiction | rfl | exact y'))
theorem pb_or2_fr {a b : Expr} {pos : Pos} {r : Bool} (h1 : PB X m news Γ a false) (h2 : PB X m news Γ b r) : PB X m news Γ (.BoolOp .Or [a, b] pos) r := by
  intro E s y
  repeat' walk1
  refine wpAny_mono (h1 _ _ (by assumption)) (fun b' s' q => ?_) (fun _ _ x => x)
  obtain ⟨rfl, y'⟩ := q
  repeat' walk1
  refine wpAny_mono (h2 _ _ (by assumption)) (fun b' s' q => ?_) (fun _ _ x => x)
  obtain ⟨rfl, y'⟩ := q
  repeat' walk1
  all_goals first | contradiction | exact ⟨rfl, y'⟩ | exact y' | rfl | (cases b' <;> first | exact ⟨rfl, y'⟩ | ((repeat' walk1); all_goals first | contradiction | rfl | exact y'))
theorem pb_and3_f {a b c : Expr} {pos : Pos} (h1 : PB X m news Γ a false) : PB X m news Γ (.BoolOp .And [a, b, c] pos) false := by
  intro E s y
  repeat' walk1
  refine wpAny_mono (h1 _ _ (by assumption)) (fun b' s' q => ?_) (fun _ _ x => x)
  obtain ⟨rfl, y'⟩ := q
  repeat' walk1
  all_goals first | contradiction | exact ⟨rfl, y'⟩ | exact y' | rfl | (cases b' <;> first | exact ⟨rfl, y'⟩ | ((repeat' walk1); all_goals first | contradiction | rfl | exact y'))
theorem pb_or3_t {a b c : Expr} {pos : Pos} (h1 : PB X m news Γ a true) : PB X m news Γ (.BoolOp .Or [a, b, c] pos) true := by
  intro E s y
  repeat' walk1
  refine wpAny_mono (h1 _ _ (by assumption)) (fun b' s' q => ?_) (fun _ _ x => x)
  obtain ⟨rfl, y'⟩ := q
  repeat' walk1
  all_goals first | contradiction | exact ⟨rfl, y'⟩ | exact y' | rfl | (cases b' <;> first | exact ⟨rfl, y'⟩ | ((repeat' walk1); all_goals first | contradiction | rfl | exact y'))
theorem pb_and3_tf {a b c : Expr} {pos : Pos} (h1 : PB X m news Γ a true) (h2 : PB X m news Γ b false) : PB X m news Γ (.BoolOp .And [a, b, c] pos) false := by
  intro E s y
  repeat' walk1
  refine wpAny_mono (h1 _ _ (by assumption)) (fun b' s' q => ?_) (fun _ _ x => x)
  obtain ⟨rfl, y'⟩ := q
  repeat' walk1
  refine wpAny_mono (h2 _ _ (by assumption)) (fun b' s' q => ?_) (fun _ _ x => x)
  obtain ⟨rfl, y'⟩ := q
  repeat' walk1
  all_goals first | contradiction | exact ⟨rfl, y'⟩ | exact y' | rfl | (cases b' <;> first | exact ⟨rfl, y'⟩ | ((repeat' walk1); all_goals first | contradiction | rfl | exact y'))
theorem pb_or3_ft {a b c : Expr} {pos : Pos} (h1 : PB X m news Γ a false) (h2 : PB X m news Γ b true) : PB X m news Γ (.BoolOp .Or [a, b, c] pos) true := by
  intro E s y
  repeat' walk1
  refine wpAny_mono (h1 _ _ (by assumption)) (fun b' s' q => ?_) (fun _ _ x => x)
  obtain ⟨rfl, y'⟩ := q
  repeat' walk1
  refine wpAny_mono (h2 _ _ (by assumption)) (fun b' s' q => ?_) (fun _ _ x => x)
  obtain ⟨rfl, y'⟩ := q
  repeat' walk1
  all_goals first | contradiction | exact ⟨rfl, y'⟩ | exact y' | rfl | (cases b' <;> first | exact ⟨rfl, y'⟩ | ((repeat' walk1); all_goals first | contradiction | rfl | exact y'))
theorem pb_and3_ttr {a b c : Expr} {pos : Pos} {r : Bool} (h1 : PB X m news Γ a true) (h2 : PB X m news Γ b true) (h3 : PB X m news Γ c r) : PB X m news Γ (.BoolOp .And [a, b, c] pos) r := by
  intro E s y
  repeat' walk1
  refine wpAny_mono (h1 _ _ (by assumption)) (fun b' s' q => ?_) (fun _ _ x => x)
  obtain ⟨rfl, y'⟩ := q
  repeat' walk1
  refine wpAny_mono (h2 _ _ (by assumption)) (fun b' s' q => ?_) (fun _ _ x => x)
  obtain ⟨rfl, y'⟩ := q
  repeat' walk1
  refine wpAny_mono (h3 _ _ (by assumption)) (fun b' s' q => ?_) (fun _ _ x => x)
  obtain ⟨rfl, y'⟩ := q
  repeat' walk1
  all_goals first | contradiction | exact ⟨rfl, y'⟩ | exact y' | rfl | (cases b' <;> first | exact ⟨rfl, y'⟩ | ((repeat' walk1); all_goals first | contradiction | rfl | exact y'))
theorem pb_or3_ffr {a b c : Expr} {pos : Pos} {r : Bool} (h1 : PB X m news Γ a false) (h2 : PB X m news Γ b false) (h3 : PB X m news Γ c r) : PB X m news Γ (.BoolOp .Or [a, b, c] pos) r := by
  intro E s y
  repeat' walk1
  refine wpAny_mono (h1 _ _ (by assumption)) (fun b' s' q => ?_) (fun _ _ x => x)
  obtain ⟨rfl, y'⟩ := q
  repeat' walk1
  refine wpAny_mono (h2 _ _ (by assumption)) (fun b' s' q => ?_) (fun _ _ x => x)
  obtain ⟨rfl, y'⟩ := q
  repeat' walk1
  refine wpAny_mono (h3 _ _ (by assumption)) (fun b' s' q => ?_) (fun _ _ x => x)
  obtain ⟨rfl, y'⟩ := q
  repeat' walk1
  all_goals first | contradiction | exact ⟨rfl, y'⟩ | exact y' | rfl | (cases b' <;> first | exact ⟨rfl, y'⟩ | ((repeat' walk1); all_goals first | contradiction | rfl | exact y'))
theorem pb_cmp {a b : Expr} {op : CmpOp} {pos : Pos} {r : Bool} {va vb : Value → Prop} (h1 : PV X m news Γ a va) (h2 : PV X m news Γ b vb) (h : ∀ x y s E, va x → vb y → Y X m news Γ s → wpAny (model X.prog X.w) X.A (compareOp op x y) (fun v s' => v = .bool r ∧ Y X m news Γ s') E s)
    (hm : behindInMarks op b = false := by with_unfolding_all rfl) : PB X m news Γ (.Compare a [op] [b] pos) r := fun E s y =>
  wpAny_isTrue_Compare1 (wpAny_mono (h1 _ s y) (fun x s' q => wpAny_mono (h2 _ s' q.2) (fun z s2 q2 => wpAny_mono (h x z s2 _ q.1 q2.1 q2.2) (fun v s3 q3 => by
    obtain ⟨rfl, y3⟩ := q3; exact wpAny_truthy_bool ⟨rfl, y3⟩) fun _ _ x => x) fun _ _ x => x) fun _ _ x => x) hm
theorem pv_cmp {a b : Expr} {op : CmpOp} {pos : Pos} {r : Bool} {va vb : Value → Prop} (h1 : PV X m news Γ a va) (h2 : PV X m news Γ b vb) (h : ∀ x y s E, va x → vb y → Y X m news Γ s → wpAny (model X.prog X.w) X.A (compareOp op x y) (fun v s' => v = .bool r ∧ Y X m news Γ s') E s)
    (hm : behindInMarks op b = false := by with_unfolding_all rfl) : PV X m news Γ (.Compare a [op] [b] pos) (· = .bool r) := fun E s y =>
  wpAny_Compare1 (wpAny_mono (h1 _ s y) (fun x s' q => wpAny_mono (h2 _ s' q.2) (fun z s2 q2 => h x z s2 _ q.1 q2.1 q2.2) fun _ _ x => x) fun _ _ x => x) hm
/-! names -/
theorem pv_loc {x : Str} {pos : Pos} {v : Value} (hv : m x = some v) (hl : X.env.kindOf x = some .local := by rfl) (hd : (x == ("__debug__" : Str)) = false := by decide) : PV X m news Γ (.Name x pos) (· = v) :=
  fun E s y => wpAny_Name (wpAny_loadName_local y.ok.hk hl (by rw [y.ok.hL]; exact y.z.F.ns) hv ⟨rfl, y⟩) hd
theorem pv_glob {x : Str} {pos : Pos} {v : Value} (e : nsIn X.K mainGlobals x = some (some v)) (hx : X.env.kindOf x = some .globalImplicit := by rfl) (hd : (x == ("__debug__" : Str)) = false := by decide) : PV X m news Γ (.Name x pos) (· = v) :=
  fun E s y => by
    refine ctr fun hG123 => ?_; obtain ⟨_, _, _, _, _, T⟩ := y.ok.C.T; refine hG123 ?_; clear hG123
    have R := topRead_of T
    exact Calls.Name_function_global y.ok.hk hx (Calls.loadGlobal_global (env := X.env) (by rw [y.ok.hG]; exact R.g.keeps y.z.F.keep) (mg_of y.ok.C.X R.g e) ⟨rfl, y⟩) hd
theorem pv_boot {x : Str} {pos : Pos} {v : Value} (e : nsIn X.K mainGlobals x = some none) (hv : bootBuiltins x = some v) (hn : x ≠ "__name__") (hx : X.env.kindOf x = some .globalImplicit := by rfl) (hd : (x == ("__debug__" : Str)) = false := by decide) :
    PV X m news Γ (.Name x pos) (· = v) := fun E s y => by
    refine ctr fun hG124 => ?_; obtain ⟨_, _, _, _, _, T⟩ := y.ok.C.T; refine hG124 ?_; clear hG124
    have R := topRead_of T
    exact Calls.Name_function_global y.ok.hk hx (Calls.loadGlobal_builtin (env := X.env) (by rw [y.ok.hG]; exact R.g.keeps y.z.F.keep) (mg_none_of y.ok.C.X R.g e) (by rw [y.ok.hB]; exact R.b.keeps y.z.F.keep) ((R.builtins x hn).trans hv) ⟨rfl, y⟩) hd
/-- a name that a comprehension shares -/
theorem pv_cell {x : Str} {pos : Pos} {ca : Addr} {v : Value} (hc : X.env.cells.lookup x = some ca) (hv : X.g.IsCell ca (some v)) (hl : X.env.kindOf x = some .cell := by rfl) (hd : (x == ("__debug__" : Str)) = false := by decide) : PV X m news Γ (.Name x pos) (· = v) :=
  fun E s y => wpAny_Name (wpAny_loadName_cell y.ok.hk hl hc (hv.keeps y.z.F.keep) ⟨rfl, y⟩) hd
theorem pb_isi {x : Value} {nx : Str} {p0 p1 p2 p3 : Pos} (hx : PV X m news Γ (.Name nx p0) (· = x)) (b : Bool) (h : ∀ s E, Y X m news Γ s → wpAny (model X.prog X.w) X.A (call (.builtin "isinstance") [x, .type "tuple"]) (fun v s' => v = .bool b ∧ Y X m news Γ s') E s)
    (h1 : X.env.kindOf "isinstance" = some .globalImplicit := by rfl) (h2 : X.env.kindOf "tuple" = some .globalImplicit := by rfl) :
    PB X m news Γ (.Call (.Name (Str.ofString "isinstance") p1) [.Name nx p0, .Name (Str.ofString "tuple") p2] [] p3) b := by
  intro E s y
  repeat' walk1
  refine wpAny_mono (pv_boot (y.ok.C.b_isinstance) (by boot_fast) (by decide) h1 (by decide) _ s y) (fun v s' q => ?_) (fun _ _ x => x)
  obtain ⟨rfl, y'⟩ := q
  repeat' walk1
  refine wpAny_mono (hx _ _ y') (fun v s' q => ?_) (fun _ _ x => x)
  obtain ⟨rfl, y'⟩ := q
  repeat' walk1
  refine wpAny_mono (pv_boot (y.ok.C.b_tuple) (by boot_fast) (by decide) h2 (by decide) _ _ y') (fun v s' q => ?_) (fun _ _ x => x)
  obtain ⟨rfl, y'⟩ := q
  repeat' (first | (with_reducible show wpAny _ _ (call _ _ _) _ _ _; fail) | walk1)
  refine wpAny_mono (h _ _ y') (fun v s3 q => ?_) (fun _ _ x => x)
  obtain ⟨rfl, y3⟩ := q
  exact wpAny_truthy_bool ⟨rfl, y3⟩
theorem pb_unit_ne {e : Expr} {p1 p2 : Pos} {k : Nat} {v : V} {vp : Value → Prop} (he : PV X m news Γ e vp) (hv : ∀ x, vp x → VR (Or (Gt X.g) Γ) x v.py) (b : Bool) (hb : PyData.eqv v.py (.tuple []) = b) (hsh : PySem.SeqAt.shaped v.py = true) :
    PB X m news Γ (.Compare e [.NotEq] [.Tuple [] k p1] p2) (!b) := by
  intro E s y
  refine wpAny_isTrue_Compare1 (wpAny_mono (he _ s y) (fun x s' q => ?_) (fun _ _ x => x))
  obtain ⟨qx, y'⟩ := q
  repeat' walk1
  refine z_tuple y'.z (fun t h' z' => ?_) (Nat.le_of_ble_eq_true rfl)
  repeat' walk1
  refine z_ne b z' (hv x qx).up1 (VR.tup List.mem_cons_self .nil) hsh (by decide +kernel) y.ok.hu hb ?_
  repeat' walk1
  all_goals first | rfl | exact y'.to (z'.pushG_drop)
theorem pb_unit_eq {e : Expr} {p1 p2 : Pos} {k : Nat} {v : V} {vp : Value → Prop} (he : PV X m news Γ e vp) (hv : ∀ x, vp x → VR (Or (Gt X.g) Γ) x v.py) (b : Bool) (hb : PyData.eqv v.py (.tuple []) = b) (hsh : PySem.SeqAt.shaped v.py = true) :
    PB X m news Γ (.Compare e [.Eq] [.Tuple [] k p1] p2) b := by
  intro E s y
  refine wpAny_isTrue_Compare1 (wpAny_mono (he _ s y) (fun x s' q => ?_) (fun _ _ x => x))
  obtain ⟨qx, y'⟩ := q
  repeat' walk1
  refine z_tuple y'.z (fun t h' z' => ?_) (Nat.le_of_ble_eq_true rfl)
  repeat' walk1
  refine z_eq b z' (hv x qx).up1 (VR.tup List.mem_cons_self .nil) hsh (by decide +kernel) y.ok.hu hb ?_
  repeat' walk1
  all_goals first | rfl | exact y'.to (z'.pushG_drop)
theorem pb_eqs {a b : Expr} {pos : Pos} {x z : Str} {r : Bool} (h1 : PV X m news Γ a (IsS x)) (h2 : PV X m news Γ b (IsS z)) (h : (x == z) = r) (hm : behindInMarks .Eq b = false := by with_unfolding_all rfl) : PB X m news Γ (.Compare a [.Eq] [b] pos) r :=
  pb_cmp h1 h2 (fun _ _ s E q1 q2 y => by obtain ⟨t, rfl⟩ := q1; obtain ⟨u, rfl⟩ := q2; exact z_eqs r h ⟨rfl, y⟩) hm
theorem pb_nes {a b : Expr} {pos : Pos} {x z : Str} {r : Bool} (h1 : PV X m news Γ a (IsS x)) (h2 : PV X m news Γ b (IsS z)) (h : (x == z) = !r) (hm : behindInMarks .NotEq b = false := by with_unfolding_all rfl) : PB X m news Γ (.Compare a [.NotEq] [b] pos) r :=
  pb_cmp h1 h2 (fun _ _ s E q1 q2 y => by obtain ⟨t, rfl⟩ := q1; obtain ⟨u, rfl⟩ := q2; exact z_nes (!r) h ⟨by rw [Bool.not_not], y⟩) hm
theorem pb_eqi {a b : Expr} {pos : Pos} {x z : Int} {r : Bool} (h1 : PV X m news Γ a (IsI x)) (h2 : PV X m news Γ b (IsI z)) (h : (x == z) = r) (hm : behindInMarks .Eq b = false := by with_unfolding_all rfl) : PB X m news Γ (.Compare a [.Eq] [b] pos) r :=
  pb_cmp h1 h2 (fun _ _ s E q1 q2 y => by obtain ⟨t, rfl⟩ := q1; obtain ⟨u, rfl⟩ := q2; exact z_eqi r h ⟨rfl, y⟩) hm
theorem pb_nei {a b : Expr} {pos : Pos} {x z : Int} {r : Bool} (h1 : PV X m news Γ a (IsI x)) (h2 : PV X m news Γ b (IsI z)) (h : (x == z) = !r) (hm : behindInMarks .NotEq b = false := by with_unfolding_all rfl) : PB X m news Γ (.Compare a [.NotEq] [b] pos) r :=
  pb_cmp h1 h2 (fun _ _ s E q1 q2 y => by obtain ⟨t, rfl⟩ := q1; obtain ⟨u, rfl⟩ := q2; exact z_nei (!r) h ⟨by rw [Bool.not_not], y⟩) hm
theorem pb_lti {a b : Expr} {pos : Pos} {x z : Int} {r : Bool} (h1 : PV X m news Γ a (IsI x)) (h2 : PV X m news Γ b (IsI z)) (h : decide (x < z) = r) (hm : behindInMarks .Lt b = false := by with_unfolding_all rfl) : PB X m news Γ (.Compare a [.Lt] [b] pos) r :=
  pb_cmp h1 h2 (fun _ _ s E q1 q2 y => by obtain ⟨t, rfl⟩ := q1; obtain ⟨u, rfl⟩ := q2; exact z_lti r h ⟨rfl, y⟩) hm
theorem pb_gti {a b : Expr} {pos : Pos} {x z : Int} {r : Bool} (h1 : PV X m news Γ a (IsI x)) (h2 : PV X m news Γ b (IsI z)) (h : decide (z < x) = r) (hm : behindInMarks .Gt b = false := by with_unfolding_all rfl) : PB X m news Γ (.Compare a [.Gt] [b] pos) r :=
  pb_cmp h1 h2 (fun _ _ s E q1 q2 y => by obtain ⟨t, rfl⟩ := q1; obtain ⟨u, rfl⟩ := q2; exact z_gti r h ⟨rfl, y⟩) hm
theorem pb_isNone {a : Expr} {k : Nat} {p1 p2 : Pos} {x : Value} {r : Bool} (h1 : PV X m news Γ a (· = x)) (h : (x == .none) = r) : PB X m news Γ (.Compare a [.Is] [.Constant .none k p1] p2) r :=
  pb_cmp h1 pv_none (fun _ _ s E q1 q2 y => by subst q1 q2; exact is_none ⟨by rw [h], y⟩)
/-- an item of a tuple, by a written place -/
theorem pv_item {e : Expr} {p1 p2 : Pos} {t : Addr} {vs : List Value} {i : Int} {k j : Nat} {v : Value} (h1 : PV X m news Γ e (· = .ref t)) (ht : TT X.g Γ t vs) (hj : seqIndex? i vs.length = some j) (hv : vs[j]? = some v) (hlo : -(2 ^ 63) ≤ i := by decide) (hhi : i < 2 ^ 63 := by decide) :
    PV X m news Γ (.Subscript e (.Constant (.int i) k p1) p2) (· = v) := by
  intro E s y
  repeat' walk1
  refine wpAny_mono (h1 _ s y) (fun x s' q => ?_) (fun _ _ x => x)
  obtain ⟨rfl, y'⟩ := q
  repeat' (first | (with_reducible show wpAny _ _ (subscriptTail _ _ _ _) _ _ _; fail) | walk1)
  exact item_tupleT (z_tupO y'.z ht) hlo hhi hj hv ⟨rfl, y'.tk _⟩
theorem pb_in3 {e : Expr} {p1 p2 q1 q2 q3 : Pos} {k k1 k2 k3 : Nat} {a b c x : Str} (he : PV X m news Γ e (IsS x)) (r : Bool) (hr : ([.str a, .str b, .str c] : List PyData).any (fun y => PyData.eqv y (.str x)) = r)
    (ha : PyData.canLayAll0 [.str a, .str b, .str c] = true) (hx : PyData.canLay0 (.str x) = true) : PB X m news Γ (.Compare e [.In] [.Tuple [.Constant (.str a) k1 q1, .Constant (.str b) k2 q2, .Constant (.str c) k3 q3] k p1] p2) r := by
  intro E s y
  refine wpAny_isTrue_Compare1 (wpAny_mono (he _ s y) (fun x s' q => ?_) (fun _ _ x => x))
  obtain ⟨⟨t, rfl⟩, y'⟩ := q
  repeat' walk1
  refine z_tuple y'.z (fun t h' z' => ?_) (Nat.le_of_ble_eq_true rfl)
  refine z_in r z' (VR.tup List.mem_cons_self (.cons (.str _ _) (.cons (.str _ _) (.cons (.str _ _) .nil)))) (.str _ _) ha hx (by simp [PyData.depthAll, PyData.depth]) y.ok.hu hr ?_
  repeat' walk1
  all_goals first | rfl | exact y'.to (z'.pushG_drop)
theorem pb_notIn3 {e : Expr} {p1 p2 q1 q2 q3 : Pos} {k k1 k2 k3 : Nat} {a b c x : Str} (he : PV X m news Γ e (IsS x)) (r : Bool) (hr : ([.str a, .str b, .str c] : List PyData).any (fun y => PyData.eqv y (.str x)) = r)
    (ha : PyData.canLayAll0 [.str a, .str b, .str c] = true) (hx : PyData.canLay0 (.str x) = true) : PB X m news Γ (.Compare e [.NotIn] [.Tuple [.Constant (.str a) k1 q1, .Constant (.str b) k2 q2, .Constant (.str c) k3 q3] k p1] p2) (!r) := by
  intro E s y
  refine wpAny_isTrue_Compare1 (wpAny_mono (he _ s y) (fun x s' q => ?_) (fun _ _ x => x))
  obtain ⟨⟨t, rfl⟩, y'⟩ := q
  repeat' walk1
  refine z_tuple y'.z (fun t h' z' => ?_) (Nat.le_of_ble_eq_true rfl)
  refine z_notIn r z' (VR.tup List.mem_cons_self (.cons (.str _ _) (.cons (.str _ _) (.cons (.str _ _) .nil)))) (.str _ _) ha hx (by simp [PyData.depthAll, PyData.depth]) y.ok.hu hr ?_
  repeat' walk1
  all_goals first | rfl | exact y'.to (z'.pushG_drop)
theorem pb_in2 {e : Expr} {p1 p2 q1 q2 : Pos} {k k1 k2 : Nat} {a b x : Str} (he : PV X m news Γ e (IsS x)) (r : Bool) (hr : ([.str a, .str b] : List PyData).any (fun y => PyData.eqv y (.str x)) = r)
    (ha : PyData.canLayAll0 [.str a, .str b] = true) (hx : PyData.canLay0 (.str x) = true) : PB X m news Γ (.Compare e [.In] [.Tuple [.Constant (.str a) k1 q1, .Constant (.str b) k2 q2] k p1] p2) r := by
  intro E s y
  refine wpAny_isTrue_Compare1 (wpAny_mono (he _ s y) (fun x s' q => ?_) (fun _ _ x => x))
  obtain ⟨⟨t, rfl⟩, y'⟩ := q
  repeat' walk1
  refine z_tuple y'.z (fun t h' z' => ?_) (Nat.le_of_ble_eq_true rfl)
  refine z_in r z' (VR.tup List.mem_cons_self (.cons (.str _ _) (.cons (.str _ _) .nil))) (.str _ _) ha hx (by simp [PyData.depthAll, PyData.depth]) y.ok.hu hr ?_
  repeat' walk1
  all_goals first | rfl | exact y'.to (z'.pushG_drop)
theorem pb_counted {e : Expr} {p1 p2 : Pos} {x : Str} (he : PV X m news Γ e (IsS x)) (r : Bool) (hr : ([S "ref", S "buf", S "box"] : List PyData).any (fun y => PyData.eqv y (.str x)) = r) (hx : PyData.canLay0 (.str x) = true)
    (h1 : X.env.kindOf "COUNTED" = some .globalImplicit := by rfl) : PB X m news Γ (.Compare e [.In] [.Name (Str.ofString "COUNTED") p1] p2) r := by
  intro E s y
  refine wpAny_isTrue_Compare1 (wpAny_mono (he _ s y) (fun x s' q => ?_) (fun _ _ x => x))
  obtain ⟨⟨t, rfl⟩, y'⟩ := q
  refine wpAny_mono (pv_glob y.ok.C.g_COUNTED h1 (by decide) _ _ y') (fun v s2 q => ?_) (fun _ _ x => x)
  obtain ⟨rfl, y2⟩ := q
  refine z_in r y2.z y.ok.C.cvr.inl (.str _ _) (by decide +kernel) hx (by decide +kernel) y.ok.hu hr ?_
  exact wpAny_truthy_bool ⟨rfl, y2⟩
end
end Mine
end
section
open PySem PySem.W PySem.Calls PyProof.Rows PySem.Spec
set_option Elab.async false
set_option maxRecDepth 100000
set_option maxHeartbeats 1000000
set_option rowWalk.seconds 0
set_option linter.unusedVariables false
namespace Mine
noncomputable def KRet (Q : Value → Shared → Prop) (fl : Flow) (s : Shared) : Prop := Q (match fl with | .ret v => v | _ => .none) s
noncomputable def KLv (X : Fn) (E : Value → Shared → Prop) (e : Value) (s : Shared) : Prop := wpAny (model X.prog X.w) X.A (leaving X.env e) (fun _ s'' => E e s'') (fun e' s'' => E e' s'') s
theorem enterY {prog : Program} {w : World} {K : Frag} {A : Around} {s : Shared} {h₀ : Heap} {ks : List (Addr × Obj)} {E Q : Value → Shared → Prop}
    {name bind qual : Str} {params : Arguments} {body : List Stmt} {deco : List Expr} {ret : Option Expr} {tps : List TypeParam} {tscope : Option Scope} {spos : Pos} {scope : Scope} {st : Stmt} {f : Addr} {pos : List Value} {kw : List (Str × Value)} {binds : List (Str × Value)}
    (C : Cx K h₀) (hk : h₀.StaysIn s.heap) (hh : A.handled = none) (hu : A.units < 9800) (O : Own h₀ s.heap ks) (hf : FnAt K f qual st) (hst : st = .FunctionDef name params body deco ret tps scope tscope bind spos) (hroom : A.depth < recursionLimit)
    (hbind : ∀ cdv doc pm, BindsTo s (fnOf name qual params body scope .none .none doc pm none cdv .none) ⟨pos, kw⟩ binds) (hloc : ∀ y ∈ binds, scope.names.lookup y.1 = some .local)
    (hco : scope.isCoroutine = false) (hgen : scope.isGenerator = false) (hkk : scope.kind = .function)
    (hcell : ∀ x ∈ scope.names, x.2 ≠ .cell)
    (h : ∀ g L h₁ tk cdv A', let X : Fn := ⟨prog, w, K, A', envOf qual scope L f cdv, s, g, L⟩; let m0 : Str → Option Value := fun y => binds.reverse.lookup y;
      A'.handled = none → A'.depth = A.depth + 1 → A'.units = A.units + 3 → Y X m0 ks [] { s with heap := h₁, toks := tk } → h₀.StaysIn g → L = s.heap.objs.size → (∀ a o, s.heap.get? a = some o → a ∉ ks.map (·.1) → g.get? a = some o) →
      wpAny (model X.prog X.w) X.A (execs body X.env) (KRet Q) (fun _ _ => False) { s with heap := h₁, toks := tk }) :
    wpAny (model prog w) A (call (.ref f) pos kw) Q E s :=
  enter C hk O hf hst hroom hbind hloc hco hgen hkk hcell fun g L h₁ tk cdv => by
    intro env A' qk ek z Cg h0 hL hin
    exact h g L h₁ tk cdv A' hh rfl rfl ⟨z, rfl, ⟨hkk, rfl, rfl, rfl, hh, Cg, by show A.units + 3 + 64 < cLine; simp only [cLine]; exact n_lt (n_t (n_a (n_t (n_a (n_s hu (Nat.le_refl _)) (Nat.le_refl _)) (Nat.le_refl _)) (Nat.le_refl _)) (Nat.le_refl _)) (n_bl rfl)⟩⟩ h0 hL hin
section
variable {X : Fn} {m : Str → Option Value} {news Γ : List (Addr × Obj)} {E : Value → Shared → Prop} {s : Shared}
theorem pb_not_t {e : Expr} {pos : Pos} (h1 : PB X m news Γ e false) : PB X m news Γ (.UnaryOp .Not e pos) true := pb_not h1
theorem pb_not_f {e : Expr} {pos : Pos} (h1 : PB X m news Γ e true) : PB X m news Γ (.UnaryOp .Not e pos) false := pb_not h1
theorem pb_isi_t {t : Addr} {vs : List Value} {nx : Str} {p0 p1 p2 p3 : Pos} (hx : PV X m news Γ (.Name nx p0) (· = .ref t)) (ht : TT X.g Γ t vs) (h1 : X.env.kindOf "isinstance" = some .globalImplicit := by rfl) (h2 : X.env.kindOf "tuple" = some .globalImplicit := by rfl) :
    PB X m news Γ (.Call (.Name (Str.ofString "isinstance") p1) [.Name nx p0, .Name (Str.ofString "tuple") p2] [] p3) true :=
  pb_isi hx true (fun s E y => z_isi (z_tupO y.z ht) ⟨rfl, y⟩) h1 h2
theorem pb_isi_f {i : Int} {u : Tok} {nx : Str} {p0 p1 p2 p3 : Pos} (hx : PV X m news Γ (.Name nx p0) (· = .int i u)) (h1 : X.env.kindOf "isinstance" = some .globalImplicit := by rfl) (h2 : X.env.kindOf "tuple" = some .globalImplicit := by rfl) :
    PB X m news Γ (.Call (.Name (Str.ofString "isinstance") p1) [.Name nx p0, .Name (Str.ofString "tuple") p2] [] p3) false :=
  pb_isi hx false (fun s E y => IsiPair.int_tuple ⟨rfl, y.tk _⟩) h1 h2
/-! tuples made -/
theorem ev_tup0 {k : Nat} {pos : Pos} {Q : Value → Shared → Prop} (y : Y X m news Γ s) (h : ∀ t s', Y X m news ((t, tupO []) :: Γ) s' → Q (.ref t) s') : wpAny (model X.prog X.w) X.A (eval (.Tuple [] k pos) X.env) Q E s := by
  repeat' walk1
  exact z_tuple y.z (fun t h' z' => h t _ (y.to z')) (Nat.le_of_ble_eq_true rfl)
/-- arguments without effect -/
noncomputable def PVs (X : Fn) (m : Str → Option Value) (news Γ : List (Addr × Obj)) (es : List Expr) (vp : List Value → Prop) : Prop :=
  ∀ pos E s, Y X m news Γ s → wpAny (model X.prog X.w) X.A (spliced (backTo pos (starEach es X.env))) (fun vs s' => vp vs ∧ Y X m news Γ s') E s
theorem pvs_nil : PVs X m news Γ [] (· = []) := fun pos E s y => spliced_none ⟨rfl, y⟩
theorem pvs_cons {e : Expr} {es : List Expr} {va : Value → Prop} {vb : List Value → Prop} (h1 : PV X m news Γ e va) (h2 : PVs X m news Γ es vb) (hn : starEach (e :: es) X.env = (false, eval e X.env) :: starEach es X.env := by rfl) :
    PVs X m news Γ (e :: es) (fun vs => ∃ x r, vs = x :: r ∧ va x ∧ vb r) := fun pos E s y =>
  spliced_more (wpAny_mono (h1 _ s y) (fun v s' q => wpAny_mono (h2 _ _ s' q.2) (fun vs s2 q2 => ⟨⟨v, vs, rfl, q.1, q2.1⟩, q2.2⟩) fun _ _ x => x) fun _ _ x => x) hn
noncomputable abbrev Va1 (a : Value → Prop) (vs : List Value) : Prop := ∃ x, vs = [x] ∧ a x
noncomputable abbrev Va2 (a b : Value → Prop) (vs : List Value) : Prop := ∃ x y, vs = [x, y] ∧ a x ∧ b y
noncomputable abbrev Va3 (a b c : Value → Prop) (vs : List Value) : Prop := ∃ x y z, vs = [x, y, z] ∧ a x ∧ b y ∧ c z
theorem PVs.mono {es : List Expr} {vp vp' : List Value → Prop} (h1 : PVs X m news Γ es vp) (h : ∀ v, vp v → vp' v) : PVs X m news Γ es vp' := fun pos E s y => wpAny_mono (h1 pos E s y) (fun _ _ q => ⟨h _ q.1, q.2⟩) fun _ _ x => x
theorem pvs1 {e : Expr} {a : Value → Prop} (h1 : PV X m news Γ e a) (hn : starEach [e] X.env = (false, eval e X.env) :: starEach [] X.env := by rfl) : PVs X m news Γ [e] (Va1 a) :=
  (pvs_cons h1 pvs_nil hn).mono fun v ⟨x, r, e, q, e2⟩ => ⟨x, by rw [e, e2], q⟩
theorem pvs2 {e1 e2 : Expr} {a b : Value → Prop} (h1 : PV X m news Γ e1 a) (h2 : PV X m news Γ e2 b) (hn1 : starEach [e1, e2] X.env = (false, eval e1 X.env) :: starEach [e2] X.env := by rfl) (hn2 : starEach [e2] X.env = (false, eval e2 X.env) :: starEach [] X.env := by rfl) : PVs X m news Γ [e1, e2] (Va2 a b) :=
  (pvs_cons h1 (pvs1 h2 hn2) hn1).mono fun v ⟨x, r, e, q, y, e2, q2⟩ => ⟨x, y, by rw [e, e2], q, q2⟩
theorem pvs3 {e1 e2 e3 : Expr} {a b c : Value → Prop} (h1 : PV X m news Γ e1 a) (h2 : PV X m news Γ e2 b) (h3 : PV X m news Γ e3 c) (hn1 : starEach [e1, e2, e3] X.env = (false, eval e1 X.env) :: starEach [e2, e3] X.env := by rfl) (hn2 : starEach [e2, e3] X.env = (false, eval e2 X.env) :: starEach [e3] X.env := by rfl)
    (hn3 : starEach [e3] X.env = (false, eval e3 X.env) :: starEach [] X.env := by rfl) : PVs X m news Γ [e1, e2, e3] (Va3 a b c) :=
  (pvs_cons h1 (pvs2 h2 h3 hn2 hn3) hn1).mono fun v ⟨x, r, e, q, y, z, e2, q2⟩ => ⟨x, y, z, by rw [e, e2], q, q2⟩
theorem ev_tup {es : List Expr} {vp : List Value → Prop} {k : Nat} {pos : Pos} {Q : Value → Shared → Prop} (h1 : PVs X m news Γ es vp) (y : Y X m news Γ s) (hl : es.length ≤ 1000) (hlen : ∀ vs, vp vs → vs.length = es.length)
    (h : ∀ vs t s', vp vs → Y X m news ((t, tupO vs) :: Γ) s' → Q (.ref t) s') : wpAny (model X.prog X.w) X.A (eval (.Tuple es k pos) X.env) Q E s := by
  repeat' walk1
  exact wpAny_mono (h1 _ _ s y) (fun vs s' q => z_tuple q.2.z (fun t h' z' => h vs t _ q.1 (q.2.to z')) (by rw [hlen vs q.1]; exact Nat.le_trans hl (Nat.le_of_ble_eq_true rfl))) fun _ _ x => x
theorem ev_list {es : List Expr} {vp : List Value → Prop} {pos : Pos} {Q : Value → Shared → Prop} (h1 : PVs X m news Γ es vp) (y : Y X m news Γ s) (hl : es.length ≤ 1000) (hlen : ∀ vs, vp vs → vs.length = es.length)
    (h : ∀ vs t s', vp vs → Y X m ((t, listOf vs.toArray 0) :: news) Γ s' → Q (.ref t) s') : wpAny (model X.prog X.w) X.A (eval (.List es pos) X.env) Q E s := by
  repeat' walk1
  exact wpAny_mono (h1 _ _ s y) (fun vs s' q => z_list q.2.z (fun t h' z' => h vs t _ q.1 (q.2.to z')) (by rw [hlen vs q.1]; exact Nat.le_trans hl (Nat.le_of_ble_eq_true rfl))) fun _ _ x => x
theorem ev_ifexp {t a b : Expr} {pos : Pos} {Q : Value → Shared → Prop} (r : Bool) (h1 : PB X m news Γ t r) (y : Y X m news Γ s) (h : ∀ s', Y X m news Γ s' → wpAny (model X.prog X.w) X.A (eval (bif r then a else b) X.env) Q E s') :
    wpAny (model X.prog X.w) X.A (eval (.IfExp t a b pos) X.env) Q E s := by
  repeat' walk1
  refine wpAny_mono (h1 _ s y) (fun b' s' q => ?_) (fun _ _ x => x)
  obtain ⟨rfl, y'⟩ := q
  cases b' <;> exact h s' y'
theorem ev_pv {e : Expr} {vp : Value → Prop} {Q : Value → Shared → Prop} (h1 : PV X m news Γ e vp) (y : Y X m news Γ s) (h : ∀ v s', vp v → Y X m news Γ s' → Q v s') : wpAny (model X.prog X.w) X.A (eval e X.env) Q E s :=
  wpAny_mono (h1 _ s y) (fun v s' q => h v s' q.1 q.2) fun _ _ x => x
/-- a call of a function of the text, by its name -/
theorem ev_call {nf : Str} {p1 p2 : Pos} {f : Addr} {e1 : Expr} {er : List Expr} {vp : List Value → Prop} {Q : Value → Shared → Prop} (hg : nsIn X.K mainGlobals nf = some (some (.ref f))) (hk : keepIn X.K (.ref f) = true) (h1 : PVs X m news Γ (e1 :: er) vp) (y : Y X m news Γ s)
    (h : ∀ vs s', vp vs → Y X m news Γ s' → wpAny (model X.prog X.w) X.A (call (.ref f) vs) Q E s') (hx : X.env.kindOf nf = some .globalImplicit := by rfl) (hd : (nf == ("__debug__" : Str)) = false := by decide)
    (he : starEach (e1 :: er) X.env = (false, eval e1 X.env) :: starEach er X.env := by rfl) (hplain : (backTo p2 (starEach er X.env)).any (·.1) = false := by rfl) :
    wpAny (model X.prog X.w) X.A (eval (.Call (.Name nf p1) (e1 :: er) [] p2) X.env) Q E s := by
  repeat' walk1
  refine wpAny_mono (pv_glob hg hx hd _ s y) (fun v s' q => ?_) (fun _ _ x => x)
  obtain ⟨rfl, y'⟩ := q
  exact callWith_K y'.ok.C.X hk (wpAny_mono (h1 _ _ _ y') (fun vs s2 q => ⟨z_kin q.2.z q.2.ok.C, h vs s2 q.1 q.2⟩) fun _ _ x => x) he hplain
theorem y_if_f {test : Expr} {body rest : List Stmt} {pos : Pos} {Q : Flow → Shared → Prop} (h1 : PB X m news Γ test false) (y : Y X m news Γ s) (h : ∀ s', Y X m news Γ s' → wpAny (model X.prog X.w) X.A (execs rest X.env) Q E s') :
    wpAny (model X.prog X.w) X.A (execs (.If test body [] pos :: rest) X.env) Q E s := y_if false h1 y fun s' y' => y_nil (h s' y')
theorem y_if_t {test : Expr} {body orelse rest : List Stmt} {pos : Pos} {Q : Flow → Shared → Prop} (h1 : PB X m news Γ test true) (y : Y X m news Γ s)
    (h : ∀ s', Y X m news Γ s' → wpAny (model X.prog X.w) X.A (execs body X.env) (KIf X rest Q E) E s') :
    wpAny (model X.prog X.w) X.A (execs (.If test body orelse pos :: rest) X.env) Q E s := y_if true h1 y h
theorem y_if_e {test : Expr} {body orelse rest : List Stmt} {pos : Pos} {Q : Flow → Shared → Prop} (h1 : PB X m news Γ test false) (y : Y X m news Γ s)
    (h : ∀ s', Y X m news Γ s' → wpAny (model X.prog X.w) X.A (execs orelse X.env) (KIf X rest Q E) E s') :
    wpAny (model X.prog X.w) X.A (execs (.If test body orelse pos :: rest) X.env) Q E s := y_if false h1 y h
theorem pv_itemS {e : Expr} {p1 p2 : Pos} {t : Addr} {vs : List Value} {i : Int} {k j : Nat} {x : Str} {u : Tok} (h1 : PV X m news Γ e (· = .ref t)) (ht : TT X.g Γ t vs) (hj : seqIndex? i vs.length = some j := by rfl) (hv : vs[j]? = some (.str x u) := by rfl) (hlo : -(2 ^ 63) ≤ i := by decide) (hhi : i < 2 ^ 63 := by decide) :
    PV X m news Γ (.Subscript e (.Constant (.int i) k p1) p2) (IsS x) := (pv_item h1 ht hj hv hlo hhi).mono fun v e => ⟨_, e⟩
theorem pv_item' {e : Expr} {p1 p2 : Pos} {t : Addr} {vs : List Value} {i : Int} {k j : Nat} {v : Value} (h1 : PV X m news Γ e (· = .ref t)) (ht : TT X.g Γ t vs) (hj : seqIndex? i vs.length = some j := by rfl) (hv : vs[j]? = some v := by rfl) (hlo : -(2 ^ 63) ≤ i := by decide) (hhi : i < 2 ^ 63 := by decide) :
    PV X m news Γ (.Subscript e (.Constant (.int i) k p1) p2) (· = v) := pv_item h1 ht hj hv hlo hhi
theorem pv_item0S {e : Expr} {p1 p2 : Pos} {t : Addr} {ws : List Value} {k : Nat} {x : Str} {u : Tok} (h1 : PV X m news Γ e (· = .ref t)) (ht : TT X.g Γ t (.str x u :: ws)) :
    PV X m news Γ (.Subscript e (.Constant (.int 0) k p1) p2) (IsS x) := pv_itemS (j := 0) h1 ht (by simp [seqIndex?]) rfl
theorem TT.first {t : Addr} {W : PyData} {x : Value} {v : V} {rest : List PyData} (h : VR (Gt X.g) x v.py) (e : v.py = .tuple (W :: rest)) : ∃ t w ws, x = .ref t ∧ TT X.g Γ t (w :: ws) ∧ VR (Gt X.g) w W ∧ VRs (Gt X.g) ws rest :=
  ex4 (VR.tI (e ▸ h)) fun t o n vs k => an5 k fun e1 p1 p2 p3 q => ex2 q.cI fun w ws l => ⟨t, w, ws, e1, ⟨o, n, .inl p1, p2, by rw [p3, l.1]⟩, l.2⟩
/-- the guard ahead of most readers of values: false on a value that is a tuple -/
theorem pb_guard {t : Addr} {vs : List Value} {v : V} {nx : Str} {p0 p1 p2 p3 p4 p5 p6 p7 p8 : Pos} {k : Nat} (hx : m nx = some (.ref t)) (ht : TT X.g Γ t vs) (hv : VR (Gt X.g) (.ref t) v.py) (hne : PyData.eqv v.py (.tuple []) = false) (hsh : PySem.SeqAt.shaped v.py = true)
    (h0 : X.env.kindOf nx = some .local := by rfl) (hd : (nx == ("__debug__" : Str)) = false := by decide) (h1 : X.env.kindOf "isinstance" = some .globalImplicit := by rfl) (h2 : X.env.kindOf "tuple" = some .globalImplicit := by rfl) :
    PB X m news Γ (.BoolOp .Or [.UnaryOp .Not (.Call (.Name (Str.ofString "isinstance") p1) [.Name nx p0, .Name (Str.ofString "tuple") p2] [] p3) p4, .Compare (.Name nx p5) [.Eq] [.Tuple [] k p6] p7] p8) false :=
  pb_or2_fr (pb_not_f (pb_isi_t (pv_loc hx h0 hd) ht h1 h2)) (pb_unit_eq (pv_loc hx h0 hd) (fun x e => by subst e; exact hv.inl) false hne hsh)
theorem ev_type {nf : Str} {Ts : String} {e : Expr} {er : List Expr} {vp : List Value → Prop} {p1 p2 : Pos} {Q : Value → Shared → Prop} (hb : nsIn X.K mainGlobals nf = some none) (hv : bootBuiltins nf = some (.type Ts)) (h1 : PVs X m news Γ (e :: er) vp) (y : Y X m news Γ s)
    (h : ∀ vs s', vp vs → Y X m news Γ s' → wpAny (model X.prog X.w) X.A (call (.type Ts) vs) Q E s')
    (hn : nf ≠ "__name__" := by decide) (h0 : X.env.kindOf nf = some .globalImplicit := by rfl) (hd : (nf == ("__debug__" : Str)) = false := by decide) (he : starEach (e :: er) X.env = (false, eval e X.env) :: starEach er X.env := by rfl) (hplain : (backTo p2 (starEach er X.env)).any (·.1) = false := by rfl) :
    wpAny (model X.prog X.w) X.A (eval (.Call (.Name nf p1) (e :: er) [] p2) X.env) Q E s := by
  repeat' walk1
  refine wpAny_mono (pv_boot hb hv hn h0 hd _ s y) (fun v s' q => ?_) (fun _ _ x => x)
  obtain ⟨rfl, y'⟩ := q
  exact Pv.callWith_type1 (wpAny_mono (h1 _ _ _ y') (fun vs s2 q => h vs s2 q.1 q.2) fun _ _ x => x) he hplain
theorem ev_listT {e : Expr} {t : Addr} {vs : List Value} {p1 p2 : Pos} {Q : Value → Shared → Prop} (h1 : PV X m news Γ e (· = .ref t)) (ht : TT X.g Γ t vs) (y : Y X m news Γ s) (hsz : vs.length ≤ sizeLine)
    (h : ∀ l c s', Y X m ((l, listOf vs.toArray c) :: news) Γ s' → Q (.ref l) s') (h0 : X.env.kindOf "list" = some .globalImplicit := by rfl) (he : starEach [e] X.env = (false, eval e X.env) :: starEach [] X.env := by rfl) :
    wpAny (model X.prog X.w) X.A (eval (.Call (.Name (Str.ofString "list") p1) [e] [] p2) X.env) Q E s :=
  ev_type y.ok.C.b_list (by boot_fast) (pvs1 h1 he) y (fun ws s' q y' => by
    obtain ⟨x, rfl, rfl⟩ := q
    exact z_listOfTup y'.z (z_tupO y'.z ht) (fun D c h' z' => h D c _ (y'.to z')) (by rw [List.size_toArray]; exact hsz)) (by decide) h0 (by decide) he
end
end Mine
end
section
open PySem PySem.W PySem.Calls PyProof.Rows PySem.Spec
set_option Elab.async false
namespace Mine
theorem Va1.eq {a : Value} {vs : List Value} (h : Va1 (· = a) vs) : vs = [a] := by obtain ⟨_, rfl, rfl⟩ := h; rfl
theorem Va2.eq {a b : Value} {vs : List Value} (h : Va2 (· = a) (· = b) vs) : vs = [a, b] := by obtain ⟨_, _, rfl, rfl, rfl⟩ := h; rfl
theorem Va3.eq {a b c : Value} {vs : List Value} (h : Va3 (· = a) (· = b) (· = c) vs) : vs = [a, b, c] := by obtain ⟨_, _, _, rfl, rfl, rfl, rfl⟩ := h; rfl
end Mine
end
section
open PySem PySem.W PySem.Calls PyProof.Rows PySem.Spec
set_option Elab.async false
namespace Mine
theorem ev_pvq {X : Fn} {m : Str → Option Value} {news Γ : List (Addr × Obj)} {E : Value → Shared → Prop} {s : Shared} {e : Expr} {a : Value} {Q : Value → Shared → Prop} (h1 : PV X m news Γ e (· = a)) (y : Y X m news Γ s) (h : ∀ s', Y X m news Γ s' → Q a s') : wpAny (model X.prog X.w) X.A (eval e X.env) Q E s :=
  ev_pv h1 y fun _ s' e y' => by subst e; exact h s' y'
end Mine
end
section
open PySem PySem.W PySem.Calls PyProof.Rows PySem.Spec
set_option Elab.async false
set_option maxRecDepth 100000
set_option maxHeartbeats 1000000
set_option rowWalk.seconds 0
set_option linter.unusedVariables false
namespace Mine
section
variable {X : Fn} {m : Str → Option Value} {news Γ : List (Addr × Obj)} {E : Value → Shared → Prop} {s : Shared} {D : Addr} {its : Array Value} {n : Nat} {f : Obj → List (Addr × Obj)}
/-- a method of a list, one argument -/
theorem ev_lmeth1 {nx name : Str} {id : String} {e : Expr} {p0 p1 p2 : Pos} {pl : Sem Bool} {Q : Value → Shared → Prop} (hx : PV X m news Γ (.Name nx p0) (· = .ref D)) (a : At D (listOf its n) news f) (slot : Slot "list" name id) (hty : typeOf (.builtin id) = pure (.type "method_descriptor")) (y : Y X m news Γ s)
    (h : ∀ s', Y X m news Γ s' → wpAny (model X.prog X.w) X.A (eval e X.env) (fun v s2 => wpAny (model X.prog X.w) X.A (call (.builtin id) [.ref D, v]) Q E s2) E s') (he : starEach [e] X.env = (false, eval e X.env) :: starEach [] X.env := by rfl)
    (hm : eval (.Call (.Attribute (.Name nx p0) name p1) [e] [] p2) X.env = (do
      let ov ← eval (.Name nx p0) X.env
      standAt p1.atName
      let (f, first) ← holding [ov] (getMethod ov name pl)
      callWith p2 f first (backTo p2 (starEach [e] X.env)) (backToKw p2 (keywordEach [] X.env))) := by rfl) :
    wpAny (model X.prog X.w) X.A (eval (.Call (.Attribute (.Name nx p0) name p1) [e] [] p2) X.env) Q E s := by
  refine methodCall_KW (wpAny_mono (hx _ s y) (fun v s' q => ?_) fun _ _ x => x) hm
  obtain ⟨rfl, y'⟩ := q
  refine z_listMethod y'.z a slot hty ?_
  exact callWith_method1 (spliced_more (wpAny_mono (h s' y') (fun v s2 q => spliced_none q) fun _ _ x => x) he) he rfl
theorem ev_lmeth0 {nx name : Str} {id : String} {p0 p1 p2 : Pos} {pl : Sem Bool} {Q : Value → Shared → Prop} (hx : PV X m news Γ (.Name nx p0) (· = .ref D)) (a : At D (listOf its n) news f) (slot : Slot "list" name id) (hty : typeOf (.builtin id) = pure (.type "method_descriptor")) (y : Y X m news Γ s)
    (h : ∀ s', Y X m news Γ s' → wpAny (model X.prog X.w) X.A (call (.builtin id) [.ref D]) Q E s')
    (hm : eval (.Call (.Attribute (.Name nx p0) name p1) [] [] p2) X.env = (do
      let ov ← eval (.Name nx p0) X.env
      standAt p1.atName
      let (f, first) ← holding [ov] (getMethod ov name pl)
      callWith p2 f first (backTo p2 (starEach [] X.env)) (backToKw p2 (keywordEach [] X.env))) := by rfl) :
    wpAny (model X.prog X.w) X.A (eval (.Call (.Attribute (.Name nx p0) name p1) [] [] p2) X.env) Q E s := by
  refine methodCall_KW (wpAny_mono (hx _ s y) (fun v s' q => ?_) fun _ _ x => x) hm
  obtain ⟨rfl, y'⟩ := q
  refine z_listMethod y'.z a slot hty ?_
  exact callWith_method0 (h s' y')
theorem y_while {test : Expr} {body rest : List Stmt} {pos : Pos} {Q : Flow → Shared → Prop} (I : Nat → Shared → Prop) (k : Nat) (h0 : I k s)
    (turn : ∀ k s, I k s →
      (∃ m news Γ, Y X m news Γ s ∧ PB X m news Γ test true ∧ ∀ E' s', Y X m news Γ s' → wpAny (model X.prog X.w) X.A (execs body X.env) (KWh (Less I k) Q) E' s') ∨
      (∃ m news Γ, Y X m news Γ s ∧ PB X m news Γ test false ∧ ∀ s', Y X m news Γ s' → wpAny (model X.prog X.w) X.A (execs rest X.env) Q E s')) :
    wpAny (model X.prog X.w) X.A (execs (.While test body [] pos :: rest) X.env) Q E s := by
  walk1
  refine z_while I (fun k s hI => ?_) k h0
  rcases turn k s hI with ⟨m, news, Γ, y, hb, hbody⟩ | ⟨m, news, Γ, y, hb, hrest⟩
  · refine wpAny_mono (hb _ s y) (fun b s' q => ?_) fun _ _ x => x
    obtain ⟨rfl, y'⟩ := q
    rw [if_pos rfl]
    exact wpAny_mono (hbody _ s' y') (fun f s3 q => by cases f <;> first | exact q | exact q.elim) fun _ _ x => x
  · refine wpAny_mono (hb _ s y) (fun b s' q => ?_) fun _ _ x => x
    obtain ⟨rfl, y'⟩ := q
    rw [if_neg (by decide)]
    exact y_nil (hrest s' y')
theorem pb_list {e : Expr} {its : List Value} {n : Nat} (he : PV X m news Γ e (· = .ref D)) (hm : (D, listOf its.toArray n) ∈ news) (b : Bool) (hb : its.isEmpty = !b) (hsz : its.length ≤ sizeLine)
    (hi : ∀ whole, isTrue e X.env whole = (do let v ← whole; standAt e.pos; holding [v] (truthy v)) := by intro _; rfl) : PB X m news Γ e b := fun E s y =>
  wpAny_isTrue_value (wpAny_mono (he _ s y) (fun v s' q => by obtain ⟨rfl, y'⟩ := q; exact z_truthy b y'.z hm hsz hb ⟨rfl, y'.tk _⟩) fun _ _ x => x) (hi _)
end
end Mine
end
section
open PySem PySem.W PySem.Calls PyProof.Rows PySem.Spec
set_option Elab.async false
set_option maxRecDepth 100000
set_option maxHeartbeats 1000000
set_option rowWalk.seconds 0
set_option linter.unusedVariables false
namespace Mine
section
variable {X : Fn} {m : Str → Option Value} {news Γ : List (Addr × Obj)} {E : Value → Shared → Prop} {s : Shared} {D : Addr} {its : Array Value} {n : Nat} {f : Obj → List (Addr × Obj)}
theorem y_asgT2 {na nb : Str} {value : Expr} {rest : List Stmt} {k : Nat} {p1 p2 p3 pos : Pos} {Q : Flow → Shared → Prop}
    (h : wpAny (model X.prog X.w) X.A (eval value X.env) (fun v s' => ∃ t x1 x2 m news Γ, v = .ref t ∧ TT X.g Γ t [x1, x2] ∧ Y X m news Γ s' ∧
      ∀ s'', Y X (up na x1 (up nb x2 m)) news Γ s'' → wpAny (model X.prog X.w) X.A (execs rest X.env) Q E s'') E s)
    (hla : X.env.kindOf na = some .local := by rfl) (hlb : X.env.kindOf nb = some .local := by rfl)
    (hs : swapsWithSole [.Tuple [.Name na p1, .Name nb p2] k p3] value pos.line X.env = pure false := by rfl) (hw : swappedStores [.Tuple [.Name na p1, .Name nb p2] k p3] value X.env = pure (some [na, nb]) := by rfl) :
    wpAny (model X.prog X.w) X.A (execs (.Assign [.Tuple [.Name na p1, .Name nb p2] k p3] value pos :: rest) X.env) Q E s := by
  walk1
  refine Assign_Tuple_swapped (wpAny_mono h (fun v s' q => ?_) fun _ _ x => x) hs hw
  refine ctr fun hG89 => ?_; obtain ⟨t, x1, x2, m, news, Γ, rfl, tt, y, hr⟩ := q; refine hG89 ?_; clear hG89
  refine z_unpackT y.z (z_tupO y.z tt) y.ok.hh rfl (fun h' z' => ?_)
  refine assignInOrder_cons ?_
  refine bindName_ (y_store (y.to (t := s'.toks) z') (fun s2 y2 => ?_) hlb)
  refine assignInOrder_cons ?_
  refine bindName_ (y_store y2 (fun s3 y3 => ?_) hla)
  exact assignInOrder_nil (hr _ y3)
/-! list methods, the call itself -/
theorem c_append {v : Value} {Q : Value → Shared → Prop} (y : Y X m news Γ s) (a : At D (listOf its n) news f) (hsz : its.size ≤ sizeLine) (h : ∀ s' k, Y X m (f (listOf (its.push v) k)) Γ s' → Q .none s') : wpAny (model X.prog X.w) X.A (call (.builtin "list.append") [.ref D, v]) Q E s :=
  z_append y.z a (fun h' z' => h _ _ (y.to z')) hsz
theorem c_pop {p : List Value} {v : Value} {Q : Value → Shared → Prop} (y : Y X m news Γ s) (a : At D (listOf (p ++ [v]).toArray n) news f) (hsz : (p ++ [v]).length ≤ sizeLine) (h : ∀ s' k, Y X m (f (listOf p.toArray k)) Γ s' → Q v s') : wpAny (model X.prog X.w) X.A (call (.builtin "list.pop") [.ref D]) Q E s :=
  z_pop y.z a (fun h' z' => h _ _ (y.to z')) hsz
theorem c_extend {b : Addr} {its2 : Array Value} {n2 : Nat} {Q : Value → Shared → Prop} (y : Y X m news Γ s) (a : At D (listOf its n) news f) (hb : (b, listOf its2 n2) ∈ news) (hsz : its.size + its2.size ≤ sizeLine) (h : ∀ s' k, Y X m (f (listOf (its ++ its2) k)) Γ s' → Q .none s') : wpAny (model X.prog X.w) X.A (call (.builtin "list.extend") [.ref D, .ref b]) Q E s :=
  z_extend y.z a hb (fun h' k z' => h _ k (y.to z')) hsz
theorem c_extendT {b : Addr} {vs : List Value} {Q : Value → Shared → Prop} (y : Y X m news Γ s) (a : At D (listOf its n) news f) (hb : (b, tupO vs) ∈ Γ) (hsz : its.size + vs.length ≤ sizeLine) (h : ∀ s' k, Y X m (f (listOf (its.toList ++ vs).toArray k)) Γ s' → Q .none s') : wpAny (model X.prog X.w) X.A (call (.builtin "list.extend") [.ref D, .ref b]) Q E s :=
  z_extendT y.z a hb (fun h' k z' => h _ k (y.to z')) hsz
/-! behind a call of a proved function -/
theorem Y.call0 {h₀ h' : Heap} {t' : Tok} {Γ' : List (Addr × Obj)} (y : Y X m news Γ s) (k : Kept h₀ [] s.heap h' []) (t : TupL s.heap h' Γ') : Y X m news (Γ' ++ Γ) { s with heap := h', toks := t' } := y.to (y.z.call0 k t)
theorem Y.call1 {h₀ h' : Heap} {t' : Tok} {p : Addr × Obj} {Γ' : List (Addr × Obj)} (y : Y X m news Γ s) (k : Kept h₀ [] s.heap h' [p]) (t : TupL s.heap h' Γ') : Y X m (p :: news) (Γ' ++ Γ) { s with heap := h', toks := t' } := y.to (y.z.call1 k t)
theorem Y.calls {h₀ h' : Heap} {t' : Tok} {loc ks ks' Γ' : List (Addr × Obj)} (y : Y X m (loc ++ ks) Γ s) (O : Own h₀ s.heap ks) (k : Kept h₀ ks s.heap h' ks') (t : TupL s.heap h' Γ') : Y X m (loc ++ ks') (Γ' ++ Γ) { s with heap := h', toks := t' } := y.to (y.z.call O k t)
theorem Y.st (y : Y X m news Γ s) : X.g.StaysIn s.heap := y.z.F.keep
/-- e[::-1] of a tuple -/
theorem ev_revT {e : Expr} {k : Nat} {p1 p2 p3 p4 : Pos} {Q : Value → Shared → Prop}
    (h : wpAny (model X.prog X.w) X.A (eval e X.env) (fun v s' => ∃ t vs m news Γ, v = .ref t ∧ TT X.g Γ t vs ∧ Y X m news Γ s' ∧ vs.length ≤ sizeLine ∧ ∀ t' s2, Y X m news ((t', tupO vs.reverse) :: Γ) s2 → Q (.ref t') s2) E s) :
    wpAny (model X.prog X.w) X.A (eval (.Subscript e (.Slice none none (some (.UnaryOp .USub (.Constant (.int 1) k p1) p2)) p3) p4) X.env) Q E s := by
  repeat' walk1
  refine wpAny_mono h (fun v s' q => ?_) fun _ _ x => x
  refine ctr fun hG90 => ?_; obtain ⟨t, vs, m, news, Γ, rfl, tt, y, hz, hq⟩ := q; refine hG90 ?_; clear hG90
  repeat' (first | (with_reducible show wpAny _ _ (subscriptTail _ _ _ _) _ _ _; fail) | walk1)

  exact z_revT y.z (z_tupO y.z tt) (.int _ _) hz (fun t' h' z' => hq t' _ (y.to z'))
/-- a pair, its items with effect -/
theorem ev_tup2E {e1 e2 : Expr} {k : Nat} {pos : Pos} {Q : Value → Shared → Prop}
    (h : wpAny (model X.prog X.w) X.A (eval e1 X.env) (fun v1 s1 => wpAny (model X.prog X.w) X.A (eval e2 X.env) (fun v2 s2 => ∃ m news Γ, Y X m news Γ s2 ∧ ∀ t s3, Y X m news ((t, tupO [v1, v2]) :: Γ) s3 → Q (.ref t) s3) E s1) E s)
    (hn1 : starEach [e1, e2] X.env = (false, eval e1 X.env) :: starEach [e2] X.env := by rfl) (hn2 : starEach [e2] X.env = (false, eval e2 X.env) :: starEach [] X.env := by rfl) :
    wpAny (model X.prog X.w) X.A (eval (.Tuple [e1, e2] k pos) X.env) Q E s := by
  repeat' walk1
  exact spliced_more (wpAny_mono h (fun v1 s1 q => spliced_more (wpAny_mono q (fun v2 s2 q => spliced_none (by
    refine ctr fun hG91 => ?_; obtain ⟨m, news, Γ, y, hq⟩ := q; refine hG91 ?_; clear hG91
    exact z_tuple y.z (fun t h' z' => hq t _ (y.to z')) (Nat.le_of_ble_eq_true rfl))) fun _ _ x => x) hn2) fun _ _ x => x) hn1
end
end Mine
end
section
open PySem PySem.W PySem.Calls PyProof.Rows PySem.Spec
set_option Elab.async false
set_option maxRecDepth 100000
set_option maxHeartbeats 1000000
set_option rowWalk.seconds 0
set_option linter.unusedVariables false
namespace Mine
/-- a list's iterator -/
noncomputable def IsLit (o : Obj) (l : Addr) (i : Nat) : Prop := o.cls = .type "list_iterator" ∧ o.data = .fields #[.ref l, .int i 0]
theorem IsLit.notT {o : Obj} {l : Addr} {i : Nat} (h : IsLit o l i) : ¬ IsT o := fun q => by have := q.1; rw [h.1] at this; simp at this
section
variable {X : Fn} {m : Str → Option Value} {news Γ : List (Addr × Obj)} {E : Value → Shared → Prop} {s : Shared} {D : Addr} {its : Array Value} {n : Nat} {f : Obj → List (Addr × Obj)}
/-- one element of the ledger changed, the others not -/
theorem Z.setHead {g h h' : Heap} {L I : Addr} {o o' : Obj} (z : Z g L h m ((I, o) :: news) Γ) (hn : ¬ IsT o) (hs : Heap.SameBut I h h') (e : h'.get? I = some o') : Z g L h' m ((I, o') :: news) Γ := z.set .head hn hs e
theorem letGo_lit {target : Expr} {I l : Addr} {i : Nat} {v : Value} {o : Obj} {Q : Unit → Shared → Prop} (ho : s.heap.get? I = some o) (hi : IsLit o l i) (hQ : Q () s) : wpAny (model X.prog X.w) X.A (letOwnedTupleGo target (.ref I) v) Q E s := letGo_listiter ⟨o, ho, hi.1, hi.2⟩ hQ
/-- a for loop over a list of the ledger -/
noncomputable def ForAt (X : Fn) (target : Expr) (body rest : List Stmt) (Q : Flow → Shared → Prop) (E : Value → Shared → Prop) (v : Value) (s : Shared) : Prop :=
  ∃ l n, ∃ J : Nat → (Str → Option Value) → List (Addr × Obj) → List (Addr × Obj) → Prop, ∃ m news Γ, v = .ref l ∧ Y X m news Γ s ∧ J 0 m news Γ ∧
    (∀ i m news Γ, J i m news Γ → ∃ its k, (l, listOf its k) ∈ news ∧ its.size = n ∧ (i < n → ∀ I o v s E', IsLit o l (i + 1) → its[i]? = some v → Y X m ((I, o) :: news) Γ s →
      wpAny (model X.prog X.w) X.A (assign target X.env v) (fun _ s2 => wpAny (model X.prog X.w) X.A (execs body X.env) (KFo X (J (i + 1)) (I, o) Q) E' s2) E' s)) ∧
    (∀ m news Γ s, J n m news Γ → Y X m news Γ s → wpAny (model X.prog X.w) X.A (execs rest X.env) Q E s)
theorem y_for {target iter : Expr} {body rest : List Stmt} {pos : Pos} {Q : Flow → Shared → Prop} (h : wpAny (model X.prog X.w) X.A (eval iter X.env) (ForAt X target body rest Q E) E s)
    (hs : ∀ x, foldedSetIterable iter X.env x = pure x := by intro _; rfl) :
    wpAny (model X.prog X.w) X.A (execs (.For target iter body [] pos :: rest) X.env) Q E s := by
  walk1
  refine wpAny_For (wpAny_mono h (fun xv s₁ h₁ => ?_) fun _ _ e => e) hs
  refine ctr fun hG167 => ?_; obtain ⟨l, n, J, m, news, Γ, rfl, y, h0, hJ, fin⟩ := h₁; refine hG167 ?_; clear hG167
  refine ctr fun hG168 => ?_; obtain ⟨its, k, hm, hn, _⟩ := hJ _ _ _ _ h0; refine hG168 ?_; clear hG168
  refine wpAny_pyIter_list (y.z.isList hm) ?_
  refine codeAny_forLoop_any (fun t s' => ∃ i m news Γ o, i ≤ n ∧ t = n - i ∧ IsLit o l i ∧ Y X m ((s₁.heap.objs.size, o) :: news) Γ s' ∧ J i m news Γ) ?_ n
    ⟨0, m, news, Γ, _, Nat.zero_le _, rfl, ⟨rfl, rfl⟩, y.to (t := s₁.toks) (y.z.push _), h0⟩
  intro t s' hJJ; refine ctr fun hG169 => ?_; obtain ⟨i, m', news', Γ', o, hi, rfl, ho, y', hj⟩ := hJJ; refine hG169 ?_; clear hG169
  refine ctr fun hG170 => ?_; obtain ⟨its', k', hm', hn', step⟩ := hJ _ _ _ _ hj; refine hG170 ?_; clear hG170
  have hit : s'.heap.IsListIter s₁.heap.objs.size l i := ⟨o, y'.z.get (.head _), ho.1, ho.2⟩
  have hl : s'.heap.IsList l its' := y'.z.isList (.tail _ hm')
  by_cases hlt : i < n
  · have hx : its'[i]? = some (its'[i]'(n_ls hlt (Nat.le_of_eq hn'.symm))) := by simp
    refine wpAny_pyNext_list_item hit hl hx fun h' hit' hs' => ?_
    obtain ⟨o', ho', hc', hd'⟩ := hit'
    have y2 : Y X m' ((s₁.heap.objs.size, o') :: news') Γ' { s' with heap := h' } := y'.to (t := s'.toks) (y'.z.setHead ho.notT hs' ho')
    refine letGo_lit (s := { s' with heap := h' }) ho' ⟨hc', hd'⟩ ?_
    refine wpAny_mono (step hlt _ o' _ _ _ ⟨hc', hd'⟩ hx y2) (fun _ s2 h2 => wpAny_mono h2 (fun f s3 h3 => ?_) fun _ _ x => x) fun _ _ x => x
    cases f with
    | ret v => exact h3
    | brk => exact False.elim h3
    | next => obtain ⟨m3, n3, Γ3, y3, j3⟩ := h3; exact ⟨n - (i + 1), by exact n_sb hlt, i + 1, m3, n3, Γ3, o', hlt, rfl, ⟨hc', hd'⟩, y3, j3⟩
    | cont => obtain ⟨m3, n3, Γ3, y3, j3⟩ := h3; exact ⟨n - (i + 1), by exact n_sb hlt, i + 1, m3, n3, Γ3, o', hlt, rfl, ⟨hc', hd'⟩, y3, j3⟩
  · obtain rfl : i = n := by exact n_bx hi hlt
    refine wpAny_pyNext_list_end y'.ok.hh hit hl (by simp; exact Nat.le_of_eq hn') fun h' he' => ?_
    refine y_nil ?_
    refine fin m' news' Γ' _ hj ?_
    have nd := y'.z.nd
    rw [List.map_cons, List.nodup_cons] at nd
    have hI := y'.z.N (s₁.heap.objs.size, o) (.head _)
    refine y'.to (t := s'.toks) ⟨⟨?_, (fun b o e => he' b o (fun q => by subst q; rw [hI.2.2] at e; cases e) (y'.z.F.keep b o e)), y'.z.F.above⟩, fun p hp => ?_, nd.2, y'.z.T⟩
    · refine ctr fun hG171 => ?_; obtain ⟨oL, es, ep, hL, r⟩ := id y'.z.F.ns; refine hG171 ?_; clear hG171
      exact ⟨oL, es, ep, he' _ _ (Ne.symm hI.2.1) hL, r⟩
    · have q := y'.z.N p (.tail _ hp)
      refine ⟨he' _ _ (fun e => ?_) q.1, q.2⟩
      rcases List.mem_append.mp hp with hp | hp
      · exact nd.1 (List.mem_map.mpr ⟨p, hp, e⟩)
      · have q1 := q.1
        rw [e, hI.1] at q1
        cases q1
        exact ho.notT (y'.z.T p hp).1
/-! targets -/
theorem as_name {x : Str} {px : Pos} {v : Value} {Q : Unit → Shared → Prop} (y : Y X m news Γ s) (h : ∀ s', Y X (up x v m) news Γ s' → Q () s') (hl : X.env.kindOf x = some .local := by rfl) : wpAny (model X.prog X.w) X.A (assign (.Name x px) X.env v) Q E s :=
  wpAny_assign_Name (y_store y h hl)
theorem as_pair {a b : Str} {pa pb pt : Pos} {k : Nat} {t : Addr} {va vb : Value} {Q : Unit → Shared → Prop} (y : Y X m news Γ s) (ht : TT X.g Γ t [va, vb]) (h : ∀ s', Y X (up b vb (up a va m)) news Γ s' → Q () s')
    (hla : X.env.kindOf a = some .local := by rfl) (hlb : X.env.kindOf b = some .local := by rfl) : wpAny (model X.prog X.w) X.A (assign (.Tuple [.Name a pa, .Name b pb] k pt) X.env (.ref t)) Q E s := by
  have ht' := z_tupO y.z ht
  refine wpAny_assign_Tuple (items := #[va, vb]) y.ok.hh (by obtain ⟨o, ho, hc, n, hd⟩ := ht'; exact ⟨o, ho, hc, n, hd⟩) rfl rfl fun h₃ hx₃ => ?_
  have y2 : Y X m news Γ { s with heap := h₃ } := y.to (t := s.toks) (y.z.ext hx₃)
  show wpAny _ _ (do holding [vb] (assign (.Name a pa) X.env va); holding [] (assign (.Name b pb) X.env vb); pure ()) _ _ _
  exact wpAny_bind (wpAny_holding (as_name y2 (fun s3 y3 => wpAny_bind (wpAny_holding (as_name y3 (fun s4 y4 => wpAny_pure (h s4 y4)) hlb))) hla))
/-- a list of one, its item with effect -/
theorem ev_list1E {e1 : Expr} {pos : Pos} {Q : Value → Shared → Prop}
    (h : wpAny (model X.prog X.w) X.A (eval e1 X.env) (fun v1 s1 => ∃ m news Γ, Y X m news Γ s1 ∧ ∀ t s3, Y X m ((t, listOf #[v1] 0) :: news) Γ s3 → Q (.ref t) s3) E s)
    (hn1 : starEach [e1] X.env = (false, eval e1 X.env) :: starEach [] X.env := by rfl) :
    wpAny (model X.prog X.w) X.A (eval (.List [e1] pos) X.env) Q E s := by
  repeat' walk1
  exact spliced_more (wpAny_mono h (fun v1 s1 q => spliced_none (by
    refine ctr fun hG172 => ?_; obtain ⟨m, news, Γ, y, hq⟩ := q; refine hG172 ?_; clear hG172
    exact z_list y.z (fun t h' z' => hq t _ (y.to z')) (Nat.le_of_ble_eq_true rfl))) fun _ _ x => x) hn1
end
end Mine
end
section
open PySem PySem.W PySem.Calls PyProof.Rows PySem.Spec
set_option Elab.async false
set_option maxRecDepth 100000
set_option maxHeartbeats 1000000
set_option linter.unusedVariables false
namespace Mine
/-! ### entries of an object's own dict -/
inductive ERel : List DictEntry → List (Str × Value) → Prop
  | nil : ERel [] []
  | cons {h : Int} {k : Str} {t : Tok} {v : Value} {es : List DictEntry} {kvs : List (Str × Value)} : ERel es kvs → ERel (⟨h, .str k t, v⟩ :: es) ((k, v) :: kvs)
noncomputable def kget (name : Str) : List (Str × Value) → Option Value
  | [] => none
  | (k, v) :: r => if k == name then some v else kget name r
noncomputable def kput (name : Str) (v : Value) : List (Str × Value) → List (Str × Value)
  | [] => [(name, v)]
  | (k, w) :: r => if k == name then (k, v) :: r else (k, w) :: kput name v r
theorem ERel.noRef {es : List DictEntry} {kvs : List (Str × Value)} (r : ERel es kvs) : es.any (·.refKey) = false := by
  induction r with
  | nil => rfl
  | cons _ ih => rw [List.any_cons, ih]; rfl
theorem ERel.get {es : List DictEntry} {kvs : List (Str × Value)} (r : ERel es kvs) (name : Str) : getL name es = some (kget name kvs) := by
  have key : (es.find? (·.key.isStr name)).map (·.val) = kget name kvs := by
    induction r with
    | nil => rfl
    | @cons h k t v es kvs r ih =>
      unfold kget
      rw [List.find?_cons]
      show Option.map _ (match (k == name) with | true => _ | false => _) = _
      cases e : (k == name) with
      | true => rfl
      | false => rw [if_neg Bool.false_ne_true]; exact ih
  unfold getL
  rw [← key]
  cases e : es.find? (·.key.isStr name) with
  | some x => rfl
  | none => simp only [Option.map_none]; rw [r.noRef]; rfl
theorem ERel.put {es : List DictEntry} {kvs : List (Str × Value)} (r : ERel es kvs) (name : Str) (hsh : Int) (t : Tok) (v : Value) : ERel (putL name hsh (.str name t) v es) (kput name v kvs) := by
  induction r with
  | nil => exact .cons .nil
  | @cons h k u w es kvs r ih =>
    unfold putL kput
    show ERel (if (k == name) = true then _ else _) _
    cases e : (k == name) with
    | true => rw [if_pos rfl, if_pos rfl]; exact .cons r
    | false => rw [if_neg Bool.false_ne_true, if_neg Bool.false_ne_true]; exact .cons ih
theorem ERel.length {es : List DictEntry} {kvs : List (Str × Value)} (r : ERel es kvs) : es.length = kvs.length := by
  induction r with
  | nil => rfl
  | cons _ ih => simp [ih]
theorem kput_length (name : Str) (v : Value) (kvs : List (Str × Value)) : (kput name v kvs).length ≤ kvs.length + 1 := by
  induction kvs with
  | nil => simp [kput]
  | cons p r ih => obtain ⟨k, w⟩ := p; unfold kput; split <;> simp; exact ih

/-! ### lists of represented things -/
inductive LRep {α β : Type} (R : α → β → List (Addr × Obj) → Prop) : List α → List β → List (Addr × Obj) → Prop
  | nil : LRep R [] [] []
  | cons {p : α} {t : β} {l ls : List (Addr × Obj)} {ps : List α} {ts : List β} : R p t l → LRep R ps ts ls → LRep R (p :: ps) (t :: ts) (l ++ ls)
section
variable {α β : Type} {R R' : α → β → List (Addr × Obj) → Prop} {ps : List α} {ts : List β} {ls : List (Addr × Obj)}
theorem LRep.length (r : LRep R ps ts ls) : ps.length = ts.length := by
  induction r with
  | nil => rfl
  | cons _ _ ih => simp [ih]
theorem LRep.snoc (r : LRep R ps ts ls) {p : α} {t : β} {l : List (Addr × Obj)} (q : R p t l) : LRep R (ps ++ [p]) (ts ++ [t]) (ls ++ l) := by
  induction r with
  | nil => simpa using LRep.cons q .nil
  | cons h _ ih => rw [List.append_assoc]; exact .cons h ih
theorem LRep.focus (r : LRep R ps ts ls) {n : Nat} {p : α} {t : β} (hp : ps[n]? = some p) (ht : ts[n]? = some t) : ∃ pre l post, ls = pre ++ (l ++ post) ∧ R p t l ∧ ∀ p' t' l', R p' t' l' → LRep R (ps.set n p') (ts.set n t') (pre ++ (l' ++ post)) := by
  induction r generalizing n with
  | nil => cases hp
  | @cons p0 t0 l0 ls0 ps ts h r ih =>
    cases n with
    | zero => cases hp; cases ht; exact ⟨[], l0, ls0, rfl, h, fun p' t' l' q => LRep.cons (l := l') q r⟩
    | succ n =>
      refine ctr fun hG122 => ?_; obtain ⟨pre, l, post, e, q, f⟩ := ih hp ht; refine hG122 ?_; clear hG122
      exact ⟨l0 ++ pre, l, post, by rw [e, List.append_assoc], q, fun p' t' l' q' => by rw [List.append_assoc]; exact .cons h (f p' t' l' q')⟩
theorem LRep.at {n : Nat} (r : LRep R ps ts ls) {t : β} (ht : ts[n]? = some t) : ∃ p, ps[n]? = some p := by
  have := r.length
  have hlt : n < ts.length := by
    cases Nat.lt_or_ge n ts.length with
    | inl h => exact h
    | inr h => rw [List.getElem?_eq_none h] at ht; cases ht
  exact ⟨ps[n]'(n_ls hlt (Nat.le_of_eq this.symm)), by simp [show n < ps.length by exact n_ls hlt (Nat.le_of_eq this.symm)]⟩
theorem LRep.mono (h : ∀ p t l, R p t l → R' p t l) (r : LRep R ps ts ls) : LRep R' ps ts ls := by
  induction r with
  | nil => exact .nil
  | cons q _ ih => exact .cons (h _ _ _ q) ih
theorem LRep.all {Φ : Addr × Obj → Prop} (h : ∀ p t l, R p t l → ∀ x ∈ l, Φ x) (r : LRep R ps ts ls) : ∀ x ∈ ls, Φ x := by
  induction r with
  | nil => exact fun _ hx => nomatch hx
  | cons q _ ih => exact fun x hx => (List.mem_append.mp hx).elim (h _ _ _ q x) (ih x)
end

/-! ### the abstract heap -/
inductive Kd where
  | object | box | buffer | context
inductive Sta where
  | live | dying | gone
noncomputable def Kd.word : Kd → Str
  | .object => Str.ofString "object"
  | .box => Str.ofString "box"
  | .buffer => Str.ofString "buffer"
  | .context => Str.ofString "context"
noncomputable def Sta.word : Sta → Str
  | .live => Str.ofString "live"
  | .dying => Str.ofString "dying"
  | .gone => Str.ofString "gone"
structure T where
  kind : Kd
  name : Str
  fields : List V
  strong : Int
  weak : Int
  unowned : Int
  st : Sta
structure H where
  ts : List T
  dying : List Nat

/-! keys 1, 2, .. -/
noncomputable def keyed : Nat → List Value → List (Int × Value)
  | _, [] => []
  | i, v :: r => ((i : Int), v) :: keyed (i + 1) r
theorem keyed_get (vs : List Value) : ∀ (i n : Nat), valueAt (keyed i vs) ((n : Int) + i) = vs[n]? := by
  induction vs with
  | nil => intro i n; rfl
  | cons v r ih =>
    intro i n
    cases n with
    | zero => simp [keyed, valueAt]
    | succ n =>
      have h := ih (i + 1) n
      have e : (((n + 1 : Nat) : Int) + (i : Int)) = (n : Int) + ((i + 1 : Nat) : Int) := by lia
      rw [e]
      simp only [List.getElem?_cons_succ]
      rw [← h]
      unfold valueAt
      simp only [keyed, List.find?_cons]
      have : decide ((i : Int) = (n : Int) + ((i + 1 : Nat) : Int)) = false := decide_eq_false (by lia)
      rw [this]
theorem keyed_out (vs : List Value) : ∀ (i : Nat) (k : Int), (k < i ∨ (i : Int) + vs.length ≤ k) → valueAt (keyed i vs) k = none := by
  induction vs with
  | nil => intro i k h; rfl
  | cons v r ih =>
    intro i k h
    have h2 := ih (i + 1) k (by simp at h ⊢; lia)
    unfold valueAt at h2 ⊢
    simp only [keyed, List.find?_cons]
    have : decide ((i : Int) = k) = false := decide_eq_false (by simp at h; lia)
    rw [this]; exact h2
theorem keyed_any (vs : List Value) : ∀ (i : Nat) (k : Int), (i : Int) + vs.length ≤ k → (keyed i vs).any (fun kv => kv.1 = k) = false := by
  induction vs with
  | nil => intro i k h; rfl
  | cons v r ih =>
    intro i k h
    have h2 := ih (i + 1) k (by simp at h ⊢; lia)
    simp only [keyed, List.any_cons, h2, Bool.or_false]
    exact decide_eq_false (by simp at h; lia)
theorem keyed_snoc (vs : List Value) (v : Value) : ∀ i : Nat, keyed i (vs ++ [v]) = keyed i vs ++ [((i : Int) + vs.length, v)] := by
  induction vs with
  | nil => intro i; simp [keyed]
  | cons a r ih =>
    intro i
    simp only [List.cons_append, keyed, ih (i + 1), List.length_cons]
    have : (((i + 1 : Nat) : Int) + (r.length : Int)) = (i : Int) + ((r.length + 1 : Nat) : Int) := by lia
    rw [this]
theorem keyed_stored (vs : List Value) (v : Value) : stored (keyed 1 vs) ((vs.length : Int) + 1) v = keyed 1 (vs ++ [v]) := by
  unfold stored
  rw [keyed_any vs 1 _ (by lia), if_neg Bool.false_ne_true, keyed_snoc]
  have : ((1 : Nat) : Int) + (vs.length : Int) = (vs.length : Int) + 1 := by lia
  rw [this]
theorem keyed_length (vs : List Value) : ∀ i, (keyed i vs).length = vs.length := by
  induction vs with
  | nil => intro i; rfl
  | cons v r ih => intro i; simp [keyed, ih]

/-! ### the heap's representation -/
structure TP where
  a : Addr
  d : Addr
  f : Addr
noncomputable def tkv (f : Addr) (k nm s w u st : Value) : List (Str × Value) :=
  [(Str.ofString "kind", k), (Str.ofString "name", nm), (Str.ofString "fields", .ref f), (Str.ofString "strong", s), (Str.ofString "weak", w), (Str.ofString "unowned", u), (Str.ofString "state", st)]
inductive TRep (P : Addr → Obj → Prop) (p : TP) (t : T) : List (Addr × Obj) → Prop
  | mk {es : List DictEntry} {n c : Nat} {fl : List Value} {k nm s w u st : Value} : ERel es (tkv p.f k nm s w u st) → IsS t.kind.word k → IsS t.name nm → IsI t.strong s → IsI t.weak w → IsI t.unowned u → IsS t.st.word st → VRs P fl (t.fields.map V.py) →
    TRep P p t [(p.a, instObj 97 p.d), (p.d, dictOf es n), (p.f, listOf fl.toArray c)]
structure HP where
  d : Addr
  t : Addr
  q : Addr
  tps : List TP
noncomputable def hkv (t q : Addr) (l : Value) : List (Str × Value) := [(Str.ofString "things", .ref t), (Str.ofString "last", l), (Str.ofString "dying", .ref q)]
inductive HRep (prog : Program) (w : World) (P : Addr → Obj → Prop) (o : Addr) (p : HP) (H : H) : List (Addr × Obj) → Prop
  | mk {es : List DictEntry} {n c : Nat} {od : Obj} {lv : Value} {ql : List Value} {ls : List (Addr × Obj)} : ERel es (hkv p.t p.q lv) → IsI H.ts.length lv → od.IsDictOf (PySem.intKind prog w) (keyed 1 (p.tps.map fun t => .ref t.a)) → (p.t == sysModules) = false →
    IntsAre ql (H.dying.map fun n : Nat => (n : Int) + 1) → LRep (TRep P) p.tps H.ts ls →
    HRep prog w P o p H ((o, instObj 235 p.d) :: (p.d, dictOf es n) :: (p.t, od) :: (p.q, listOf ql.toArray c) :: ls)
/-! ### the book's -/
structure BTP where
  a : Addr
  f : Addr
inductive BTRep (P : Addr → Obj → Prop) (p : BTP) (t : T) : List (Addr × Obj) → Prop
  | mk {n c : Nat} {fl : List Value} {k s w u st : Value} : IsS t.kind.word k → IsI t.strong s → IsI t.weak w → IsI t.unowned u → IsS t.st.word st → VRs P fl (t.fields.map V.py) →
    BTRep P p t [(p.a, listOf #[k, .ref p.f, s, w, u, st] n), (p.f, listOf fl.toArray c)]
structure BP where
  t : Addr
  n : Addr
  h : Addr
  q : Addr
  tps : List BTP
noncomputable def bkv (p : BP) : List (Str × Value) := [(Str.ofString "things", .ref p.t), (Str.ofString "names", .ref p.n), (Str.ofString "held", .ref p.h), (Str.ofString "dying", .ref p.q)]
inductive Strs : List Value → List Str → Prop
  | nil : Strs [] []
  | cons {x : Str} {t : Tok} {vs : List Value} {xs : List Str} : Strs vs xs → Strs (.str x t :: vs) (x :: xs)
inductive BRep (prog : Program) (w : World) (P : Addr → Obj → Prop) (b : Addr) (p : BP) (H : H) (held : List V) : List (Addr × Obj) → Prop
  | mk {ob ot on : Obj} {c c2 : Nat} {hl ql nms : List Value} {ls : List (Addr × Obj)} : ob.IsDictOf (PySem.strKind prog w) (bkv p) → ot.IsDictOf (PySem.intKind prog w) (keyed 1 (p.tps.map fun t => .ref t.a)) → on.IsDictOf (PySem.intKind prog w) (keyed 1 nms) →
    (p.t == sysModules) = false → Strs nms (H.ts.map T.name) → VRs P hl (held.map V.py) → IntsAre ql (H.dying.map fun n : Nat => (n : Int) + 1) → LRep (BTRep P) p.tps H.ts ls →
    BRep prog w P b p H held ((b, ob) :: (p.t, ot) :: (p.n, on) :: (p.h, listOf hl.toArray c) :: (p.q, listOf ql.toArray c2) :: ls)
/-! ### the well's -/
noncomputable def wkv (c : Addr) (a s : Value) : List (Str × Value) := [(Str.ofString "cells", .ref c), (Str.ofString "at", a), (Str.ofString "stir", s)]
inductive WRep (prog : Program) (w : World) (a c : Addr) : List (Addr × Obj) → Prop
  | mk {od : Obj} {n : Nat} {vs : List Value} {ns : List Int} {x y : Value} {i : Nat} {z : Int} : od.IsDictOf (PySem.strKind prog w) (wkv c x y) → IsI i x → IsI z y → 0 ≤ z → z < 10007 → IntsAre vs ns → (∀ k ∈ ns, 0 ≤ k ∧ k < 2147483647) → vs.length ≤ 48 →
    WRep prog w a c [(a, od), (c, listOf vs.toArray n)]

theorem dict_notT {prog : Program} {w : World} {K : Type} [DecidableEq K] {knd : PySem.KeyKind prog w K} {o : Obj} {kvs : List (K × Value)} (h : o.IsDictOf knd kvs) : ¬ IsT o := fun q => by
  obtain ⟨_, vs, n, q⟩ := q
  unfold Obj.IsDictOf at h
  simp_all
section
variable {prog : Program} {w : World} {P P' : Addr → Obj → Prop}
theorem TRep.mono {p : TP} {t : T} {l : List (Addr × Obj)} (h : ∀ a o, IsT o → P a o → P' a o) (r : TRep P p t l) : TRep P' p t l := by
  cases r with | mk a b c d e f g v => exact .mk a b c d e f g (v.mono2 h)
theorem TRep.noT {p : TP} {t : T} {l : List (Addr × Obj)} (r : TRep P p t l) : ∀ x ∈ l, ¬ IsT x.2 := by
  cases r with | mk a b c d e f g v =>
  intro x hx
  simp only [List.mem_cons, List.not_mem_nil, or_false] at hx
  rcases hx with rfl | rfl | rfl
  · exact notT_inst
  · exact notT_dict rfl
  · exact notT_list
theorem BTRep.mono {p : BTP} {t : T} {l : List (Addr × Obj)} (h : ∀ a o, IsT o → P a o → P' a o) (r : BTRep P p t l) : BTRep P' p t l := by
  cases r with | mk a b c d e v => exact .mk a b c d e (v.mono2 h)
theorem BTRep.noT {p : BTP} {t : T} {l : List (Addr × Obj)} (r : BTRep P p t l) : ∀ x ∈ l, ¬ IsT x.2 := by
  cases r with | mk a b c d e v =>
  intro x hx
  simp only [List.mem_cons, List.not_mem_nil, or_false] at hx
  rcases hx with rfl | rfl <;> exact notT_list
theorem HRep.mono {o : Addr} {p : HP} {H : H} {ks : List (Addr × Obj)} (h : ∀ a o, IsT o → P a o → P' a o) (r : HRep prog w P o p H ks) : HRep prog w P' o p H ks := by
  cases r with | mk a b c d e f => exact .mk a b c d e (f.mono fun _ _ _ => TRep.mono h)
theorem HRep.noT {o : Addr} {p : HP} {H : H} {ks : List (Addr × Obj)} (r : HRep prog w P o p H ks) : ∀ x ∈ ks, ¬ IsT x.2 := by
  cases r with | mk a b c d e f =>
  intro x hx
  simp only [List.mem_cons] at hx
  rcases hx with rfl | rfl | rfl | rfl | hx
  · exact notT_inst
  · exact notT_dict rfl
  · exact dict_notT c
  · exact notT_list
  · exact f.all (fun _ _ _ => TRep.noT) x hx
theorem BRep.mono {o : Addr} {p : BP} {H : H} {held : List V} {ks : List (Addr × Obj)} (h : ∀ a o, IsT o → P a o → P' a o) (r : BRep prog w P o p H held ks) : BRep prog w P' o p H held ks := by
  cases r with | mk a b c d e f i j => exact .mk a b c d e (f.mono2 h) i (j.mono fun _ _ _ => BTRep.mono h)
theorem BRep.noT {o : Addr} {p : BP} {H : H} {held : List V} {ks : List (Addr × Obj)} (r : BRep prog w P o p H held ks) : ∀ x ∈ ks, ¬ IsT x.2 := by
  cases r with | mk a b c d e f i j =>
  intro x hx
  simp only [List.mem_cons] at hx
  rcases hx with rfl | rfl | rfl | rfl | rfl | hx
  · exact dict_notT a
  · exact dict_notT b
  · exact dict_notT c
  · exact notT_list
  · exact notT_list
  · exact j.all (fun _ _ _ => BTRep.noT) x hx
theorem WRep.noT {a c : Addr} {ks : List (Addr × Obj)} (r : WRep prog w a c ks) : ∀ x ∈ ks, ¬ IsT x.2 := by
  cases r with | mk a b c d e f g i =>
  intro x hx
  simp only [List.mem_cons, List.not_mem_nil, or_false] at hx
  rcases hx with rfl | rfl
  · exact dict_notT a
  · exact notT_list
end
end Mine
end
section
open PySem PySem.W PySem.Calls PyProof.Rows PySem.Spec
set_option Elab.async false
set_option maxRecDepth 100000
set_option maxHeartbeats 1000000
set_option rowWalk.seconds 0
set_option linter.unusedVariables false
namespace Mine
section
variable {X : Fn} {m : Str → Option Value} {news Γ : List (Addr × Obj)} {E : Value → Shared → Prop} {s : Shared} {D : Addr} {its : Array Value} {n : Nat} {f : Obj → List (Addr × Obj)}
/-! attributes -/
theorem inst_at {x dx C : Addr} {es : List DictEntry} (y : Y X m news Γ s) (hx : (x, instObj C dx) ∈ news) (hd : (dx, dictOf es n) ∈ news) : InstAt s.heap x (instObj C dx) C (some (dictOf es n)) :=
  ⟨y.z.get hx, rfl, rfl, y.z.get hd⟩
theorem noGet_none {K : Frag} : noGet K none = true := rfl
theorem pv_attr {e : Expr} {name : Str} {p : Pos} {x dx C : Addr} {es : List DictEntry} {kvs : List (Str × Value)} {v : Value} (h1 : PV X m news Γ e (· = .ref x)) (hx : (x, instObj C dx) ∈ news) (hd : (dx, dictOf es n) ∈ news) (er : ERel es kvs) (hC : C = 97 ∨ C = 235)
    (ha : X.Ok → findIn X.K (.ref C) name = some none) (hl : kget name kvs = some v := by rfl) (hv : handedIn v = true := by rfl) (hb : attributeBase e name X.env (eval e X.env) = eval e X.env := by rfl) : PV X m news Γ (.Attribute e name p) (· = v) := by
  intro E s y
  rw [PySem.arm_eval_Attribute, hb]
  refine wpAny_bind (wpAny_mono (h1 _ s y) (fun o s' q => ?_) fun _ _ x => x)
  obtain ⟨rfl, y'⟩ := q
  have pl := y'.ok.C.KF.plain C hC
  refine wpAny_bind (wpAny_standAt (wpAny_bind (wpAny_holding (get_own y'.z.F y'.ok.C.X (inst_at y' hx hd) (pl.1 name) pl.2.1 (ha y'.ok) noGet_none (by rw [er.get, hl]) hv ?_))))
  exact wpAny_bind (wpAny_letTemporaryGo (wpAny_pure ⟨rfl, y'.tk _⟩))
theorem pv_attrS {e : Expr} {name : Str} {p : Pos} {x dx C : Addr} {es : List DictEntry} {kvs : List (Str × Value)} {v : Value} {z : Str} (h1 : PV X m news Γ e (· = .ref x)) (hx : (x, instObj C dx) ∈ news) (hd : (dx, dictOf es n) ∈ news) (er : ERel es kvs) (hC : C = 97 ∨ C = 235)
    (ha : X.Ok → findIn X.K (.ref C) name = some none) (hz : IsS z v) (hl : kget name kvs = some v := by rfl) (hb : attributeBase e name X.env (eval e X.env) = eval e X.env := by rfl) : PV X m news Γ (.Attribute e name p) (IsS z) := by
  obtain ⟨t, rfl⟩ := hz
  exact (pv_attr h1 hx hd er hC ha hl rfl hb).mono fun _ e => ⟨t, e⟩
theorem pv_attrI {e : Expr} {name : Str} {p : Pos} {x dx C : Addr} {es : List DictEntry} {kvs : List (Str × Value)} {v : Value} {z : Int} (h1 : PV X m news Γ e (· = .ref x)) (hx : (x, instObj C dx) ∈ news) (hd : (dx, dictOf es n) ∈ news) (er : ERel es kvs) (hC : C = 97 ∨ C = 235)
    (ha : X.Ok → findIn X.K (.ref C) name = some none) (hz : IsI z v) (hl : kget name kvs = some v := by rfl) (hb : attributeBase e name X.env (eval e X.env) = eval e X.env := by rfl) : PV X m news Γ (.Attribute e name p) (IsI z) := by
  obtain ⟨t, rfl⟩ := hz
  exact (pv_attr h1 hx hd er hC ha hl rfl hb).mono fun _ e => ⟨t, e⟩
theorem ev_attrE {e : Expr} {name : Str} {p : Pos} {Q : Value → Shared → Prop}
    (h : wpAny (model X.prog X.w) X.A (eval e X.env) (fun v s' => ∃ x dx C es n kvs m news Γ r, v = .ref x ∧ Y X m news Γ s' ∧ (x, instObj C dx) ∈ news ∧ (dx, dictOf es n) ∈ news ∧ ERel es kvs ∧ (C = 97 ∨ C = 235) ∧ findIn X.K (.ref C) name = some none ∧ kget name kvs = some r ∧ handedIn r = true ∧ ∀ s2, Y X m news Γ s2 → Q r s2) E s)
    (hb : attributeBase e name X.env (eval e X.env) = eval e X.env := by rfl) : wpAny (model X.prog X.w) X.A (eval (.Attribute e name p) X.env) Q E s := by
  rw [PySem.arm_eval_Attribute, hb]
  refine wpAny_bind (wpAny_mono h (fun o s' q => ?_) fun _ _ x => x)
  refine ctr fun hG28 => ?_; obtain ⟨x, dx, C, es, n, kvs, m, news, Γ, r, rfl, y', hx, hd, er, hC, ha, hl, hv, hq⟩ := q; refine hG28 ?_; clear hG28
  have pl := y'.ok.C.KF.plain C hC
  refine wpAny_bind (wpAny_standAt (wpAny_bind (wpAny_holding (get_own y'.z.F y'.ok.C.X (inst_at y' hx hd) (pl.1 name) pl.2.1 ha noGet_none (by rw [er.get, hl]) hv ?_))))
  exact wpAny_bind (wpAny_letTemporaryGo (wpAny_pure (hq _ (y'.tk _))))
theorem y_asgattr {e value : Expr} {name : Str} {p pos : Pos} {rest : List Stmt} {Q : Flow → Shared → Prop}
    (h : wpAny (model X.prog X.w) X.A (eval value X.env) (fun v s1 => wpAny (model X.prog X.w) X.A (eval e X.env) (fun ov s2 => wpAny (model X.prog X.w) X.A (setAttr ov name v) (fun _ s3 => wpAny (model X.prog X.w) X.A (execs rest X.env) Q E s3) E s2) E s1) E s)
    (hs : swapsWith value (some (.Attribute e name p)) pos.line X.env = pure false := by rfl) : wpAny (model X.prog X.w) X.A (execs (.Assign [.Attribute e name p] value pos :: rest) X.env) Q E s := by
  walk1
  exact plainObj_wpAny_Assign_Attribute h hs
theorem y_asgsub {e i value : Expr} {p pos : Pos} {rest : List Stmt} {Q : Flow → Shared → Prop}
    (h : wpAny (model X.prog X.w) X.A (eval value X.env) (fun v s1 => wpAny (model X.prog X.w) X.A (eval e X.env) (fun ov s2 => wpAny (model X.prog X.w) X.A (eval i X.env) (fun iv s3 => wpAny (model X.prog X.w) X.A (setItem ov iv v) (fun _ s4 => wpAny (model X.prog X.w) X.A (execs rest X.env) Q E s4) E s3) E s2) E s1) E s)
    (hs : swapsWith value (some (.Subscript e i p)) pos.line X.env = pure false := by rfl) : wpAny (model X.prog X.w) X.A (execs (.Assign [.Subscript e i p] value pos :: rest) X.env) Q E s := by
  walk1
  exact wpAny_Assign_Subscript h hs
theorem c_setattr {name : Str} {x dx C : Addr} {es : List DictEntry} {kvs kvs' : List (Str × Value)} {v : Value} {Q : Unit → Shared → Prop} (y : Y X m news Γ s) (hx : (x, instObj C dx) ∈ news) (a : At dx (dictOf es n) news f) (er : ERel es kvs) (hC : C = 97 ∨ C = 235)
    (ht : takerIn X.K C name = some none) (h : ∀ s' es' n', ERel es' kvs' → Y X m (f (dictOf es' n')) Γ s' → Q () s') (hk : kput name v kvs = kvs' := by rfl) (hz : kvs.length ≤ 900 := by exact Nat.le_of_ble_eq_true rfl) : wpAny (model X.prog X.w) X.A (setAttr (.ref x) name v) Q E s := by
  have pl := y.ok.C.KF.plain C hC
  refine set_dict (es' := putL name (PyData.keyHash X.w.params name) (.str name (s.toks + 1)) v es) (n' := putN name es n) y.z.F y.ok.C.X y.z.N (inst_at y hx a.mem) rfl pl.2.2.1 pl.2.2.2.1 ht pl.2.1 (by rw [er.get]; rfl) rfl (y.z.upd a (notT_dict rfl) _) ?_ (fun h' F' N' => ?_)
  · have e1 := (er.put name (PyData.keyHash X.w.params name) (s.toks + 1) v).length
    have e2 := kput_length name v kvs
    exact n_e e1 (n_t e2 (n_t (n_a (n_t hz (Nat.le_refl _)) (Nat.le_refl _)) (n_b rfl)))
  · exact h _ _ _ (hk ▸ er.put name _ _ v) (y.to (y.z.put a F' N'))
/-! dicts, lists by item -/
theorem ev_sub {e k : Expr} {p : Pos} {Q : Value → Shared → Prop} {vp : Value → Prop} {o : Value} (h1 : PV X m news Γ e (· = o)) (h2 : PV X m news Γ k vp) (y : Y X m news Γ s)
    (h : ∀ x s', vp x → Y X m news Γ s' → wpAny (model X.prog X.w) X.A (subscriptTail e k o x) Q E s') : wpAny (model X.prog X.w) X.A (eval (.Subscript e k p) X.env) Q E s :=
  Subscript_ (wpAny_mono (h1 _ s y) (fun o' s' q => wpAny_mono (h2 _ s' q.2) (fun x s2 q2 => by obtain ⟨rfl, _⟩ := q; exact h x s2 q2.1 q2.2) fun _ _ x => x) fun _ _ x => x)
theorem pv_ditem {KT : Type} [DecidableEq KT] {knd : PySem.KeyKind X.prog X.w KT} {e k : Expr} {p : Pos} {d : Addr} {o : Obj} {kvs : List (KT × Value)} {key : KT} {v : Value} {vp : Value → Prop} (h1 : PV X m news Γ e (· = .ref d)) (h2 : PV X m news Γ k vp) (hm : (d, o) ∈ news) (hd : o.IsDictOf knd kvs)
    (hk : ∀ x, vp x → knd.is key x = true) (hl : valueAt kvs key = some v) (hs : ∀ o i, subscripted k false o i = operate [o, i] (getItem o i) := by intro _ _; rfl) : PV X m news Γ (.Subscript e k p) (· = v) :=
  fun E s y => ev_sub h1 h2 y fun x s' q y' => by
    have hD := kda_dict y'.z.N (List.mem_append_left _ hm) hd
    exact tail_any hD.typeIs slot_dict_getitem.lookup (wpAny_getItem_of (hk x q) hD.mapOf hl ⟨rfl, y'.tk _⟩) (hs _ _)
theorem isS_is {X : Fn} {x : Str} {v : Value} (h : IsS x v) : (PySem.strKind X.prog X.w).is x v = true := by obtain ⟨t, rfl⟩ := h; exact strKind_is _ _ _ _
theorem isI_is {X : Fn} {x : Int} {v : Value} (h : IsI x v) : (PySem.intKind X.prog X.w).is x v = true := by obtain ⟨t, rfl⟩ := h; exact intKind_is _ _ _ _
theorem pv_dstr {e : Expr} {p pk : Pos} {x : Str} {c : Nat} {d : Addr} {o : Obj} {kvs : List (Str × Value)} {v : Value} (h1 : PV X m news Γ e (· = .ref d)) (hm : (d, o) ∈ news) (hd : o.IsDictOf (PySem.strKind X.prog X.w) kvs) (hl : valueAt kvs x = some v := by rfl) :
    PV X m news Γ (.Subscript e (.Constant (.str x) c pk) p) (· = v) := pv_ditem h1 pv_str hm hd (fun _ => isS_is) hl
theorem pv_litem {e k : Expr} {p : Pos} {l : Addr} {its : List Value} {i : Int} {v : Value} {vp : Value → Prop} (h1 : PV X m news Γ e (· = .ref l)) (h2 : PV X m news Γ k (IsI i)) (hm : (l, listOf its.toArray n) ∈ news) (hx : its[i.toNat]? = some v) (h0 : 0 ≤ i) (hfit : i < 2 ^ 63)
    (hs : ∀ o i, subscripted k false o i = operate [o, i] (getItem o i) := by intro _ _; rfl) : PV X m news Γ (.Subscript e k p) (· = v) :=
  fun E s y => ev_sub h1 h2 y fun x s' q y' => by
    obtain ⟨t, rfl⟩ := q
    exact tail_any (y'.z.isList hm).typeIs slot_list_getitem.lookup (wpAny_getItem_list (y'.z.isList hm) h0 hfit (by simpa using hx) ⟨rfl, y'⟩) (hs _ _)
theorem c_dset {KT : Type} [DecidableEq KT] {knd : PySem.KeyKind X.prog X.w KT} {d : Addr} {o : Obj} {kvs kvs' : List (KT × Value)} {key : KT} {kv v : Value} {Q : Unit → Shared → Prop} (y : Y X m news Γ s) (a : At d o news f) (hd : o.IsDictOf knd kvs) (hk : knd.is key kv = true) (hz : kvs.length ≤ 1000)
    (h : ∀ s' o', o'.IsDictOf knd kvs' → Y X m (f o') Γ s' → Q () s') (he : stored kvs key v = kvs') : wpAny (model X.prog X.w) X.A (setItem (.ref d) kv v) Q E s :=
  kda_set y.z.F y.z.N (y.z.updF a (dict_notT hd)) hd hk (Nat.le_trans hz (Nat.le_of_ble_eq_true rfl)) (fun h' o' F' N' hd' => h _ o' (he ▸ hd') (y.to (y.z.put a F' N')))
theorem c_lset {l : Addr} {i : Int} {t : Tok} {v : Value} {Q : Unit → Shared → Prop} (y : Y X m news Γ s) (a : At l (listOf its n) news f) (h0 : 0 ≤ i) (hlt : i < its.size) (hfit : i < 2 ^ 63) (h : ∀ s' c, Y X m (f (listOf (its.setIfInBounds i.toNat v) c)) Γ s' → Q () s') :
    wpAny (model X.prog X.w) X.A (setItem (.ref l) (.int i t) v) Q E s := by
  refine ex2 (y.z.mid a notT_list) fun pre post hJJ => an4 hJJ fun e1 e2 h3 h4 => ?_; clear hJJ
  have N := y.z.N
  rw [e1] at N
  have hm := y.z.N (l, listOf its n) (List.mem_append_left _ a.mem)
  refine ki_setAt (y.z.get a.mem) h0 hfit hlt (h _ n (y.to (t := s.toks) (y.z.put a (y.z.F.change (Heap.SameBut.update ..) hm.2.1 hm.2.2) ?_)))
  rw [e2]
  exact ki_turn _ N h3 h4 rfl (by simp)
/-! ints -/
theorem pv_bin {a b : Expr} {op : Operator} {pos : Pos} {va vb vr : Value → Prop} (h1 : PV X m news Γ a va) (h2 : PV X m news Γ b vb) (h : ∀ x z s E, va x → vb z → Y X m news Γ s → wpAny (model X.prog X.w) X.A (binaryOp op x z) (fun v s' => vr v ∧ Y X m news Γ s') E s) : PV X m news Γ (.BinOp a op b pos) vr := fun E s y =>
  wpAny_BinOp (wpAny_mono (h1 _ s y) (fun x s' q => wpAny_mono (h2 _ s' q.2) (fun z s2 q2 => h x z s2 _ q.1 q2.1 q2.2) fun _ _ x => x) fun _ _ x => x)
theorem pv_add {a b : Expr} {pos : Pos} {i j : Int} (h1 : PV X m news Γ a (IsI i)) (h2 : PV X m news Γ b (IsI j)) : PV X m news Γ (.BinOp a .Add b pos) (IsI (i + j)) :=
  pv_bin h1 h2 fun x z s E q1 q2 y => by obtain ⟨t, rfl⟩ := q1; obtain ⟨u, rfl⟩ := q2; exact P.add_int ⟨⟨_, rfl⟩, y.tk _⟩
theorem pv_sub {a b : Expr} {pos : Pos} {i j : Int} (h1 : PV X m news Γ a (IsI i)) (h2 : PV X m news Γ b (IsI j)) : PV X m news Γ (.BinOp a .Sub b pos) (IsI (i - j)) :=
  pv_bin h1 h2 fun x z s E q1 q2 y => by obtain ⟨t, rfl⟩ := q1; obtain ⟨u, rfl⟩ := q2; exact P.sub_int ⟨⟨_, rfl⟩, y.tk _⟩
theorem pv_mod {a b : Expr} {pos : Pos} {i j : Int} (h1 : PV X m news Γ a (IsI i)) (h2 : PV X m news Γ b (IsI j)) (h0 : j ≠ 0) : PV X m news Γ (.BinOp a .Mod b pos) (IsI (i.fmod j)) :=
  pv_bin h1 h2 fun x z s E q1 q2 y => by obtain ⟨t, rfl⟩ := q1; obtain ⟨u, rfl⟩ := q2; exact mod_int' h0 ⟨⟨_, rfl⟩, y.tk _⟩
theorem pv_mul {a b : Expr} {pos : Pos} {i j : Int} (h1 : PV X m news Γ a (IsI i)) (h2 : PV X m news Γ b (IsI j)) (h0 : IntMulOk i j) : PV X m news Γ (.BinOp a .Mult b pos) (IsI (i * j)) :=
  pv_bin h1 h2 fun x z s E q1 q2 y => by obtain ⟨t, rfl⟩ := q1; obtain ⟨u, rfl⟩ := q2; exact P.mul_int ⟨⟨_, rfl⟩, y.tk _⟩ h0
theorem pv_fdiv {a b : Expr} {pos : Pos} {i j : Int} (h1 : PV X m news Γ a (IsI i)) (h2 : PV X m news Γ b (IsI j)) (h0 : (j == 0) = false) (hp : Builtin.divisionGoesByPylong i j = false) : PV X m news Γ (.BinOp a .FloorDiv b pos) (IsI (i.fdiv j)) :=
  pv_bin h1 h2 fun x z s E q1 q2 y => by obtain ⟨t, rfl⟩ := q1; obtain ⟨u, rfl⟩ := q2; exact PySem.AutoIntOps.floordiv_1 (by rw [h0]; exact Bool.false_ne_true) (by rw [hp]; exact Bool.false_ne_true) ⟨⟨_, rfl⟩, y.tk _⟩
theorem pv_len {e : Expr} {p1 p2 : Pos} {its : List Value} (h1 : PV X m news Γ e (· = .ref D)) (hm : (D, listOf its.toArray n) ∈ news) (hz : its.length ≤ sizeLine) (h0 : X.env.kindOf "len" = some .globalImplicit := by rfl) (he : starEach [e] X.env = (false, eval e X.env) :: starEach [] X.env := by rfl) :
    PV X m news Γ (.Call (.Name (Str.ofString "len") p1) [e] [] p2) (IsI its.length) := by
  intro E s y
  repeat' walk1
  refine wpAny_mono (pv_boot (y.ok.C.b_len) (by boot_fast) (by decide) h0 (by decide) _ s y) (fun v s' q => ?_) (fun _ _ x => x)
  obtain ⟨rfl, y'⟩ := q
  refine PyProof.Rows.callWith_builtin1 (wpAny_mono (pvs1 h1 he _ _ _ y') (fun vs s2 q => ?_) fun _ _ x => x) he rfl
  obtain ⟨⟨_, rfl, rfl⟩, y2⟩ := q
  have hS : sizeLine = 16777216 := rfl
  exact PyProof.Rows.len_list (y2.z.isList hm) (by rw [List.size_toArray]; exact n_c (n_t hz (Nat.le_refl _)) rfl) ⟨⟨_, by rw [List.size_toArray]⟩, y2.tk _⟩
/-! methods -/
theorem ev_methE {e : Expr} {nf : Str} {p1 p2 : Pos} {x dx g : Addr} {es : List DictEntry} {kvs : List (Str × Value)} {e1 : Expr} {er : List Expr} {pl : Sem Bool} {Q : Value → Shared → Prop} (h1 : PV X m news Γ e (· = .ref x)) (hx : (x, instObj 235 dx) ∈ news) (hd : (dx, dictOf es n) ∈ news) (er' : ERel es kvs)
    (hf : findIn X.K (.ref 235) nf = some (some (.ref g))) (ht : isFn X.K (.ref g) = true) (hk : keepIn X.K (.ref g) = true) (y : Y X m news Γ s)
    (h : ∀ s', Y X m news Γ s' → wpAny (model X.prog X.w) X.A (spliced (backTo p2 (starEach (e1 :: er) X.env))) (fun vs s2 => X.K.In s2.heap ∧ wpAny (model X.prog X.w) X.A (call (.ref g) (.ref x :: vs)) Q E s2) E s')
    (hl : kget nf kvs = none := by rfl) (he : starEach (e1 :: er) X.env = (false, eval e1 X.env) :: starEach er X.env := by rfl) (hplain : (backTo p2 (starEach er X.env)).any (·.1) = false := by rfl)
    (hm : eval (.Call (.Attribute e nf p1) (e1 :: er) [] p2) X.env = (do
      let ov ← eval e X.env
      standAt p1.atName
      let (f, first) ← holding [ov] (getMethod ov nf pl)
      callWith p2 f first (backTo p2 (starEach (e1 :: er) X.env)) (backToKw p2 (keywordEach [] X.env))) := by rfl) :
    wpAny (model X.prog X.w) X.A (eval (.Call (.Attribute e nf p1) (e1 :: er) [] p2) X.env) Q E s := by
  refine methodCall_KW (wpAny_mono (h1 _ s y) (fun v s' q => ?_) fun _ _ x => x) hm
  obtain ⟨rfl, y'⟩ := q
  exact method_inst y'.z.F y'.ok.C.X (inst_at y' hx hd) ((y'.ok.C.KF.plain 235 (.inr rfl)).1 nf) hf ht (by rw [er'.get, hl]) (callWith_K y'.ok.C.X hk (h s' y') he hplain)
theorem ev_meth {e : Expr} {nf : Str} {p1 p2 : Pos} {x dx g : Addr} {es : List DictEntry} {kvs : List (Str × Value)} {e1 : Expr} {er : List Expr} {vp : List Value → Prop} {pl : Sem Bool} {Q : Value → Shared → Prop} (h1 : PV X m news Γ e (· = .ref x)) (hx : (x, instObj 235 dx) ∈ news) (hd : (dx, dictOf es n) ∈ news) (er' : ERel es kvs)
    (hf : findIn X.K (.ref 235) nf = some (some (.ref g))) (ht : isFn X.K (.ref g) = true) (hk : keepIn X.K (.ref g) = true) (hv : PVs X m news Γ (e1 :: er) vp) (y : Y X m news Γ s)
    (h : ∀ vs s', vp vs → Y X m news Γ s' → wpAny (model X.prog X.w) X.A (call (.ref g) (.ref x :: vs)) Q E s')
    (hl : kget nf kvs = none := by rfl) (he : starEach (e1 :: er) X.env = (false, eval e1 X.env) :: starEach er X.env := by rfl) (hplain : (backTo p2 (starEach er X.env)).any (·.1) = false := by rfl)
    (hm : eval (.Call (.Attribute e nf p1) (e1 :: er) [] p2) X.env = (do
      let ov ← eval e X.env
      standAt p1.atName
      let (f, first) ← holding [ov] (getMethod ov nf pl)
      callWith p2 f first (backTo p2 (starEach (e1 :: er) X.env)) (backToKw p2 (keywordEach [] X.env))) := by rfl) :
    wpAny (model X.prog X.w) X.A (eval (.Call (.Attribute e nf p1) (e1 :: er) [] p2) X.env) Q E s :=
  ev_methE h1 hx hd er' hf ht hk y (fun s' y' => wpAny_mono (hv _ _ _ y') (fun vs s2 q => ⟨z_kin q.2.z q.2.ok.C, h vs s2 q.1 q.2⟩) fun _ _ x => x) hl he hplain hm
theorem ev_meth1E {e : Expr} {nf : Str} {p1 p2 : Pos} {x dx g : Addr} {es : List DictEntry} {kvs : List (Str × Value)} {e1 : Expr} {pl : Sem Bool} {Q : Value → Shared → Prop} (h1 : PV X m news Γ e (· = .ref x)) (hx : (x, instObj 235 dx) ∈ news) (hd : (dx, dictOf es n) ∈ news) (er' : ERel es kvs)
    (hf : findIn X.K (.ref 235) nf = some (some (.ref g))) (ht : isFn X.K (.ref g) = true) (hk : keepIn X.K (.ref g) = true) (y : Y X m news Γ s)
    (h : ∀ s', Y X m news Γ s' → wpAny (model X.prog X.w) X.A (eval e1 X.env) (fun v s2 => (∃ m news Γ, Y X m news Γ s2) ∧ wpAny (model X.prog X.w) X.A (call (.ref g) [.ref x, v]) Q E s2) E s')
    (hl : kget nf kvs = none := by rfl) (he : starEach [e1] X.env = (false, eval e1 X.env) :: starEach [] X.env := by rfl)
    (hm : eval (.Call (.Attribute e nf p1) [e1] [] p2) X.env = (do
      let ov ← eval e X.env
      standAt p1.atName
      let (f, first) ← holding [ov] (getMethod ov nf pl)
      callWith p2 f first (backTo p2 (starEach [e1] X.env)) (backToKw p2 (keywordEach [] X.env))) := by rfl) :
    wpAny (model X.prog X.w) X.A (eval (.Call (.Attribute e nf p1) [e1] [] p2) X.env) Q E s :=
  ev_methE h1 hx hd er' hf ht hk y (fun s' y' => spliced_more (wpAny_mono (h s' y') (fun v s2 q => spliced_none ⟨let ⟨_, _, _, y2⟩ := q.1; z_kin y2.z y2.ok.C, q.2⟩) fun _ _ x => x) he) hl he rfl hm
theorem ev_meth0 {e : Expr} {nf : Str} {p1 p2 : Pos} {x dx g : Addr} {es : List DictEntry} {kvs : List (Str × Value)} {pl : Sem Bool} {Q : Value → Shared → Prop} (h1 : PV X m news Γ e (· = .ref x)) (hx : (x, instObj 235 dx) ∈ news) (hd : (dx, dictOf es n) ∈ news) (er' : ERel es kvs)
    (hf : findIn X.K (.ref 235) nf = some (some (.ref g))) (ht : isFn X.K (.ref g) = true) (hk : keepIn X.K (.ref g) = true) (y : Y X m news Γ s)
    (h : ∀ s', Y X m news Γ s' → wpAny (model X.prog X.w) X.A (call (.ref g) [.ref x]) Q E s') (hl : kget nf kvs = none := by rfl)
    (hm : eval (.Call (.Attribute e nf p1) [] [] p2) X.env = (do
      let ov ← eval e X.env
      standAt p1.atName
      let (f, first) ← holding [ov] (getMethod ov nf pl)
      callWith p2 f first (backTo p2 (starEach [] X.env)) (backToKw p2 (keywordEach [] X.env))) := by rfl) :
    wpAny (model X.prog X.w) X.A (eval (.Call (.Attribute e nf p1) [] [] p2) X.env) Q E s := by
  refine methodCall_KW (wpAny_mono (h1 _ s y) (fun v s' q => ?_) fun _ _ x => x) hm
  obtain ⟨rfl, y'⟩ := q
  exact method_inst y'.z.F y'.ok.C.X (inst_at y' hx hd) ((y'.ok.C.KF.plain 235 (.inr rfl)).1 nf) hf ht (by rw [er'.get, hl]) (callWith_K0 (z_kin y'.z y'.ok.C) hk (h s' y'))
/-- a method of a list: any base -/
theorem ev_lm1 {e0 : Expr} {name : Str} {id : String} {e : Expr} {p1 p2 : Pos} {pl : Sem Bool} {Q : Value → Shared → Prop} (hx : PV X m news Γ e0 (· = .ref D)) (hD : (D, listOf its n) ∈ news) (slot : Slot "list" name id) (hty : typeOf (.builtin id) = pure (.type "method_descriptor")) (y : Y X m news Γ s)
    (h : ∀ s', Y X m news Γ s' → wpAny (model X.prog X.w) X.A (eval e X.env) (fun v s2 => wpAny (model X.prog X.w) X.A (call (.builtin id) [.ref D, v]) Q E s2) E s') (he : starEach [e] X.env = (false, eval e X.env) :: starEach [] X.env := by rfl)
    (hm : eval (.Call (.Attribute e0 name p1) [e] [] p2) X.env = (do
      let ov ← eval e0 X.env
      standAt p1.atName
      let (f, first) ← holding [ov] (getMethod ov name pl)
      callWith p2 f first (backTo p2 (starEach [e] X.env)) (backToKw p2 (keywordEach [] X.env))) := by rfl) :
    wpAny (model X.prog X.w) X.A (eval (.Call (.Attribute e0 name p1) [e] [] p2) X.env) Q E s := by
  refine methodCall_KW (wpAny_mono (hx _ s y) (fun v s' q => ?_) fun _ _ x => x) hm
  obtain ⟨rfl, y'⟩ := q
  refine kl_method y'.z.N (List.mem_append_left _ hD) slot hty ?_
  exact callWith_method1 (spliced_more (wpAny_mono (h s' y') (fun v s2 q => spliced_none q) fun _ _ x => x) he) he rfl
theorem ev_lm0 {e0 : Expr} {name : Str} {id : String} {p1 p2 : Pos} {pl : Sem Bool} {Q : Value → Shared → Prop} (hx : PV X m news Γ e0 (· = .ref D)) (hD : (D, listOf its n) ∈ news) (slot : Slot "list" name id) (hty : typeOf (.builtin id) = pure (.type "method_descriptor")) (y : Y X m news Γ s)
    (h : ∀ s', Y X m news Γ s' → wpAny (model X.prog X.w) X.A (call (.builtin id) [.ref D]) Q E s')
    (hm : eval (.Call (.Attribute e0 name p1) [] [] p2) X.env = (do
      let ov ← eval e0 X.env
      standAt p1.atName
      let (f, first) ← holding [ov] (getMethod ov name pl)
      callWith p2 f first (backTo p2 (starEach [] X.env)) (backToKw p2 (keywordEach [] X.env))) := by rfl) :
    wpAny (model X.prog X.w) X.A (eval (.Call (.Attribute e0 name p1) [] [] p2) X.env) Q E s := by
  refine methodCall_KW (wpAny_mono (hx _ s y) (fun v s' q => ?_) fun _ _ x => x) hm
  obtain ⟨rfl, y'⟩ := q
  refine kl_method y'.z.N (List.mem_append_left _ hD) slot hty ?_
  exact callWith_method0 (h s' y')
/-- d.get(k) -/
theorem ev_dget {KT : Type} [DecidableEq KT] {knd : PySem.KeyKind X.prog X.w KT} {e0 e : Expr} {p1 p2 : Pos} {d : Addr} {o : Obj} {kvs : List (KT × Value)} {key : KT} {vp : Value → Prop} {pl : Sem Bool} {Q : Value → Shared → Prop} (hx : PV X m news Γ e0 (· = .ref d)) (hD : (d, o) ∈ news) (hd : o.IsDictOf knd kvs) (lo : (d == sysModules) = false)
    (h2 : PV X m news Γ e vp) (hk : ∀ x, vp x → knd.is key x = true) (y : Y X m news Γ s) (h : ∀ s', Y X m news Γ s' → Q ((valueAt kvs key).getD .none) s') (he : starEach [e] X.env = (false, eval e X.env) :: starEach [] X.env := by rfl)
    (hm : eval (.Call (.Attribute e0 (Str.ofString "get") p1) [e] [] p2) X.env = (do
      let ov ← eval e0 X.env
      standAt p1.atName
      let (f, first) ← holding [ov] (getMethod ov (Str.ofString "get") pl)
      callWith p2 f first (backTo p2 (starEach [e] X.env)) (backToKw p2 (keywordEach [] X.env))) := by rfl) :
    wpAny (model X.prog X.w) X.A (eval (.Call (.Attribute e0 (Str.ofString "get") p1) [e] [] p2) X.env) Q E s := by
  refine methodCall_KW (wpAny_mono (hx _ s y) (fun v s' q => ?_) fun _ _ x => x) hm
  obtain ⟨rfl, y'⟩ := q
  refine kdg_method y'.z.N (List.mem_append_left _ hD) hd ?_
  refine callWith_method1 (spliced_more (wpAny_mono (h2 _ s' y') (fun v s2 q => spliced_none ?_) fun _ _ x => x) he) he rfl
  exact kdg_get1 q.2.z.N (List.mem_append_left _ hD) hd lo (hk _ q.1) _ rfl (h _ (q.2.tk _))
/-! calls -/
theorem Y.own {loc ks : List (Addr × Obj)} (y : Y X m (loc ++ ks) Γ s) (no : ∀ p ∈ ks, ¬ IsT p.2) : Own X.g s.heap ks :=
  ⟨fun p hp => y.z.get (List.mem_append_right _ hp), fun p hp => (y.z.N p (List.mem_append_left _ (List.mem_append_right _ hp))).2.2, no, by have := y.z.nd; rw [List.map_append, List.nodup_append] at this; exact this.2.1⟩
theorem Y.perm {news' : List (Addr × Obj)} (y : Y X m news Γ s) (hs : news'.Perm news) : Y X m news' Γ s := ⟨y.z.perm hs, y.e, y.ok⟩
theorem Y.sub {news' : List (Addr × Obj)} (y : Y X m news Γ s) (hs : news'.Sublist news) : Y X m news' Γ s := ⟨y.z.sub hs, y.e, y.ok⟩
theorem Y.kept {h₀ : Heap} {ks ks' : List (Addr × Obj)} (y : Y X m news Γ s) (h0 : h₀.StaysIn X.g) (hin : ∀ a o, X.b.heap.get? a = some o → a ∉ ks.map (·.1) → X.g.get? a = some o) (hs : ks'.Sublist news) (no : ∀ p ∈ ks', ¬ IsT p.2) : Kept h₀ ks X.b.heap s.heap ks' :=
  y.z.kept h0 hin (fun p hp => hs.subset hp) no (y.z.nd.sublist (hs.map _))
end
end Mine
end
section
open PySem PySem.W PySem.Calls PyProof.Rows PySem.Spec
set_option Elab.async false
set_option maxRecDepth 100000
set_option maxHeartbeats 4000000
set_option linter.unusedVariables false
namespace Mine
section
variable {prog : Program} {w : World} {K : Frag} {A : Around} {E : Value → Shared → Prop} {s : Shared} {h₀ : Heap} {P : Addr → Obj → Prop}
theorem inner_spec {v : V} {x : Value} {Q : Value → Shared → Prop} (C : Cx K h₀) (hk : h₀.StaysIn s.heap) (hh : A.handled = none) (hd : A.depth < 900) (hu : A.units < 8000) (hP : ∀ a o, P a o → s.heap.get? a = some o) (hv : VR P x v.py) (hdep : v.dep ≤ 60)
    (hQ : ∀ l vs n h' t' Γ, Kept h₀ [] s.heap h' [(l, listOf vs.toArray n)] → TupL s.heap h' Γ → VRs P vs (v.parts.map V.py) → Q (.ref l) { s with heap := h', toks := t' }) :
    wpAny (model prog w) A (call (.ref 260) [x]) Q E s := by
  refine enterY (binds := [(Str.ofString "value", x)]) C hk hh (Nat.lt_trans hu (by decide)) Own.nil C.KF.f260 rfl (Nat.lt_trans hd (by decide)) (fun _ _ _ => BindsTo.of_eq rfl) (locs rfl) rfl rfl rfl (by decide) ?_
  intro g L h₁ tk cdv A' X m0 hX0 hX1 hX2 y h0 hL hin
  have hvg : VR (Gt g) x v.py := hv.mono2 (gt_of (h₀ := h₀) Own.nil hin hP)
  have hsh : PySem.SeqAt.shaped v.py = true := shaped_of (V.lay v) (n_suc (n_lt (n_t hdep (Nat.le_refl _)) (n_bl rfl)))
  rcases v.six with ⟨i, rfl⟩ | ⟨a, b, rfl⟩ | rfl | ⟨v, rfl⟩ | ⟨v, rfl⟩ | ⟨W, rest, e1, e2, e3, e4, e5⟩
  · cases hv
    refine y_if_t (pb_or3_t (pb_not_t (pb_isi_f (pv_loc rfl)))) y fun s1 y1 => ?_
    refine y_reteff (ev_list pvs_nil y1 (by decide) (fun vs e => by subst e; rfl) fun vs t s2 e y2 => ?_)
    subst e
    rw [y2.e]
    exact hQ _ [] 0 _ _ _ (y2.z.kept1 h0 hin (.head _) notT_list) (y2.z.tupL hL) .nil
  · refine ctr fun hG5 => ?_; obtain ⟨_, _, _, _, _, rfl, p1, p2, p3, q1⟩ := VR.pv hv; refine hG5 ?_; clear hG5
    have tg : ∀ {Γ}, TT X.g Γ _ _ := fun {Γ} => TT.mk (.inl (hin _ _ (hP _ _ p1) (by simp))) p2 p3
    refine y_if_f (pb_or3_ffr (pb_not_f (pb_isi_t (pv_loc rfl) tg)) (pb_unit_eq (pv_loc rfl) (fun x e => by subst e; exact hvg.inl) false (by simp [V.py, PyData.eqv, PyData.eqvAll]) hsh) (pb_notIn3 (pv_itemS (pv_loc rfl) tg) true (by decide +kernel) (by decide +kernel) (by decide +kernel))) y fun s1 y1 => ?_
    cases q1 with | tuple r1 r2 r3 r4 =>
    have tg2 : ∀ {Γ}, TT X.g Γ _ _ := fun {Γ} => TT.mk (.inl (hin _ _ (hP _ _ r1) (by simp))) r2 r3
    have hl : _ = 2 := r4.length
    refine y_if_t (pb_eqs (pv_itemS (pv_loc rfl) tg) pv_str (by decide +kernel)) y1 fun s2 y2 => ?_
    refine y_reteff (ev_listT (pv_item' (pv_loc rfl) tg) tg2 y2 (by rw [hl]; exact Nat.le_of_ble_eq_true rfl) fun l c s3 y3 => ?_)
    rw [y3.e]
    exact hQ _ _ _ _ _ _ (y3.z.kept1 h0 hin (.head _) notT_list) (y3.z.tupL hL) r4
  · refine ctr fun hG6 => ?_; obtain ⟨_, _, _, _, _, rfl, p1, p2, p3⟩ := VR.pin hv; refine hG6 ?_; clear hG6
    have tg : ∀ {Γ}, TT X.g Γ _ _ := fun {Γ} => TT.mk (.inl (hin _ _ (hP _ _ p1) (by simp))) p2 p3
    refine y_if_f (pb_or3_ffr (pb_not_f (pb_isi_t (pv_loc rfl) tg)) (pb_unit_eq (pv_loc rfl) (fun x e => by subst e; exact hvg.inl) false (by simp [V.py, PyData.eqv, PyData.eqvAll]) hsh) (pb_notIn3 (pv_itemS (pv_loc rfl) tg) true (by decide +kernel) (by decide +kernel) (by decide +kernel))) y fun s1 y1 => ?_
    refine y_if_f (pb_eqs (pv_itemS (pv_loc rfl) tg) pv_str (by decide +kernel)) y1 fun s2 y2 => ?_
    refine y_reteff (ev_ifexp true (pb_isNone (pv_item' (pv_loc rfl) tg) rfl) y2 fun s4 y4 => ev_list pvs_nil y4 (by decide) (fun vs e => by subst e; rfl) fun vs t s5 e y5 => ?_)
    subst e
    rw [y5.e]
    exact hQ _ [] 0 _ _ _ (y5.z.kept1 h0 hin (.head _) notT_list) (y5.z.tupL hL) .nil
  · refine ctr fun hG7 => ?_; obtain ⟨_, _, _, _, _, _, rfl, p1, p2, p3, q1⟩ := VR.ppv hv; refine hG7 ?_; clear hG7
    have tg : ∀ {Γ}, TT X.g Γ _ _ := fun {Γ} => TT.mk (.inl (hin _ _ (hP _ _ p1) (by simp))) p2 p3
    refine y_if_f (pb_or3_ffr (pb_not_f (pb_isi_t (pv_loc rfl) tg)) (pb_unit_eq (pv_loc rfl) (fun x e => by subst e; exact hvg.inl) false (by simp [V.py, PyData.eqv, PyData.eqvAll]) hsh) (pb_notIn3 (pv_itemS (pv_loc rfl) tg) true (by decide +kernel) (by decide +kernel) (by decide +kernel))) y fun s1 y1 => ?_
    refine y_if_f (pb_eqs (pv_itemS (pv_loc rfl) tg) pv_str (by decide +kernel)) y1 fun s2 y2 => ?_
    refine y_reteff (ev_ifexp false (pb_isNone (pv_item' (pv_loc rfl) tg) (VR.notNone q1)) y2 fun s4 y4 => ev_list (pvs1 (pv_item' (pv_loc rfl) tg)) y4 (by decide) (fun vs e => by obtain ⟨_, rfl, _⟩ := e; rfl) fun vs t s5 e y5 => ?_)
    obtain ⟨_, rfl, rfl⟩ := e
    rw [y5.e]
    exact hQ _ _ _ _ _ _ (y5.z.kept1 h0 hin (.head _) notT_list) (y5.z.tupL hL) (.cons q1 .nil)
  · refine ctr fun hG8 => ?_; obtain ⟨_, _, _, _, _, _, rfl, p1, p2, p3, q1, q2⟩ := VR.pvv hv; refine hG8 ?_; clear hG8
    have tg : ∀ {Γ}, TT X.g Γ _ _ := fun {Γ} => TT.mk (.inl (hin _ _ (hP _ _ p1) (by simp))) p2 p3
    refine y_if_f (pb_or3_ffr (pb_not_f (pb_isi_t (pv_loc rfl) tg)) (pb_unit_eq (pv_loc rfl) (fun x e => by subst e; exact hvg.inl) false (by simp [V.py, PyData.eqv, PyData.eqvAll]) hsh) (pb_notIn3 (pv_itemS (pv_loc rfl) tg) true (by decide +kernel) (by decide +kernel) (by decide +kernel))) y fun s1 y1 => ?_
    refine y_if_f (pb_eqs (pv_itemS (pv_loc rfl) tg) pv_str (by decide +kernel)) y1 fun s2 y2 => ?_
    refine y_reteff (ev_ifexp false (pb_isNone (pv_item' (pv_loc rfl) tg) (VR.notNone q2)) y2 fun s4 y4 => ev_list (pvs1 (pv_item' (pv_loc rfl) tg)) y4 (by decide) (fun vs e => by obtain ⟨_, rfl, _⟩ := e; rfl) fun vs t s5 e y5 => ?_)
    obtain ⟨_, rfl, rfl⟩ := e
    rw [y5.e]
    exact hQ _ _ _ _ _ _ (y5.z.kept1 h0 hin (.head _) notT_list) (y5.z.tupL hL) (.cons q2 .nil)
  · have hne : PyData.eqv v.py (.tuple []) = false := by rw [e1]; simp [PyData.eqv, PyData.eqvAll]
    have hW : PyData.canLay0 (.str W) = true := by
      have := (V.lay v).1
      rw [e1] at this
      simp only [PyData.canLay0, PyData.canLayAll0, Bool.and_eq_true] at this ⊢
      exact this.1
    have hany : ([S "agg", S "enum", S "any"] : List PyData).any (fun y => PyData.eqv y (.str W)) = false := by
      simp only [List.any_cons, List.any_nil, PyData.eqv, Bool.or_false]
      rw [BEq.comm, e3, BEq.comm, e4, BEq.comm, e5]; rfl
    rw [e1] at hv
    rw [e2] at hQ
    refine ctr fun hG9 => ?_; obtain ⟨_, _, _, _, _, rfl, p1, p2, p3, q2⟩ := VR.hdp hv; refine hG9 ?_; clear hG9
    have tg : ∀ {Γ}, TT X.g Γ _ _ := fun {Γ} => TT.mk (.inl (hin _ _ (hP _ _ p1) (by simp))) p2 p3
    refine y_if_t (pb_or3_ffr (pb_not_f (pb_isi_t (pv_loc rfl) tg)) (pb_unit_eq (pv_loc rfl) (fun x e => by subst e; exact hvg.inl) false hne hsh) (pb_notIn3 (pv_item0S (pv_loc rfl) tg) false hany (by decide +kernel) hW)) y fun s1 y1 => ?_
    refine y_reteff (ev_list pvs_nil y1 (by decide) (fun vs e => by subst e; rfl) fun vs t s2 e y2 => ?_)
    subst e
    rw [y2.e]
    exact hQ _ [] 0 _ _ _ (y2.z.kept1 h0 hin (.head _) notT_list) (y2.z.tupL hL) .nil
end
end Mine
end
section
open PySem PySem.W PySem.Calls PyProof.Rows PySem.Spec
set_option Elab.async false
set_option maxRecDepth 100000
set_option maxHeartbeats 4000000
set_option linter.unusedVariables false
namespace Mine
section
variable {prog : Program} {w : World} {K : Frag} {A : Around} {E : Value → Shared → Prop} {s : Shared} {h₀ : Heap} {P : Addr → Obj → Prop}
theorem parts_specY {v : V} {x : Value} {Q : Value → Shared → Prop} (C : Cx K h₀) (hk : h₀.StaysIn s.heap) (hh : A.handled = none) (hd : A.depth < 900) (hu : A.units < 8000) (hP : ∀ a o, P a o → s.heap.get? a = some o) (hv : VR P x v.py) (hdep : v.dep ≤ 60)
    (hQ : ∀ t vs o n h' t' Γ, Kept h₀ [] s.heap h' [] → TupL s.heap h' Γ → Or P Γ t o → o.cls = .type "tuple" → o.data = .seq vs.toArray n → VRs P vs (v.parts.map V.py) → Q (.ref t) { s with heap := h', toks := t' }) :
    wpAny (model prog w) A (call (.ref 66) [x]) Q E s := by
  refine enterY (binds := [(Str.ofString "value", x)]) C hk hh (Nat.lt_trans hu (by decide)) Own.nil C.KF.f66 rfl (Nat.lt_trans hd (by decide)) (fun _ _ _ => BindsTo.of_eq rfl) (locs rfl) rfl rfl rfl (by decide) ?_
  intro g L h₁ tk cdv A' X m0 hX0 hX1 hX2 y h0 hL hin
  have hvg : VR (Gt g) x v.py := hv.mono2 (gt_of (h₀ := h₀) Own.nil hin hP)
  have hsh : PySem.SeqAt.shaped v.py = true := shaped_of (V.lay v) (n_suc (n_lt (n_t hdep (Nat.le_refl _)) (n_bl rfl)))
  rcases v.six with ⟨i, rfl⟩ | ⟨a, b, rfl⟩ | rfl | ⟨v, rfl⟩ | ⟨v, rfl⟩ | ⟨W, rest, e1, e2, e3, e4, e5⟩
  · cases hv
    refine y_if_t (pb_or2_t (pb_not_t (pb_isi_f (pv_loc rfl)))) y fun s1 y1 => ?_
    refine y_reteff (ev_tup pvs_nil y1 (by decide) (fun vs e => by subst e; rfl) fun vs t s2 e y2 => ?_)
    subst e
    rw [y2.e]
    exact hQ _ _ _ _ _ _ _ (y2.z.kept0 h0 hin) (y2.z.tupL hL) (.inr (.head _)) rfl rfl .nil
  · refine ctr fun hG308 => ?_; obtain ⟨_, _, _, _, _, rfl, p1, p2, p3, q1⟩ := VR.pv hv; refine hG308 ?_; clear hG308
    have tg : ∀ {Γ}, TT X.g Γ _ _ := fun {Γ} => TT.mk (.inl (hin _ _ (hP _ _ p1) (by simp))) p2 p3
    refine y_if_f (pb_guard rfl tg hvg (by simp [V.py, PyData.eqv, PyData.eqvAll]) hsh) y fun s1 y1 => ?_
    refine y_if_t (pb_eqs (pv_itemS (pv_loc rfl) tg) pv_str (by decide +kernel)) y1 fun s2 y2 => ?_
    refine y_ret (pv_item' (pv_loc rfl) tg) y2 fun v s3 e y3 => ?_
    subst e
    cases q1 with | tuple r1 r2 r3 r4 =>
    rw [y3.e]
    exact hQ _ _ _ _ _ _ _ (y3.z.kept0 h0 hin) (y3.z.tupL hL) (.inl r1) r2 r3 r4
  · refine ctr fun hG309 => ?_; obtain ⟨_, _, _, _, _, rfl, p1, p2, p3⟩ := VR.pin hv; refine hG309 ?_; clear hG309
    have tg : ∀ {Γ}, TT X.g Γ _ _ := fun {Γ} => TT.mk (.inl (hin _ _ (hP _ _ p1) (by simp))) p2 p3
    refine y_if_f (pb_guard rfl tg hvg (by simp [V.py, PyData.eqv, PyData.eqvAll]) hsh) y fun s1 y1 => ?_
    refine y_if_f (pb_eqs (pv_itemS (pv_loc rfl) tg) pv_str (by decide +kernel)) y1 fun s2 y2 => ?_
    refine y_if_t (pb_eqs (pv_itemS (pv_loc rfl) tg) pv_str (by decide +kernel)) y2 fun s3 y3 => ?_
    refine y_reteff (ev_ifexp true (pb_isNone (pv_item' (pv_loc rfl) tg) rfl) y3 fun s4 y4 => ev_tup pvs_nil y4 (by decide) (fun vs e => by subst e; rfl) fun vs t s5 e y5 => ?_)
    subst e
    rw [y5.e]
    exact hQ _ _ _ _ _ _ _ (y5.z.kept0 h0 hin) (y5.z.tupL hL) (.inr (.head _)) rfl rfl .nil
  · refine ctr fun hG310 => ?_; obtain ⟨_, _, _, _, _, _, rfl, p1, p2, p3, q1⟩ := VR.ppv hv; refine hG310 ?_; clear hG310
    have tg : ∀ {Γ}, TT X.g Γ _ _ := fun {Γ} => TT.mk (.inl (hin _ _ (hP _ _ p1) (by simp))) p2 p3
    refine y_if_f (pb_guard rfl tg hvg (by simp [V.py, PyData.eqv, PyData.eqvAll]) hsh) y fun s1 y1 => ?_
    refine y_if_f (pb_eqs (pv_itemS (pv_loc rfl) tg) pv_str (by decide +kernel)) y1 fun s2 y2 => ?_
    refine y_if_t (pb_eqs (pv_itemS (pv_loc rfl) tg) pv_str (by decide +kernel)) y2 fun s3 y3 => ?_
    refine y_reteff (ev_ifexp false (pb_isNone (pv_item' (pv_loc rfl) tg) (VR.notNone q1)) y3 fun s4 y4 => ev_tup (pvs1 (pv_item' (pv_loc rfl) tg)) y4 (by decide) (fun vs e => by obtain ⟨_, rfl, _⟩ := e; rfl) fun vs t s5 e y5 => ?_)
    obtain ⟨_, rfl, rfl⟩ := e
    rw [y5.e]
    exact hQ _ _ _ _ _ _ _ (y5.z.kept0 h0 hin) (y5.z.tupL hL) (.inr (.head _)) rfl rfl (.cons q1 .nil)
  · refine ctr fun hG311 => ?_; obtain ⟨_, _, _, _, _, _, rfl, p1, p2, p3, q1, q2⟩ := VR.pvv hv; refine hG311 ?_; clear hG311
    have tg : ∀ {Γ}, TT X.g Γ _ _ := fun {Γ} => TT.mk (.inl (hin _ _ (hP _ _ p1) (by simp))) p2 p3
    refine y_if_f (pb_guard rfl tg hvg (by simp [V.py, PyData.eqv, PyData.eqvAll]) hsh) y fun s1 y1 => ?_
    refine y_if_f (pb_eqs (pv_itemS (pv_loc rfl) tg) pv_str (by decide +kernel)) y1 fun s2 y2 => ?_
    refine y_if_f (pb_eqs (pv_itemS (pv_loc rfl) tg) pv_str (by decide +kernel)) y2 fun s3 y3 => ?_
    refine y_reteff (ev_ifexp true (pb_eqs (pv_itemS (pv_loc rfl) tg) pv_str (by decide +kernel)) y3 fun s4 y4 => ev_tup (pvs1 (pv_item' (pv_loc rfl) tg)) y4 (by decide) (fun vs e => by obtain ⟨_, rfl, _⟩ := e; rfl) fun vs t s5 e y5 => ?_)
    obtain ⟨_, rfl, rfl⟩ := e
    rw [y5.e]
    exact hQ _ _ _ _ _ _ _ (y5.z.kept0 h0 hin) (y5.z.tupL hL) (.inr (.head _)) rfl rfl (.cons q2 .nil)
  · have hne : PyData.eqv v.py (.tuple []) = false := by rw [e1]; simp [PyData.eqv, PyData.eqvAll]
    rw [e1] at hv
    rw [e2] at hQ
    refine ctr fun hG312 => ?_; obtain ⟨_, _, _, _, _, rfl, p1, p2, p3, q2⟩ := VR.hdp hv; refine hG312 ?_; clear hG312
    have tg : ∀ {Γ}, TT X.g Γ _ _ := fun {Γ} => TT.mk (.inl (hin _ _ (hP _ _ p1) (by simp))) p2 p3
    refine y_if_f (pb_guard rfl tg hvg hne hsh) y fun s1 y1 => ?_
    refine y_if_f (pb_eqs (pv_item0S (pv_loc rfl) tg) pv_str e3) y1 fun s2 y2 => ?_
    refine y_if_f (pb_eqs (pv_item0S (pv_loc rfl) tg) pv_str e4) y2 fun s3 y3 => ?_
    refine y_reteff (ev_ifexp false (pb_eqs (pv_item0S (pv_loc rfl) tg) pv_str e5) y3 fun s4 y4 => ev_tup pvs_nil y4 (by decide) (fun vs e => by subst e; rfl) fun vs t s5 e y5 => ?_)
    subst e
    rw [y5.e]
    exact hQ _ _ _ _ _ _ _ (y5.z.kept0 h0 hin) (y5.z.tupL hL) (.inr (.head _)) rfl rfl .nil
end
end Mine
end
section
open PySem PySem.W PySem.Calls PyProof.Rows PySem.Spec
set_option Elab.async false
set_option maxRecDepth 100000
set_option maxHeartbeats 4000000
set_option linter.unusedVariables false
namespace Mine
theorem V.kinds (v : V) : (∃ i, v = .int i) ∨ (∃ k n, v = .hold k n) ∨ (∃ n, v = .fn n) ∨ v = .weak0 ∨ (∃ n, v = .soft true n) ∨ (∃ n, v = .soft false n) ∨
    (∃ W rest, v.py = .tuple (.str W :: rest) ∧ (∀ y ∈ ([Str.ofString "ref", Str.ofString "buf", Str.ofString "box", Str.ofString "fn", Str.ofString "unowned", Str.ofString "weak"] : List Str), (W == y) = false) ∧ v.links = v.parts.flatMap V.links ∧ (v.parts.map V.size).sum < v.size ∧ (∀ p ∈ v.parts, p.dep < v.dep)) := by
  have key : ∀ W : Str, (∀ y ∈ ([Str.ofString "ref", Str.ofString "buf", Str.ofString "box", Str.ofString "fn", Str.ofString "unowned", Str.ofString "weak"] : List Str), (W == y) = false) ↔ ([Str.ofString "ref", Str.ofString "buf", Str.ofString "box", Str.ofString "fn", Str.ofString "unowned", Str.ofString "weak"] : List Str).all (fun y => !(W == y)) = true := fun W => by simp
  cases v with
  | int i => exact .inl ⟨_, rfl⟩
  | hold k n => exact .inr (.inl ⟨_, _, rfl⟩)
  | fn n => exact .inr (.inr (.inl ⟨_, rfl⟩))
  | weak0 => exact .inr (.inr (.inr (.inl rfl)))
  | soft u n => cases u
                · exact .inr (.inr (.inr (.inr (.inr (.inl ⟨_, rfl⟩)))))
                · exact .inr (.inr (.inr (.inr (.inl ⟨_, rfl⟩))))
  | agg a b => exact .inr (.inr (.inr (.inr (.inr (.inr ⟨_, _, rfl, (key _).mpr (by decide +kernel), by simp [V.parts, V.links], by simp [V.parts, V.size], by simp [V.parts, V.dep]; lia⟩)))))
  | enum0 => exact .inr (.inr (.inr (.inr (.inr (.inr ⟨_, _, rfl, (key _).mpr (by decide +kernel), by simp [V.parts, V.links], by simp [V.parts, V.size], by simp [V.parts]⟩)))))
  | enum1 u => exact .inr (.inr (.inr (.inr (.inr (.inr ⟨_, _, rfl, (key _).mpr (by decide +kernel), by simp [V.parts, V.links], by simp [V.parts, V.size], by simp [V.parts, V.dep]⟩)))))
  | any u => exact .inr (.inr (.inr (.inr (.inr (.inr ⟨_, _, rfl, (key _).mpr (by decide +kernel), by simp [V.parts, V.links], by simp [V.parts, V.size], by simp [V.parts, V.dep]⟩)))))
theorem V.size_pos (v : V) : 1 ≤ v.size := by cases v <;> simp [V.size]
theorem sizes_len (l : List V) : l.length ≤ (l.map V.size).sum := by
  induction l with
  | nil => simp
  | cons a l ih => have := V.size_pos a; simp; lia
theorem V.links_len (v : V) : v.links.length ≤ v.size := by
  induction v with
  | soft u n => cases u <;> simp [V.links, V.size]
  | agg a b ha hb => simp [V.links, V.size]; lia
  | enum1 v h => simp [V.links, V.size]; exact n_r h
  | any v h => simp [V.links, V.size]; exact n_r h
  | _ => simp [V.links, V.size]

/-- the loop of counted_in -/
noncomputable def CInv (X : Fn) (v : V) (n : Nat) (s' : Shared) : Prop := ∃ m fl wl its k1 ws k2 Γ, ∃ done : List Link, ∃ stk : List V,
  Y X m [(wl, listOf ws.toArray k2), (fl, listOf its k1)] Γ s' ∧ m "found" = some (.ref fl) ∧ m "waiting" = some (.ref wl) ∧ VRs (Or No Γ) its.toList (done.map Link.py) ∧ VRs (Or (Gt X.g) Γ) ws (stk.reverse.map V.py) ∧
  done ++ stk.flatMap V.links = v.links ∧ (∀ u ∈ stk, u.dep ≤ 60) ∧ n = (stk.map V.size).sum ∧ done.length + n ≤ v.size
theorem CInv.next {X : Fn} {s : Shared} {v : V} {n : Nat} {m : Str → Option Value} {fl wl : Addr} {its : Array Value} {k1 : Nat} {ws : List Value} {k2 : Nat} {Γ : List (Addr × Obj)} {done : List Link} {stk : List V}
    (y : Y X m [(wl, listOf ws.toArray k2), (fl, listOf its k1)] Γ s) (m1 : m "found" = some (.ref fl)) (m2 : m "waiting" = some (.ref wl)) (hi : VRs (Or No Γ) its.toList (done.map Link.py)) (hw : VRs (Or (Gt X.g) Γ) ws (stk.reverse.map V.py))
    (hl : done ++ stk.flatMap V.links = v.links) (hd : ∀ u ∈ stk, u.dep ≤ 60) (hlt : (stk.map V.size).sum < n) (hn : done.length + (stk.map V.size).sum ≤ v.size) : Less (CInv X v) n s :=
  ⟨_, hlt, _, _, _, _, _, _, _, _, _, _, y, m1, m2, hi, hw, hl, hd, rfl, hn⟩
section
variable {prog : Program} {w : World} {K : Frag} {A : Around} {E : Value → Shared → Prop} {s : Shared} {h₀ : Heap} {P : Addr → Obj → Prop}
theorem counted_spec {v : V} {x : Value} {Q : Value → Shared → Prop} (C : Cx K h₀) (hk : h₀.StaysIn s.heap) (hh : A.handled = none) (hd : A.depth < 890) (hu : A.units < 7990) (hP : ∀ a o, P a o → s.heap.get? a = some o) (hv : VR P x v.py) (hdep : v.dep ≤ 60) (hsz : v.size ≤ 2 ^ 22)
    (hQ : ∀ l vs n h' t' Γ, Kept h₀ [] s.heap h' [(l, listOf vs.toArray n)] → TupL s.heap h' Γ → VRs (Or No Γ) vs (v.links.map Link.py) → Q (.ref l) { s with heap := h', toks := t' }) :
    wpAny (model prog w) A (call (.ref 73) [x]) Q E s := by
  refine enterY (binds := [(Str.ofString "value", x)]) C hk hh (Nat.lt_trans hu (by decide)) Own.nil C.KF.f73 rfl (Nat.lt_trans hd (by decide)) (fun _ _ _ => BindsTo.of_eq rfl) (locs rfl) rfl rfl rfl (by decide) ?_
  intro g L h₁ tk cdv A' X m0 hX0 hX1 hX2 y h0 hL hin
  have hvg : VR (Gt g) x v.py := hv.mono2 (gt_of (h₀ := h₀) Own.nil hin hP)
  refine y_asgT2 (ev_tup2E (ev_list pvs_nil y (by decide) (fun vs e => by subst e; rfl) fun vs fl s1 e y1 => ev_list (pvs1 (pv_loc rfl)) y1 (by decide) (fun vs e => by obtain ⟨_, rfl, _⟩ := e; rfl) fun ws wl s2 e2 y2 => ⟨_, _, _, y2, fun t s3 y3 => ⟨t, _, _, _, _, _, rfl, TT.mk (.inr (.head _)) rfl rfl, y3, fun s4 y4 => ?_⟩⟩))
  subst e
  obtain ⟨_, rfl, rfl⟩ := e2
  refine y_while (CInv X v) _ ⟨_, _, _, _, _, [_], _, _, [], [v], y4, up_hit, up_skip up_hit, .nil, .cons hvg.inl .nil, by simp, by simp [hdep], rfl, by simp⟩ ?_
  intro n s' hJJ; refine ctr fun hG296 => ?_; obtain ⟨m, fl, wl, its, k1, ws, k2, Γ, done, stk, y, m1, m2, hi, hw, hl, hde, rfl, hn⟩ := hJJ; refine hG296 ?_; clear hG296
  have hlen : done.length = its.size := by simpa using hi.length.symm
  cases stk with
  | nil =>
    cases hw
    refine .inr ⟨_, _, _, y, pb_list (pv_loc m2) (.head _) false rfl (by decide), fun s5 y5 => ?_⟩
    simp only [List.flatMap_nil, List.append_nil] at hl
    subst hl
    refine y_ret (pv_loc m1) y5 fun r s6 e y6 => ?_
    subst e
    rw [y6.e]
    exact hQ _ its.toList _ _ _ _ (y6.z.kept1 h0 hin (.tail _ (.head _)) notT_list) (y6.z.tupL hL) hi
  | cons u stk =>
    rw [List.reverse_cons, List.map_append] at hw
    refine ctr fun hG297 => ?_; obtain ⟨ws, yv, rfl, hw2, hy⟩ := hw.snoc; refine hG297 ?_; clear hG297
    have hud := hde u (.head _)
    have hwl : stk.length = ws.length := by simpa using hw2.length.symm
    have hstk := sizes_len stk
    have hn2 : done.length + (u.size + (stk.map V.size).sum) ≤ v.size := by simpa using hn
    have hup := u.size_pos
    have hS : sizeLine = 16777216 := rfl
    have hlt : (stk.map V.size).sum < ((u :: stk).map V.size).sum := by simp; lia
    simp only [List.flatMap_cons] at hl
    have hyv := hy
    have hla := u.lay.1
    have hsh : PySem.SeqAt.shaped u.py = true := shaped_of (V.lay u) (n_suc (n_lt (n_t hud (Nat.le_refl _)) (n_bl rfl)))
    have hroom : (ws ++ [yv]).length ≤ sizeLine := by simp; exact n_suc (n_lt (n_f hwl (n_t hstk (n_s hlt (n_t (n_ar hn) (n_t hsz (Nat.le_refl _)))))) (n_bl rfl))
    refine .inl ⟨_, _, _, y, pb_list (pv_loc m2) (.head _) true (by simp) hroom, fun E' s5 y5 => ?_⟩
    refine y_asgeff (ev_lmeth0 (pv_loc m2) .head PySem.F.slot_list_pop rfl y5 fun s6 y6 => c_pop y6 .head hroom fun s7 k7 y7 => y_store y7 fun s8 y8 => ?_)
    rcases u.kinds with ⟨i, rfl⟩ | ⟨k, j, rfl⟩ | ⟨j, rfl⟩ | rfl | ⟨j, rfl⟩ | ⟨j, rfl⟩ | ⟨W, rest, e1, e2, e3, e4, e5⟩
    · cases hy
      refine y_if_f (pb_and2_f (pb_isi_f (pv_loc up_hit))) y8 fun s9 y9 => y_nil ?_
      exact CInv.next y9 (up_skip m1) (up_skip m2) hi hw2 hl (fun q hq => hde q (.tail _ hq)) hlt (by lia)
    · have h3 : ([S "ref", S "buf", S "box"] : List PyData).any (fun y => PyData.eqv y (.str k.word)) = true := by cases k <;> decide +kernel
      have h4 : PyData.canLay0 (.str k.word) = true := by cases k <;> decide +kernel
      refine ctr fun hG298 => ?_; obtain ⟨_, _, _, _, _, rfl, p1, p2, p3⟩ := VR.two hy; refine hG298 ?_; clear hG298
      have tg : TT X.g Γ _ _ := TT.mk p1 p2 p3
      refine y_if_t (pb_and2_tr (pb_isi_t (pv_loc up_hit) tg) (pb_unit_ne (pv_loc up_hit) (fun x e => by subst e; exact hyv) false (by simp [V.py, PyData.eqv, PyData.eqvAll]) hsh)) y8 fun s9 y9 => ?_
      refine y_asg (pv_itemS (pv_loc up_hit) tg) y9 fun wv s10 e y10 => ?_
      obtain ⟨wt, rfl⟩ := e
      refine y_if_t (pb_counted ((pv_loc up_hit).mono fun v e => ⟨_, e⟩) true h3 h4) y10 fun s11 y11 => ?_
      refine y_expr (ev_lmeth1 (pv_loc (up_skip (up_skip m1))) (.tail .head) PySem.F.slot_list_append rfl y11 fun s12 y12 => ev_tup (pvs2 pv_str (pv_item' (pv_loc (up_skip up_hit)) tg)) y12 (by decide) (fun vs e => by obtain ⟨_, _, rfl, _⟩ := e; rfl) fun vs t s13 e y13 => ?_)
      refine ctr fun hG299 => ?_; obtain ⟨_, _, rfl, ⟨_, rfl⟩, rfl⟩ := e; refine hG299 ?_; clear hG299
      refine c_append y13 (.tail .head) (n_f hlen (n_t (n_al hn) (n_t hsz (n_b rfl)))) fun s14 k14 y14 => y_nil (y_nil (y_nil ?_))
      exact CInv.next (done := done ++ [(.strong, j)]) y14 (up_skip (up_skip m1)) (up_skip (up_skip m2)) (VRs.link .strong (.head _) hi.up1) hw2.up1 (by simpa [V.links] using hl) (fun q hq => hde q (.tail _ hq)) hlt (by simp; lia)
    · have h3 : ([S "ref", S "buf", S "box"] : List PyData).any (fun y => PyData.eqv y (S "fn")) = false := by decide +kernel
      refine ctr fun hG300 => ?_; obtain ⟨_, _, _, _, _, _, rfl, p1, p2, p3⟩ := VR.three hy; refine hG300 ?_; clear hG300
      have tg : TT X.g Γ _ _ := TT.mk p1 p2 p3
      refine y_if_t (pb_and2_tr (pb_isi_t (pv_loc up_hit) tg) (pb_unit_ne (pv_loc up_hit) (fun x e => by subst e; exact hyv) false (by simp [V.py, PyData.eqv, PyData.eqvAll]) hsh)) y8 fun s9 y9 => ?_
      refine y_asg (pv_itemS (pv_loc up_hit) tg) y9 fun wv s10 e y10 => ?_
      obtain ⟨wt, rfl⟩ := e
      refine y_if_e (pb_counted ((pv_loc up_hit).mono fun v e => ⟨_, e⟩) false h3 (by decide +kernel)) y10 fun s11 y11 => ?_
      refine y_if_t (pb_and2_tr (pb_eqs ((pv_loc up_hit).mono fun v e => ⟨_, e⟩) pv_str (by decide +kernel)) (pb_nei ((pv_item' (pv_loc (up_skip up_hit)) tg).mono fun v e => ⟨_, e⟩) pv_int (by simp; exact n_z))) y11 fun s11 y11 => ?_
      refine y_expr (ev_lmeth1 (pv_loc (up_skip (up_skip m1))) (.tail .head) PySem.F.slot_list_append rfl y11 fun s12 y12 => ev_tup (pvs2 pv_str (pv_item' (pv_loc (up_skip up_hit)) tg)) y12 (by decide) (fun vs e => by obtain ⟨_, _, rfl, _⟩ := e; rfl) fun vs t s13 e y13 => ?_)
      refine ctr fun hG301 => ?_; obtain ⟨_, _, rfl, ⟨_, rfl⟩, rfl⟩ := e; refine hG301 ?_; clear hG301
      refine c_append y13 (.tail .head) (n_f hlen (n_t (n_al hn) (n_t hsz (n_b rfl)))) fun s14 k14 y14 => y_nil (y_nil (y_nil (y_nil ?_)))
      exact CInv.next (done := done ++ [(.strong, j)]) y14 (up_skip (up_skip m1)) (up_skip (up_skip m2)) (VRs.link .strong (.head _) hi.up1) hw2.up1 (by simpa [V.links] using hl) (fun q hq => hde q (.tail _ hq)) hlt (by simp; lia)
    · have h3 : ([S "ref", S "buf", S "box"] : List PyData).any (fun y => PyData.eqv y (S "weak")) = false := by decide +kernel
      refine ctr fun hG302 => ?_; obtain ⟨_, _, _, _, _, rfl, p1, p2, p3⟩ := VR.two hy; refine hG302 ?_; clear hG302
      have tg : TT X.g Γ _ _ := TT.mk p1 p2 p3
      refine y_if_t (pb_and2_tr (pb_isi_t (pv_loc up_hit) tg) (pb_unit_ne (pv_loc up_hit) (fun x e => by subst e; exact hyv) false (by simp [V.py, PyData.eqv, PyData.eqvAll]) hsh)) y8 fun s9 y9 => ?_
      refine y_asg (pv_itemS (pv_loc up_hit) tg) y9 fun wv s10 e y10 => ?_
      obtain ⟨wt, rfl⟩ := e
      refine y_if_e (pb_counted ((pv_loc up_hit).mono fun v e => ⟨_, e⟩) false h3 (by decide +kernel)) y10 fun s11 y11 => ?_
      refine y_if_e (pb_and2_f (pb_eqs ((pv_loc up_hit).mono fun v e => ⟨_, e⟩) pv_str (by decide +kernel))) y11 fun s11 y11 => ?_
      refine y_if_e (pb_or2_fr (pb_eqs ((pv_loc up_hit).mono fun v e => ⟨_, e⟩) pv_str (by decide +kernel)) (pb_and2_tr (pb_eqs ((pv_loc up_hit).mono fun v e => ⟨_, e⟩) pv_str (by decide +kernel)) (pb_nei ((pv_item' (pv_loc (up_skip up_hit)) tg).mono fun v e => ⟨_, e⟩) pv_int (by decide)))) y11 fun s11 y11 => ?_
      refine y_expr (ev_lmeth1 (pv_loc (up_skip (up_skip m2))) .head PySem.F.slot_list_extend rfl y11 fun s12 y12 => ev_revT (ev_call y12.ok.C.g_parts_of y12.ok.C.k_parts_of (pvs1 (pv_loc (up_skip up_hit))) y12 fun vs s13 e y13 => ?_))
      obtain rfl := Va1.eq e
      refine parts_specY (v := .weak0) (P := Or (Gt g) Γ) y13.ok.C y13.st hX0 (lvA hX1 hd) (lvC hX2 hu) y13.z.has hyv hud ?_
      intro t vs o n h' t' Γ' kk tl ho hc hd' hvs
      have hvl : vs.length = (V.parts .weak0).length := by simpa using hvs.length
      have hv0 : vs = [] := by cases hvs; rfl
      have hv1 : vs.length = 0 := by rw [hv0]; rfl
      refine ⟨t, vs, _, _, _, rfl, TT.mk (or_or ho) hc hd', y13.call0 kk tl, by exact n_e hv1 (n_b rfl), fun t2 s14 y14 => c_extendT y14 .head (.head _) (by simp only [List.size_toArray, List.length_reverse]; exact n_t (n_a (n_f hwl (n_t hstk (n_s hlt (n_t (n_ar hn) (n_t hsz (Nat.le_refl _)))))) (n_e hv1 (Nat.le_refl _))) (n_b rfl)) fun s15 k15 y15 => y_nil (y_nil (y_nil (y_nil (y_nil ?_))))⟩
      subst hv0
      exact CInv.next y15 (up_skip (up_skip m1)) (up_skip (up_skip m2)) hi.upA.up1 (by rw [List.reverse_nil, List.append_nil]; exact hw2.upA.up1) (by simpa [V.links] using hl) (fun q hq => hde q (.tail _ hq)) hlt (by lia)
    · have h3 : ([S "ref", S "buf", S "box"] : List PyData).any (fun y => PyData.eqv y (S "unowned")) = false := by decide +kernel
      refine ctr fun hG303 => ?_; obtain ⟨_, _, _, _, _, rfl, p1, p2, p3⟩ := VR.two hy; refine hG303 ?_; clear hG303
      have tg : TT X.g Γ _ _ := TT.mk p1 p2 p3
      refine y_if_t (pb_and2_tr (pb_isi_t (pv_loc up_hit) tg) (pb_unit_ne (pv_loc up_hit) (fun x e => by subst e; exact hyv) false (by simp [V.py, PyData.eqv, PyData.eqvAll]) hsh)) y8 fun s9 y9 => ?_
      refine y_asg (pv_itemS (pv_loc up_hit) tg) y9 fun wv s10 e y10 => ?_
      obtain ⟨wt, rfl⟩ := e
      refine y_if_e (pb_counted ((pv_loc up_hit).mono fun v e => ⟨_, e⟩) false h3 (by decide +kernel)) y10 fun s11 y11 => ?_
      refine y_if_e (pb_and2_f (pb_eqs ((pv_loc up_hit).mono fun v e => ⟨_, e⟩) pv_str (by decide +kernel))) y11 fun s11 y11 => ?_
      refine y_if_t (pb_or2_t (pb_eqs ((pv_loc up_hit).mono fun v e => ⟨_, e⟩) pv_str (by decide +kernel))) y11 fun s11 y11 => ?_
      refine y_expr (ev_lmeth1 (pv_loc (up_skip (up_skip m1))) (.tail .head) PySem.F.slot_list_append rfl y11 fun s12 y12 => ev_tup (pvs2 (pv_loc up_hit) (pv_item' (pv_loc (up_skip up_hit)) tg)) y12 (by decide) (fun vs e => by obtain ⟨_, _, rfl, _⟩ := e; rfl) fun vs t s13 e y13 => ?_)
      refine ctr fun hG304 => ?_; obtain ⟨_, _, rfl, rfl, rfl⟩ := e; refine hG304 ?_; clear hG304
      refine c_append y13 (.tail .head) (n_f hlen (n_t (n_al hn) (n_t hsz (n_b rfl)))) fun s14 k14 y14 => y_nil (y_nil (y_nil (y_nil (y_nil ?_))))
      exact CInv.next (done := done ++ [(.unowned, j)]) y14 (up_skip (up_skip m1)) (up_skip (up_skip m2)) (VRs.link .unowned (.head _) hi.up1) hw2.up1 (by simpa [V.links] using hl) (fun q hq => hde q (.tail _ hq)) hlt (by simp; lia)
    · have h3 : ([S "ref", S "buf", S "box"] : List PyData).any (fun y => PyData.eqv y (S "weak")) = false := by decide +kernel
      refine ctr fun hG305 => ?_; obtain ⟨_, _, _, _, _, rfl, p1, p2, p3⟩ := VR.two hy; refine hG305 ?_; clear hG305
      have tg : TT X.g Γ _ _ := TT.mk p1 p2 p3
      refine y_if_t (pb_and2_tr (pb_isi_t (pv_loc up_hit) tg) (pb_unit_ne (pv_loc up_hit) (fun x e => by subst e; exact hyv) false (by simp [V.py, PyData.eqv, PyData.eqvAll]) hsh)) y8 fun s9 y9 => ?_
      refine y_asg (pv_itemS (pv_loc up_hit) tg) y9 fun wv s10 e y10 => ?_
      obtain ⟨wt, rfl⟩ := e
      refine y_if_e (pb_counted ((pv_loc up_hit).mono fun v e => ⟨_, e⟩) false h3 (by decide +kernel)) y10 fun s11 y11 => ?_
      refine y_if_e (pb_and2_f (pb_eqs ((pv_loc up_hit).mono fun v e => ⟨_, e⟩) pv_str (by decide +kernel))) y11 fun s11 y11 => ?_
      refine y_if_t (pb_or2_fr (pb_eqs ((pv_loc up_hit).mono fun v e => ⟨_, e⟩) pv_str (by decide +kernel)) (pb_and2_tr (pb_eqs ((pv_loc up_hit).mono fun v e => ⟨_, e⟩) pv_str (by decide +kernel)) (pb_nei ((pv_item' (pv_loc (up_skip up_hit)) tg).mono fun v e => ⟨_, e⟩) pv_int (by simp; exact n_z)))) y11 fun s11 y11 => ?_
      refine y_expr (ev_lmeth1 (pv_loc (up_skip (up_skip m1))) (.tail .head) PySem.F.slot_list_append rfl y11 fun s12 y12 => ev_tup (pvs2 (pv_loc up_hit) (pv_item' (pv_loc (up_skip up_hit)) tg)) y12 (by decide) (fun vs e => by obtain ⟨_, _, rfl, _⟩ := e; rfl) fun vs t s13 e y13 => ?_)
      refine ctr fun hG306 => ?_; obtain ⟨_, _, rfl, rfl, rfl⟩ := e; refine hG306 ?_; clear hG306
      refine c_append y13 (.tail .head) (n_f hlen (n_t (n_al hn) (n_t hsz (n_b rfl)))) fun s14 k14 y14 => y_nil (y_nil (y_nil (y_nil (y_nil ?_))))
      exact CInv.next (done := done ++ [(.weak, j)]) y14 (up_skip (up_skip m1)) (up_skip (up_skip m2)) (VRs.link .weak (.head _) hi.up1) hw2.up1 (by simpa [V.links] using hl) (fun q hq => hde q (.tail _ hq)) hlt (by simp; lia)
    · have eF := e2 (Str.ofString "fn") (by simp)
      have eU := e2 (Str.ofString "unowned") (by simp)
      have eK := e2 (Str.ofString "weak") (by simp)
      have h3 : ([S "ref", S "buf", S "box"] : List PyData).any (fun y => PyData.eqv y (.str W)) = false := by
        simp only [List.any_cons, List.any_nil, PyData.eqv, Bool.or_false]
        rw [BEq.comm, e2 _ (.head _), BEq.comm, e2 _ (.tail _ (.head _)), BEq.comm, e2 _ (.tail _ (.tail _ (.head _)))]; rfl
      have hW : PyData.canLay0 (.str W) = true := by
        rw [e1] at hla
        simp only [PyData.canLay0, PyData.canLayAll0, Bool.and_eq_true] at hla ⊢
        exact hla.1
      have hne : PyData.eqv u.py (.tuple []) = false := by rw [e1]; simp [PyData.eqv, PyData.eqvAll]
      have hvl2 := sizes_len u.parts
      rw [e1] at hy
      refine ctr fun hG307 => ?_; obtain ⟨_, _, _, _, _, rfl, p1, p2, p3, q2⟩ := VR.hdp hy; refine hG307 ?_; clear hG307
      have tg : TT X.g Γ _ _ := TT.mk p1 p2 p3
      refine y_if_t (pb_and2_tr (pb_isi_t (pv_loc up_hit) tg) (pb_unit_ne (pv_loc up_hit) (fun x e => by subst e; exact hyv) false hne hsh)) y8 fun s9 y9 => ?_
      refine y_asg (pv_item0S (pv_loc up_hit) tg) y9 fun wv s10 e y10 => ?_
      obtain ⟨wt, rfl⟩ := e
      refine y_if_e (pb_counted ((pv_loc up_hit).mono fun v e => ⟨_, e⟩) false h3 hW) y10 fun s11 y11 => ?_
      refine y_if_e (pb_and2_f (pb_eqs ((pv_loc up_hit).mono fun v e => ⟨_, e⟩) pv_str eF)) y11 fun s11 y11 => ?_
      refine y_if_e (pb_or2_fr (pb_eqs ((pv_loc up_hit).mono fun v e => ⟨_, e⟩) pv_str eU) (pb_and2_f (pb_eqs ((pv_loc up_hit).mono fun v e => ⟨_, e⟩) pv_str eK))) y11 fun s11 y11 => ?_
      refine y_expr (ev_lmeth1 (pv_loc (up_skip (up_skip m2))) .head PySem.F.slot_list_extend rfl y11 fun s12 y12 => ev_revT (ev_call y12.ok.C.g_parts_of y12.ok.C.k_parts_of (pvs1 (pv_loc (up_skip up_hit))) y12 fun vs s13 e y13 => ?_))
      obtain rfl := Va1.eq e
      refine parts_specY (v := u) (P := Or (Gt g) Γ) y13.ok.C y13.st hX0 (lvA hX1 hd) (lvC hX2 hu) y13.z.has hyv hud ?_
      intro t vs o n h' t' Γ' kk tl ho hc hd' hvs
      have hvl : vs.length = (V.parts u).length := by simpa using hvs.length
      refine ⟨t, vs, _, _, _, rfl, TT.mk (or_or ho) hc hd', y13.call0 kk tl, by lia, fun t2 s14 y14 => c_extendT y14 .head (.head _) (by simp only [List.size_toArray, List.length_reverse]; lia) fun s15 k15 y15 => y_nil (y_nil (y_nil (y_nil (y_nil ?_))))⟩
      have hv3 := hvs.reverse
      rw [← List.map_reverse] at hv3
      exact CInv.next (stk := u.parts ++ stk) y15 (up_skip (up_skip m1)) (up_skip (up_skip m2)) hi.upA.up1 (by rw [List.reverse_append, List.map_append]; exact VRs.append hw2.upA.up1 hv3.upA.up1) (by rw [List.flatMap_append, ← e3]; exact hl) (fun q hq => (List.mem_append.mp hq).elim (fun hq => Nat.le_trans (Nat.le_of_lt (e5 q hq)) hud) fun hq => hde q (.tail _ hq)) (by simp only [List.map_cons, List.sum_cons, List.map_append, List.sum_append_nat]; exact Nat.add_lt_add_right e4 _) (by simp only [List.map_append, List.sum_append_nat]; lia)
end
end Mine
end
section
open PySem PySem.W PySem.Calls PyProof.Rows PySem.Spec
set_option Elab.async false
set_option maxRecDepth 100000
set_option maxHeartbeats 4000000
set_option linter.unusedVariables false
namespace Mine
theorem sizes_mem {l : List V} {v : V} (h : v ∈ l) : v.size ≤ (l.map V.size).sum := by
  obtain ⟨a, b, rfl⟩ := List.append_of_mem h
  simp; lia
theorem links_sum (l : List V) : (l.flatMap V.links).length ≤ (l.map V.size).sum := by
  induction l with
  | nil => simp
  | cons a l ih => have := V.links_len a; simp only [List.flatMap_cons, List.length_append, List.map_cons, List.sum_cons]; exact n_a this ih
theorem links_take (l : List V) (i : Nat) : ((l.take i).flatMap V.links).length ≤ (l.map V.size).sum := by
  refine Nat.le_trans (links_sum _) ?_
  have h := congrArg (fun l => (l.map V.size).sum) (List.take_append_drop i l)
  simp only [List.map_append, List.sum_append_nat] at h
  lia
theorem VRs.left {P : Addr → Obj → Prop} {Γ Γ' : List (Addr × Obj)} {x : List Value} {d : List PyData} (r : VRs (Or P Γ') x d) : VRs (Or P (Γ' ++ Γ)) x d := r.mono fun _ _ _ h => h.imp id (List.mem_append_left _)
theorem VR.left {P : Addr → Obj → Prop} {Γ Γ' : List (Addr × Obj)} {x : Value} {d : PyData} (r : VR (Or P Γ') x d) : VR (Or P (Γ' ++ Γ)) x d := r.mono fun _ _ _ h => h.imp id (List.mem_append_left _)
section
variable {prog : Program} {w : World} {K : Frag} {A : Around} {E : Value → Shared → Prop} {s : Shared} {h₀ : Heap} {P : Addr → Obj → Prop}
theorem links_spec (N : Nat) : ∀ {A : Around} {E : Value → Shared → Prop} {s : Shared} {h₀ : Heap} {P : Addr → Obj → Prop} {v : V} {x : Value} {Q : Value → Shared → Prop}, v.dep ≤ N → ∀ (C : Cx K h₀) (hk : h₀.StaysIn s.heap) (hh : A.handled = none) (hd : A.depth + v.dep < 880) (hu : A.units + 4 * v.dep < 7900) (hP : ∀ a o, P a o → s.heap.get? a = some o) (hv : VR P x v.py) (hdep : v.dep ≤ 60) (hsz : v.size ≤ 2 ^ 22)
    (hQ : ∀ l vs n h' t' Γ, Kept h₀ [] s.heap h' [(l, listOf vs.toArray n)] → TupL s.heap h' Γ → VRs (Or No Γ) vs (v.links.map Link.py) → Q (.ref l) { s with heap := h', toks := t' }),
    wpAny (model prog w) A (call (.ref 267) [x]) Q E s := by
  induction N with
  | zero => intro A E s h₀ P v x Q hN; exact absurd hN (by cases v <;> simp [V.dep])
  | succ N ih =>
  intro A E s h₀ P v x Q hN C hk hh hd hu hP hv hdep hsz hQ
  have hd1 : 1 ≤ v.dep := by cases v <;> simp [V.dep]
  refine enterY (binds := [(Str.ofString "value", x)]) C hk hh (n_lt (n_s (n_xl hu) (Nat.le_refl _)) (n_bl rfl)) Own.nil C.KF.f267 rfl (by simp only [recursionLimit]; exact n_lt (n_s (n_xl hd) (Nat.le_refl _)) (n_bl rfl)) (fun _ _ _ => BindsTo.of_eq rfl) (locs rfl) rfl rfl rfl (by decide) ?_
  intro g L h₁ tk cdv A' X m0 hX0 hX1 hX2 y h0 hL hin
  have hvg : VR (Gt g) x v.py := hv.mono2 (gt_of (h₀ := h₀) Own.nil hin hP)
  have hsh : PySem.SeqAt.shaped v.py = true := shaped_of (V.lay v) (n_suc (n_lt (n_t hdep (Nat.le_refl _)) (n_bl rfl)))
  have hla := v.lay.1
  rcases v.kinds with ⟨i, rfl⟩ | ⟨k, j, rfl⟩ | ⟨j, rfl⟩ | rfl | ⟨j, rfl⟩ | ⟨j, rfl⟩ | ⟨W, rest, e1, e2, e3, e4, e5⟩
  · cases hv
    refine y_if_t (pb_or2_t (pb_not_t (pb_isi_f (pv_loc rfl)))) y fun s1 y1 => ?_
    refine y_reteff (ev_list pvs_nil y1 (by decide) (fun vs e => by subst e; rfl) fun vs t s2 e y2 => ?_)
    subst e
    rw [y2.e]
    exact hQ _ [] 0 _ _ _ (y2.z.kept1 h0 hin (.head _) notT_list) (y2.z.tupL hL) .nil
  · have h3 : ([S "ref", S "buf", S "box"] : List PyData).any (fun y => PyData.eqv y (.str k.word)) = true := by cases k <;> decide +kernel
    have h4 : PyData.canLay0 (.str k.word) = true := by cases k <;> decide +kernel
    refine ctr fun hG336 => ?_; obtain ⟨_, _, _, _, _, rfl, p1, p2, p3⟩ := VR.two hv; refine hG336 ?_; clear hG336
    have tg : ∀ {Γ}, TT X.g Γ _ _ := fun {Γ} => TT.mk (.inl (hin _ _ (hP _ _ p1) (by simp))) p2 p3
    refine y_if_f (pb_guard rfl tg hvg (by simp [V.py, PyData.eqv, PyData.eqvAll]) hsh) y fun s1 y1 => ?_
    refine y_if_t (pb_in3 (pv_itemS (pv_loc rfl) tg) true h3 (by decide +kernel) h4) y1 fun s2 y2 => ?_
    refine y_reteff (ev_list1E (ev_tup (pvs2 pv_str (pv_item' (pv_loc rfl) tg)) y2 (by decide) (fun vs e => by obtain ⟨_, _, rfl, _⟩ := e; rfl) fun vs t s3 e y3 => ⟨_, _, _, y3, fun l s4 y4 => ?_⟩))
    refine ctr fun hG337 => ?_; obtain ⟨_, _, rfl, ⟨_, rfl⟩, rfl⟩ := e; refine hG337 ?_; clear hG337
    rw [y4.e]
    exact hQ _ [_] 0 _ _ _ (y4.z.kept1 h0 hin (.head _) notT_list) (y4.z.tupL hL) (VRs.link (its := #[]) (ls := []) .strong (.head _) .nil)
  · refine ctr fun hG338 => ?_; obtain ⟨_, _, _, _, _, _, rfl, p1, p2, p3⟩ := VR.three hv; refine hG338 ?_; clear hG338
    have tg : ∀ {Γ}, TT X.g Γ _ _ := fun {Γ} => TT.mk (.inl (hin _ _ (hP _ _ p1) (by simp))) p2 p3
    refine y_if_f (pb_guard rfl tg hvg (by simp [V.py, PyData.eqv, PyData.eqvAll]) hsh) y fun s1 y1 => ?_
    refine y_if_f (pb_in3 (pv_itemS (pv_loc rfl) tg) false (by decide +kernel) (by decide +kernel) (by decide +kernel)) y1 fun s2 y2 => ?_
    refine y_if_t (pb_eqs (pv_itemS (pv_loc rfl) tg) pv_str (by decide +kernel)) y2 fun s2 y2 => ?_
    refine y_reteff (ev_ifexp true (pb_gti ((pv_item' (pv_loc rfl) tg).mono fun v e => ⟨_, e⟩) pv_int (decide_eq_true (n_k1))) y2 fun s3 y3 => ?_)
    refine ev_list1E (ev_tup (pvs2 pv_str (pv_item' (pv_loc rfl) tg)) y3 (by decide) (fun vs e => by obtain ⟨_, _, rfl, _⟩ := e; rfl) fun vs t s3 e y3 => ⟨_, _, _, y3, fun l s4 y4 => ?_⟩)
    refine ctr fun hG339 => ?_; obtain ⟨_, _, rfl, ⟨_, rfl⟩, rfl⟩ := e; refine hG339 ?_; clear hG339
    rw [y4.e]
    exact hQ _ [_] 0 _ _ _ (y4.z.kept1 h0 hin (.head _) notT_list) (y4.z.tupL hL) (VRs.link (its := #[]) (ls := []) .strong (.head _) .nil)
  · refine ctr fun hG340 => ?_; obtain ⟨_, _, _, _, _, rfl, p1, p2, p3⟩ := VR.two hv; refine hG340 ?_; clear hG340
    have tg : ∀ {Γ}, TT X.g Γ _ _ := fun {Γ} => TT.mk (.inl (hin _ _ (hP _ _ p1) (by simp))) p2 p3
    refine y_if_f (pb_guard rfl tg hvg (by simp [V.py, PyData.eqv, PyData.eqvAll]) hsh) y fun s1 y1 => ?_
    refine y_if_f (pb_in3 (pv_itemS (pv_loc rfl) tg) false (by decide +kernel) (by decide +kernel) (by decide +kernel)) y1 fun s2 y2 => ?_
    refine y_if_f (pb_eqs (pv_itemS (pv_loc rfl) tg) pv_str (by decide +kernel)) y2 fun s2 y2 => ?_
    refine y_if_t (pb_in2 (pv_itemS (pv_loc rfl) tg) true (by decide +kernel) (by decide +kernel) (by decide +kernel)) y2 fun s2 y2 => ?_
    refine y_reteff (ev_ifexp false (pb_gti ((pv_item' (pv_loc rfl) tg).mono fun v e => ⟨_, e⟩) pv_int (by simp)) y2 fun s3 y3 => ?_)
    refine ev_list pvs_nil y3 (by decide) (fun vs e => by subst e; rfl) fun vs t s2 e y2 => ?_
    subst e
    rw [y2.e]
    exact hQ _ [] 0 _ _ _ (y2.z.kept1 h0 hin (.head _) notT_list) (y2.z.tupL hL) .nil
  · refine ctr fun hG341 => ?_; obtain ⟨_, _, _, _, _, rfl, p1, p2, p3⟩ := VR.two hv; refine hG341 ?_; clear hG341
    have tg : ∀ {Γ}, TT X.g Γ _ _ := fun {Γ} => TT.mk (.inl (hin _ _ (hP _ _ p1) (by simp))) p2 p3
    refine y_if_f (pb_guard rfl tg hvg (by simp [V.py, PyData.eqv, PyData.eqvAll]) hsh) y fun s1 y1 => ?_
    refine y_if_f (pb_in3 (pv_itemS (pv_loc rfl) tg) false (by decide +kernel) (by decide +kernel) (by decide +kernel)) y1 fun s2 y2 => ?_
    refine y_if_f (pb_eqs (pv_itemS (pv_loc rfl) tg) pv_str (by decide +kernel)) y2 fun s2 y2 => ?_
    refine y_if_t (pb_in2 (pv_itemS (pv_loc rfl) tg) true (by decide +kernel) (by decide +kernel) (by decide +kernel)) y2 fun s2 y2 => ?_
    refine y_reteff (ev_ifexp true (pb_gti ((pv_item' (pv_loc rfl) tg).mono fun v e => ⟨_, e⟩) pv_int (decide_eq_true (n_k1))) y2 fun s3 y3 => ?_)
    refine ev_list1E (ev_tup (pvs2 (pv_item' (pv_loc rfl) tg) (pv_item' (pv_loc rfl) tg)) y3 (by decide) (fun vs e => by obtain ⟨_, _, rfl, _⟩ := e; rfl) fun vs t s3 e y3 => ⟨_, _, _, y3, fun l s4 y4 => ?_⟩)
    refine ctr fun hG342 => ?_; obtain ⟨_, _, rfl, rfl, rfl⟩ := e; refine hG342 ?_; clear hG342
    rw [y4.e]
    exact hQ _ [_] 0 _ _ _ (y4.z.kept1 h0 hin (.head _) notT_list) (y4.z.tupL hL) (VRs.link (its := #[]) (ls := []) .unowned (.head _) .nil)
  · refine ctr fun hG343 => ?_; obtain ⟨_, _, _, _, _, rfl, p1, p2, p3⟩ := VR.two hv; refine hG343 ?_; clear hG343
    have tg : ∀ {Γ}, TT X.g Γ _ _ := fun {Γ} => TT.mk (.inl (hin _ _ (hP _ _ p1) (by simp))) p2 p3
    refine y_if_f (pb_guard rfl tg hvg (by simp [V.py, PyData.eqv, PyData.eqvAll]) hsh) y fun s1 y1 => ?_
    refine y_if_f (pb_in3 (pv_itemS (pv_loc rfl) tg) false (by decide +kernel) (by decide +kernel) (by decide +kernel)) y1 fun s2 y2 => ?_
    refine y_if_f (pb_eqs (pv_itemS (pv_loc rfl) tg) pv_str (by decide +kernel)) y2 fun s2 y2 => ?_
    refine y_if_t (pb_in2 (pv_itemS (pv_loc rfl) tg) true (by decide +kernel) (by decide +kernel) (by decide +kernel)) y2 fun s2 y2 => ?_
    refine y_reteff (ev_ifexp true (pb_gti ((pv_item' (pv_loc rfl) tg).mono fun v e => ⟨_, e⟩) pv_int (decide_eq_true (n_k1))) y2 fun s3 y3 => ?_)
    refine ev_list1E (ev_tup (pvs2 (pv_item' (pv_loc rfl) tg) (pv_item' (pv_loc rfl) tg)) y3 (by decide) (fun vs e => by obtain ⟨_, _, rfl, _⟩ := e; rfl) fun vs t s3 e y3 => ⟨_, _, _, y3, fun l s4 y4 => ?_⟩)
    refine ctr fun hG344 => ?_; obtain ⟨_, _, rfl, rfl, rfl⟩ := e; refine hG344 ?_; clear hG344
    rw [y4.e]
    exact hQ _ [_] 0 _ _ _ (y4.z.kept1 h0 hin (.head _) notT_list) (y4.z.tupL hL) (VRs.link (its := #[]) (ls := []) .weak (.head _) .nil)
  · have eF := e2 (Str.ofString "fn") (by simp)
    have h3 : ([S "ref", S "buf", S "box"] : List PyData).any (fun y => PyData.eqv y (.str W)) = false := by
      simp only [List.any_cons, List.any_nil, PyData.eqv, Bool.or_false]
      rw [BEq.comm, e2 _ (.head _), BEq.comm, e2 _ (.tail _ (.head _)), BEq.comm, e2 _ (.tail _ (.tail _ (.head _)))]; rfl
    have h5 : ([S "weak", S "unowned"] : List PyData).any (fun y => PyData.eqv y (.str W)) = false := by
      simp only [List.any_cons, List.any_nil, PyData.eqv, Bool.or_false]
      rw [BEq.comm, e2 _ (.tail _ (.tail _ (.tail _ (.tail _ (.tail _ (.head _)))))), BEq.comm, e2 _ (.tail _ (.tail _ (.tail _ (.tail _ (.head _)))))]; rfl
    have hW : PyData.canLay0 (.str W) = true := by
      rw [e1] at hla
      simp only [PyData.canLay0, PyData.canLayAll0, Bool.and_eq_true] at hla ⊢
      exact hla.1
    have hne : PyData.eqv v.py (.tuple []) = false := by rw [e1]; simp [PyData.eqv, PyData.eqvAll]
    have hvl2 := sizes_len v.parts
    have hv' := hv
    rw [e1] at hv'
    refine ctr fun hG345 => ?_; obtain ⟨_, _, _, _, _, rfl, p1, p2, p3, q2⟩ := VR.hdp hv'; refine hG345 ?_; clear hG345
    have tg : ∀ {Γ}, TT X.g Γ _ _ := fun {Γ} => TT.mk (.inl (hin _ _ (hP _ _ p1) (by simp))) p2 p3
    refine y_if_f (pb_guard rfl tg hvg hne hsh) y fun s1 y1 => ?_
    refine y_if_f (pb_in3 (pv_item0S (pv_loc rfl) tg) false h3 (by decide +kernel) hW) y1 fun s2 y2 => ?_
    refine y_if_f (pb_eqs (pv_item0S (pv_loc rfl) tg) pv_str eF) y2 fun s2 y2 => ?_
    refine y_if_f (pb_in2 (pv_item0S (pv_loc rfl) tg) false h5 (by decide +kernel) hW) y2 fun s3 y3 => ?_
    refine y_asgeff (ev_list pvs_nil y3 (by decide) (fun vs e => by subst e; rfl) fun vs fl s4 e y4 => y_store y4 fun s5 y5 => ?_)
    subst e
    refine y_for (ev_call y5.ok.C.g_law_inner y5.ok.C.k_law_inner (pvs1 (pv_loc (up_skip rfl))) y5 fun vs s6 e y6 => ?_)
    obtain rfl := Va1.eq e
    refine inner_spec (v := v) (P := Or (Gt g) _) y6.ok.C y6.st hX0 (by show A'.depth < 900; exact n_lt (n_e hX1 (n_t (n_a (n_s (n_xl hd) (Nat.le_refl _)) (Nat.le_refl _)) (Nat.le_refl _))) (n_bl rfl)) (by show A'.units < 8000; exact n_lt (n_e hX2 (n_t (n_a (n_s (n_xl hu) (Nat.le_refl _)) (Nat.le_refl _)) (Nat.le_refl _))) (n_bl rfl)) y6.z.has hvg.inl hdep ?_
    intro il ws k0 h' t' Γ' kk tl hws
    have hlen : ws.length = v.parts.length := by simpa using hws.length
    let J15 : Nat → (Str → Option Value) → List (Addr × Obj) → List (Addr × Obj) → Prop := fun i m news Γ => ∃ k1 its, news = [(il, listOf ws.toArray k0), (fl, listOf its k1)] ∧ m "links" = some (.ref fl) ∧ VRs (Or (Gt g) Γ) ws (v.parts.map V.py) ∧ VRs (Or No Γ) its.toList (((v.parts.take i).flatMap V.links).map Link.py)
    refine ⟨il, ws.length, J15,
      _, _, _, rfl, y6.call1 kk tl, ⟨_, _, rfl, up_hit, hws.upA, .nil⟩, ?_, ?_⟩
    · intro i m news Γ hJJ; refine ex2 hJJ fun k1 its hKK => an4 hKK fun hE53 m1 hw hi => ?_; clear hJJ hKK; subst hE53
      refine ⟨_, _, .head _, by simp, fun hlt I o u s7 E' ho hx y7 => as_name y7 fun s8 y8 => ?_⟩
      have hx' : ws[i]? = some u := by simpa using hx
      have hpi : i < v.parts.length := by exact n_ls hlt (Nat.le_of_eq hlen)
      obtain ⟨u', hu1, hu2⟩ := hw.get (i := i) (d := (v.parts[i]).py) (by simp [hpi])
      rw [hx'] at hu1; cases hu1
      have hmem : v.parts[i] ∈ v.parts := List.getElem_mem _
      have hdp := e5 _ hmem
      have hsp : (v.parts[i]).size ≤ (v.parts.map V.size).sum := by
        exact sizes_mem hmem
      refine y_expr (ev_lmeth1 (pv_loc (up_skip m1)) (.tail (.tail .head)) PySem.F.slot_list_extend rfl y8 fun s9 y9 => ev_call y9.ok.C.g_law_links y9.ok.C.k_law_links (pvs1 (pv_loc up_hit)) y9 fun vs s10 e y10 => ?_)
      obtain rfl := Va1.eq e
      refine ih (v := v.parts[i]) (P := Or (Gt g) Γ) (by lia) y10.ok.C y10.st hX0 (by show A'.depth + _ < 880; lia) (by show A'.units + _ < 7900; lia) y10.z.has hu2 (Nat.le_of_lt (n_ls hdp hdep)) (Nat.le_of_lt (n_lt hsp (n_ls e4 hsz))) ?_
      intro rl rs k3 h'' t'' Γ'' kk2 tl2 hrs
      have hl1 := hi.length
      have hl2 := hrs.length
      have hl3 : ((v.parts.take (i + 1)).flatMap V.links).length ≤ v.size := Nat.le_trans (links_take _ _) (Nat.le_of_lt e4)
      have hl4 : ((v.parts.take (i + 1)).flatMap V.links) = ((v.parts.take i).flatMap V.links) ++ (v.parts[i]).links := by
        rw [List.take_succ_eq_append_getElem hpi, List.flatMap_append]; simp
      rw [hl4] at hl3
      simp only [List.length_map, Array.length_toList, List.length_append] at hl1 hl2 hl3
      have hS : sizeLine = 16777216 := rfl
      refine c_extend (y10.call1 kk2 tl2) (.tail (.tail (.tail .head))) (.head _) (by simp; exact n_t (n_a (n_e hl1 (n_t (n_al hl3) (n_t hsz (Nat.le_refl _)))) (n_e hl2 (n_t (n_ar hl3) (n_t hsz (Nat.le_refl _))))) (n_b rfl)) fun s11 k11 y11 => y_nil ?_
      refine ⟨_, _, _, ⟨y11.z.sub (List.sublist_cons_self _ _), y11.e, y11.ok⟩, _, _, rfl, up_skip m1, hw.upA, ?_⟩
      rw [hl4, List.map_append, Array.toList_append]
      exact hi.upA.append hrs.left
    · intro m news Γ s7 hJJ; refine ex2 hJJ fun k1 its hKK => an4 hKK fun hE54 m1 hw hi => ?_; clear hJJ hKK; subst hE54; intro y7
      refine y_ret (pv_loc m1) y7 fun r s8 e y8 => ?_
      subst e
      rw [y8.e]
      rw [hlen, List.take_length, ← e3] at hi
      exact hQ _ its.toList _ _ _ _ (y8.z.kept1 h0 hin (.tail _ (.head _)) notT_list) (y8.z.tupL hL) hi
end
end Mine
end
section
open PySem PySem.W PySem.Calls PyProof.Rows PySem.Spec
set_option Elab.async false
set_option maxRecDepth 100000
set_option maxHeartbeats 4000000
set_option linter.unusedVariables false
namespace Mine
noncomputable def H.set (H : H) (k : Nat) (t : T) : Mine.H := { H with ts := H.ts.set k t }
theorem keyed_at {tps : List TP} {k : Nat} {tp : TP} (h : tps[k]? = some tp) : valueAt (keyed 1 (tps.map fun t => .ref t.a)) ((k : Int) + 1) = some (.ref tp.a) := by
  have := keyed_get (tps.map fun t => .ref t.a) 1 k
  rw [List.getElem?_map, h] at this
  exact this
theorem keyed_atB {tps : List BTP} {k : Nat} {tp : BTP} (h : tps[k]? = some tp) : valueAt (keyed 1 (tps.map fun t => .ref t.a)) ((k : Int) + 1) = some (.ref tp.a) := by
  have := keyed_get (tps.map fun t => .ref t.a) 1 k
  rw [List.getElem?_map, h] at this
  exact this
theorem set_self {α : Type} {l : List α} {k : Nat} {x : α} (h : l[k]? = some x) : l.set k x = l := by
  apply List.ext_getElem?
  intro i
  rw [List.getElem?_set]
  split
  · rename_i e; subst e; rw [h]; split <;> simp_all
  · rfl
noncomputable def T.addS (t : T) (d : Int) : T := { t with strong := t.strong + d }
noncomputable def T.addW (t : T) (d : Int) : T := { t with weak := t.weak + d }
noncomputable def T.addU (t : T) (d : Int) : T := { t with unowned := t.unowned + d }
noncomputable def T.add (t : T) : W3 → Int → T
  | .strong, d => t.addS d
  | .weak, d => t.addW d
  | .unowned, d => t.addU d
noncomputable def H.link (H : H) (l : Link) (d : Int) : Mine.H := { H with ts := H.ts.modify l.2 fun t => t.add l.1 d }
theorem H.link_eq {H : H} {l : Link} {d : Int} {t : T} (h : H.ts[l.2]? = some t) : H.link l d = H.set l.2 (t.add l.1 d) := by
  unfold Mine.H.link Mine.H.set
  congr 1
  apply List.ext_getElem?
  intro i
  rw [List.getElem?_set, List.getElem?_modify]
  obtain ⟨hl, rfl⟩ := List.getElem?_eq_some_iff.mp h
  by_cases e : l.2 = i
  · subst e; simp [hl]
  · simp [e]
section
variable {prog : Program} {w : World} {P : Addr → Obj → Prop} {o : Addr} {p : HP} {H : H} {ks : List (Addr × Obj)}
theorem HRep.head (r : HRep prog w P o p H ks) : ∃ es n od lv ql c, (o, instObj 235 p.d) ∈ ks ∧ (p.d, dictOf es n) ∈ ks ∧ (p.t, od) ∈ ks ∧ (p.q, listOf (List.toArray ql) c) ∈ ks ∧ ERel es (hkv p.t p.q lv) ∧ IsI H.ts.length lv ∧ od.IsDictOf (PySem.intKind prog w) (keyed 1 (p.tps.map fun t => .ref t.a)) ∧ (p.t == sysModules) = false ∧
    IntsAre ql (H.dying.map fun n : Nat => (n : Int) + 1) ∧ p.tps.length = H.ts.length := by
  cases r with | mk a b c d e f => exact ⟨_, _, _, _, _, _, .head _, .tail _ (.head _), .tail _ (.tail _ (.head _)), .tail _ (.tail _ (.tail _ (.head _))), a, b, c, d, e, f.length⟩
theorem HRep.thing (r : HRep prog w P o p H ks) {k : Nat} {t : T} {tp : TP} (ht : H.ts[k]? = some t) (htp : p.tps[k]? = some tp) : ∃ es n kd nm s w' u st f, (tp.a, instObj 97 tp.d) ∈ ks ∧ At tp.d (dictOf es n) ks f ∧ ERel es (tkv tp.f kd nm s w' u st) ∧ IsS t.kind.word kd ∧ IsS t.name nm ∧ IsI t.strong s ∧ IsI t.weak w' ∧ IsI t.unowned u ∧ IsS t.st.word st ∧
    (∀ es' n' t' s2 w2 u2 st2, ERel es' (tkv tp.f kd nm s2 w2 u2 st2) → IsI t'.strong s2 → IsI t'.weak w2 → IsI t'.unowned u2 → IsS t'.st.word st2 → t'.kind = t.kind → t'.name = t.name → t'.fields = t.fields → HRep prog w P o p (H.set k t') (f (dictOf es' n'))) ∧
    ∃ fl c, (tp.f, listOf (List.toArray fl) c) ∈ ks ∧ VRs P fl (t.fields.map V.py) := by
  cases r with | mk a b c d e f =>
  refine ctr fun hG287 => ?_; obtain ⟨pre, l, post, rfl, q, g⟩ := f.focus htp ht; refine hG287 ?_; clear hG287
  cases q with | @mk es2 n2 c2 fl2 _ _ _ _ _ _ q1 q2 q3 q4 q5 q6 q7 q8 =>
  refine ⟨_, _, _, _, _, _, _, _, _, ?_, .tail (.tail (.tail (.tail (.app (.appl (.tail .head)))))), q1, q2, q3, q4, q5, q6, q7, ?_, fl2, c2, ?_, q8⟩
  · simp
  · intro es' n' t' s2 w2 u2 st2 h1 h2 h3 h4 h5 h6 h7 h8
    have := g tp t' _ (.mk (n := n') (c := c2) h1 (h6 ▸ q2) (h7 ▸ q3) h2 h3 h4 h5 (h8 ▸ q8))
    rw [set_self htp] at this
    exact .mk a (by show IsI ((H.ts.set k t').length : Nat) _; rw [List.length_set]; exact b) c d e this
  · simp
theorem HRep.split (r : HRep prog w P o p H ks) {k : Nat} {t : T} {tp : TP} (ht : H.ts[k]? = some t) (htp : p.tps[k]? = some tp) : ∃ hd pre post es n kd nm s w' u st fl c, ks = hd ++ (pre ++ ([(tp.a, instObj 97 tp.d), (tp.d, dictOf es n), (tp.f, listOf (List.toArray fl) c)] ++ post)) ∧
    ERel es (tkv tp.f kd nm s w' u st) ∧ IsS t.kind.word kd ∧ IsS t.name nm ∧ IsI t.strong s ∧ IsI t.weak w' ∧ IsI t.unowned u ∧ IsS t.st.word st ∧ VRs P fl (t.fields.map V.py) ∧
    (∀ tp' t' l', TRep P tp' t' l' → tp'.a = tp.a → HRep prog w P o { p with tps := p.tps.set k tp' } (H.set k t') (hd ++ (pre ++ (l' ++ post)))) := by
  cases r with | mk a b c d e f =>
  refine ctr fun hG288 => ?_; obtain ⟨pre, l, post, rfl, q, g⟩ := f.focus htp ht; refine hG288 ?_; clear hG288
  cases q with | @mk es2 n2 c2 fl2 _ _ _ _ _ _ q1 q2 q3 q4 q5 q6 q7 q8 =>
  refine ⟨[_, _, _, _], pre, post, es2, n2, _, _, _, _, _, _, fl2, c2, rfl, q1, q2, q3, q4, q5, q6, q7, q8, ?_⟩
  intro tp' t' l' q e'
  have e1 : ((p.tps.set k tp').map fun t => Value.ref t.a) = (p.tps.map fun t => Value.ref t.a) := by
    rw [List.map_set, e']
    have : (p.tps.map fun t => Value.ref t.a)[k]? = some (Value.ref tp.a) := by rw [List.getElem?_map, htp]; rfl
    exact set_self this
  exact .mk (p := { p with tps := p.tps.set k tp' }) a (by show IsI ((H.ts.set k t').length : Nat) _; rw [List.length_set]; exact b) (by show Obj.IsDictOf _ _ (keyed 1 ((p.tps.set k tp').map fun t => Value.ref t.a)); rw [e1]; exact c) d e (g tp' t' l' q)
end
section
variable {prog : Program} {w : World} {K : Frag} {A : Around} {E : Value → Shared → Prop} {s : Shared} {h₀ : Heap} {P : Addr → Obj → Prop} {o : Addr} {p : HP} {H : H} {ks : List (Addr × Obj)} {Q : Value → Shared → Prop}
theorem thing_spec {k : Nat} {t : T} {tp : TP} {v : Value} (C : Cx K h₀) (hk : h₀.StaysIn s.heap) (hh : A.handled = none) (hd : A.depth < 900) (hu : A.units < 8000) (O : Own h₀ s.heap ks) (R : HRep prog w P o p H ks) (ht : H.ts[k]? = some t) (htp : p.tps[k]? = some tp) (hv : IsI ((k : Int) + 1) v) (hst : t.st ≠ .gone)
    (hQ : ∀ h' t', Kept h₀ ks s.heap h' ks → Q (.ref tp.a) { s with heap := h', toks := t' }) : wpAny (model prog w) A (call (.ref 129) [.ref o, v]) Q E s := by
  refine enterY (binds := [(Str.ofString "self", .ref o), (Str.ofString "number", v)]) C hk hh (Nat.lt_trans hu (by decide)) O C.KF.f129 rfl (Nat.lt_trans hd (by decide)) (fun _ _ _ => BindsTo.of_eq rfl) (locs rfl) rfl rfl rfl (by decide) ?_
  intro g L h₁ tk cdv A' X m0 hX0 hX1 hX2 y h0 hL hin
  refine ex6 R.head fun es n od lv ql c hJJ => an10 hJJ fun m1 m2 m3 m4 er elv hod lo hql hlen => ?_; clear hJJ
  refine ex9 (R.thing ht htp) fun es2 n2 kd nm sv wv uv stv f hJJ => an11 hJJ fun t1 t2 er2 k1 k2 k3 k4 k5 k6 _ _ => ?_; clear hJJ
  refine y_asgeff (ev_dget (knd := PySem.intKind prog w) (key := (k : Int) + 1) (pv_attr (pv_loc rfl) m1 m2 er (.inr rfl) fun ok => ok.C.a_things) m3 hod lo (pv_loc rfl) (fun x e => by subst e; exact isI_is (X := X) hv) y fun s1 y1 => y_store y1 fun s2 y2 => ?_)
  rw [keyed_at htp] at y2
  refine y_if_f (pb_or2_fr (pb_isNone (pv_loc up_hit) rfl) (pb_eqs (pv_attrS (pv_loc up_hit) t1 t2.mem er2 (.inl rfl) (fun ok => ok.C.a_state) k6) pv_str (by revert hst; cases t.st <;> intro hst <;> first | exact absurd rfl hst | decide +kernel))) y2 fun s3 y3 => ?_
  refine y_ret (pv_loc up_hit) y3 fun r s4 e y4 => ?_
  subst e
  rw [y4.e]
  exact hQ _ _ (y4.kept h0 hin (List.Sublist.refl _) R.noT)
theorem Y.callK {X : Fn} {m : Str → Option Value} {Γ : List (Addr × Obj)} {s : Shared} {h' : Heap} {t' : Tok} {loc ks ks' : List (Addr × Obj)} (y : Y X m (loc ++ ks) Γ s) (no : ∀ p ∈ ks, ¬ IsT p.2) (k : Kept X.g ks s.heap h' ks') : Y X m (loc ++ ks') Γ { s with heap := h', toks := t' } :=
  y.calls (Γ' := []) (y.own no) k fun _ h => nomatch h
theorem Y.callN {X : Fn} {m : Str → Option Value} {Γ : List (Addr × Obj)} {s : Shared} {h' : Heap} {t' : Tok} {ks ks' : List (Addr × Obj)} (y : Y X m ks Γ s) (no : ∀ p ∈ ks, ¬ IsT p.2) (k : Kept X.g ks s.heap h' ks') : Y X m ks' Γ { s with heap := h', toks := t' } := y.callK (loc := []) no k
theorem retain_spec {k : Nat} {t : T} {v : Value} (C : Cx K h₀) (hk : h₀.StaysIn s.heap) (hh : A.handled = none) (hd : A.depth < 890) (hu : A.units < 7900) (O : Own h₀ s.heap ks) (R : HRep prog w P o p H ks) (ht : H.ts[k]? = some t) (hv : IsI ((k : Int) + 1) v) (hst : t.st ≠ .gone)
    (hQ : ∀ ks' h' t', Kept h₀ ks s.heap h' ks' → HRep prog w P o p (H.link (.strong, k) 1) ks' → Q .none { s with heap := h', toks := t' }) : wpAny (model prog w) A (call (.ref 136) [.ref o, v]) Q E s := by
  refine enterY (binds := [(Str.ofString "self", .ref o), (Str.ofString "number", v)]) C hk hh (Nat.lt_trans hu (by decide)) O C.KF.f136 rfl (Nat.lt_trans hd (by decide)) (fun _ _ _ => BindsTo.of_eq rfl) (locs rfl) rfl rfl rfl (by decide) ?_
  intro g L h₁ tk cdv A' X m0 hX0 hX1 hX2 y h0 hL hin
  refine ex6 R.head fun es n od lv ql c hJJ => an10 hJJ fun m1 m2 m3 m4 er elv hod lo hql hlen => ?_; clear hJJ
  obtain ⟨tp, htp⟩ : ∃ tp, p.tps[k]? = some tp := by
    have := (List.getElem?_eq_some_iff.mp ht).1
    exact ⟨p.tps[k]'(n_ls this (Nat.le_of_eq hlen.symm)), by simp [show k < p.tps.length by exact n_ls this (Nat.le_of_eq hlen.symm)]⟩
  refine ex9 (R.thing ht htp) fun es2 n2 kd nm sv wv uv stv f hJJ => an11 hJJ fun t1 t2 er2 k1 k2 k3 k4 k5 k6 hset _ => ?_; clear hJJ
  refine y_asgeff (ev_meth (pv_loc rfl) m1 m2 er y.ok.C.m_thing y.ok.C.n_thing y.ok.C.km_thing (pvs1 (pv_loc rfl)) y fun vs s1 e y1 => ?_)
  obtain rfl := Va1.eq e
  refine thing_spec y1.ok.C y1.st hX0 (lvA hX1 hd) (lvC hX2 hu) (y1.own (loc := []) R.noT) R ht htp hv hst fun h' t' kk => y_store (y1.callN R.noT kk) fun s2 y2 => ?_
  refine y_asgattr (ev_pv (pv_add (pv_attrI (pv_loc up_hit) t1 t2.mem er2 (.inl rfl) (fun ok => ok.C.a_strong) k3) pv_int) y2 fun v s3 e y3 => ev_pvq (pv_loc up_hit) y3 fun s4 y4 => ?_)
  refine c_setattr y4 t1 t2 er2 (.inl rfl) y4.ok.C.t_strong fun s5 es' n' er' y5 => y_nil ?_
  have R' := hset es' n' (t.addS 1) _ _ _ _ er' e k4 k5 k6 rfl rfl rfl
  rw [y5.e]
  rw [H.link_eq ht] at hQ
  exact hQ _ _ _ (y5.kept h0 hin (List.Sublist.refl _) R'.noT) R'
end
end Mine
end
section
open PySem PySem.W PySem.Calls PyProof.Rows PySem.Spec
set_option Elab.async false
set_option maxRecDepth 100000
set_option maxHeartbeats 4000000
set_option linter.unusedVariables false
namespace Mine
theorem perm_in4 {α : Type} (A B C : List α) (x y n z : α) : (A ++ (B ++ ([x, y, n, z] ++ C))).Perm (n :: (A ++ (B ++ ([x, y, z] ++ C)))) := by
  have e1 : A ++ (B ++ ([x, y, n, z] ++ C)) = (A ++ (B ++ [x, y])) ++ n :: (z :: C) := by simp
  have e2 : n :: (A ++ (B ++ ([x, y, z] ++ C))) = n :: ((A ++ (B ++ [x, y])) ++ (z :: C)) := by simp
  rw [e1, e2]
  exact List.perm_middle
section
variable {prog : Program} {w : World} {K : Frag} {A : Around} {E : Value → Shared → Prop} {s : Shared} {h₀ : Heap} {P : Addr → Obj → Prop} {o : Addr} {p : HP} {H : H} {ks : List (Addr × Obj)} {Q : Value → Shared → Prop}
theorem HRep.place (R : HRep prog w P o p H ks) {k : Nat} {t : T} (ht : H.ts[k]? = some t) : ∃ tp, p.tps[k]? = some tp := by
  cases R with | mk a b c d e f => exact f.at ht
theorem lost_spec {l : Link} {t : T} {v vk : Value} (C : Cx K h₀) (hk : h₀.StaysIn s.heap) (hh : A.handled = none) (hd : A.depth < 900) (hu : A.units < 8000) (O : Own h₀ s.heap ks) (R : HRep prog w P o p H ks) (ht : H.ts[l.2]? = some t) (hvk : IsS l.1.word vk) (hv : IsI ((l.2 : Int) + 1) v) (hl : l.1 ≠ .strong)
    (hQ : ∀ ks' h' t', Kept h₀ ks s.heap h' ks' → HRep prog w P o p (H.link l (-1)) ks' → Q .none { s with heap := h', toks := t' }) : wpAny (model prog w) A (call (.ref 164) [.ref o, vk, v]) Q E s := by
  refine enterY (binds := [(Str.ofString "self", .ref o), (Str.ofString "kind", vk), (Str.ofString "number", v)]) C hk hh (Nat.lt_trans hu (by decide)) O C.KF.f164 rfl (Nat.lt_trans hd (by decide)) (fun _ _ _ => BindsTo.of_eq rfl) (locs rfl) rfl rfl rfl (by decide) ?_
  intro g L h₁ tk cdv A' X m0 hX0 hX1 hX2 y h0 hL hin
  refine ex6 R.head fun es n od lv ql c hJJ => an10 hJJ fun m1 m2 m3 m4 er elv hod lo hql hlen => ?_; clear hJJ
  obtain ⟨tp, htp⟩ := R.place ht
  refine ex9 (R.thing ht htp) fun es2 n2 kd nm sv wv uv stv f hJJ => an11 hJJ fun t1 t2 er2 k1 k2 k3 k4 k5 k6 hset _ => ?_; clear hJJ
  refine y_asg (pv_ditem (pv_attr (pv_loc rfl) m1 m2 er (.inr rfl) fun ok => ok.C.a_things) (pv_loc rfl) m3 hod (fun x e => by subst e; exact isI_is (X := X) hv) (keyed_at htp)) y fun _ s1 e y1 => ?_
  subst e
  rw [H.link_eq ht] at hQ
  obtain ⟨lk, ln⟩ := l
  cases lk with
  | strong => exact absurd rfl hl
  | weak =>
    refine y_if_t (pb_eqs ((pv_loc (up_skip rfl)).mono fun v e => by subst e; exact hvk) pv_str (by dsimp only; decide +kernel)) y1 fun s2 y2 => ?_
    refine y_asgattr (ev_pv (pv_sub (pv_attrI (pv_loc up_hit) t1 t2.mem er2 (.inl rfl) (fun ok => ok.C.a_weak) k4) pv_int) y2 fun v s3 e y3 => ev_pvq (pv_loc up_hit) y3 fun s4 y4 => ?_)
    refine c_setattr y4 t1 t2 er2 (.inl rfl) y4.ok.C.t_weak fun s5 es' n' er' y5 => y_nil (y_nil ?_)
    have R' := hset es' n' (t.addW (-1)) _ _ _ _ er' k3 e k5 k6 rfl rfl rfl
    rw [y5.e]
    exact hQ _ _ _ (y5.kept h0 hin (List.Sublist.refl _) R'.noT) R'
  | unowned =>
    refine y_if_e (pb_eqs ((pv_loc (up_skip rfl)).mono fun v e => by subst e; exact hvk) pv_str (by dsimp only; decide +kernel)) y1 fun s2 y2 => ?_
    refine y_asgattr (ev_pv (pv_sub (pv_attrI (pv_loc up_hit) t1 t2.mem er2 (.inl rfl) (fun ok => ok.C.a_unowned) k5) pv_int) y2 fun v s3 e y3 => ev_pvq (pv_loc up_hit) y3 fun s4 y4 => ?_)
    refine c_setattr y4 t1 t2 er2 (.inl rfl) y4.ok.C.t_unowned fun s5 es' n' er' y5 => y_nil (y_nil ?_)
    have R' := hset es' n' (t.addU (-1)) _ _ _ _ er' k3 k4 e k6 rfl rfl rfl
    rw [y5.e]
    exact hQ _ _ _ (y5.kept h0 hin (List.Sublist.refl _) R'.noT) R'
noncomputable def H.bury (H : Mine.H) (k : Nat) (t : T) : Mine.H := H.set k { t with fields := [], st := .gone }
theorem buried_spec {k : Nat} {t : T} {v : Value} (C : Cx K h₀) (hk : h₀.StaysIn s.heap) (hh : A.handled = none) (hd : A.depth < 890) (hu : A.units < 7900) (O : Own h₀ s.heap ks) (R : HRep prog w P o p H ks) (ht : H.ts[k]? = some t) (hv : IsI ((k : Int) + 1) v) (hst : t.st ≠ .gone)
    (hQ : ∀ p' ks' h' t', Kept h₀ ks s.heap h' ks' → HRep prog w P o p' (H.bury k t) ks' → Q .none { s with heap := h', toks := t' }) : wpAny (model prog w) A (call (.ref 171) [.ref o, v]) Q E s := by
  refine enterY (binds := [(Str.ofString "self", .ref o), (Str.ofString "number", v)]) C hk hh (Nat.lt_trans hu (by decide)) O C.KF.f171 rfl (Nat.lt_trans hd (by decide)) (fun _ _ _ => BindsTo.of_eq rfl) (locs rfl) rfl rfl rfl (by decide) ?_
  intro g L h₁ tk cdv A' X m0 hX0 hX1 hX2 y h0 hL hin
  refine ex6 R.head fun es n od lv ql c hJJ => an10 hJJ fun m1 m2 m3 m4 er elv hod lo hql hlen => ?_; clear hJJ
  obtain ⟨tp, htp⟩ := R.place ht
  refine y_asgeff (ev_meth (pv_loc rfl) m1 m2 er y.ok.C.m_thing y.ok.C.n_thing y.ok.C.km_thing (pvs1 (pv_loc rfl)) y fun vs s1 e y1 => ?_)
  obtain rfl := Va1.eq e
  refine thing_spec y1.ok.C y1.st hX0 (lvA hX1 hd) (lvC hX2 hu) (y1.own (loc := []) R.noT) R ht htp hv hst fun h' t' kk => y_store (y1.callN R.noT kk) fun s2 y2 => ?_
  refine ctr fun hG335 => ?_; obtain ⟨hdl, pre, post, es2, n2, kd, nm, sv, wv, uv, stv, fl, cc, rfl, er2, k1, k2, k3, k4, k5, k6, k7, hset⟩ := R.split ht htp; refine hG335 ?_; clear hG335
  refine y_asgattr (ev_pv pv_str y2 fun v s3 e y3 => ev_pvq (pv_loc up_hit) y3 fun s4 y4 => ?_)
  refine c_setattr y4 (by simp) (.app (.app (.appl (.tail .head)))) er2 (.inl rfl) y4.ok.C.t_state fun s5 es' n' er' y5 => ?_
  refine y_asgattr (ev_list pvs_nil y5 (by decide) (fun vs e => by subst e; rfl) fun vs nl s6 e6 y6 => ev_pvq (pv_loc up_hit) y6 fun s7 y7 => ?_)
  subst e6
  refine c_setattr y7 (by simp) (.tail (.app (.app (.appl (.tail .head))))) er' (.inl rfl) y7.ok.C.t_fields fun s8 es'' n'' er'' y8 => y_nil ?_
  have R' := hset { tp with f := nl } { t with fields := [], st := .gone } _ (.mk (n := n'') (c := 0) (fl := []) er'' k1 k2 k3 k4 k5 e .nil) rfl
  have h2 : (hdl ++ (pre ++ ([(tp.a, instObj 97 tp.d), (tp.d, dictOf es'' n''), (nl, listOf #[] 0)] ++ post))).Sublist (hdl ++ (pre ++ ([(tp.a, instObj 97 tp.d), (tp.d, dictOf es'' n''), (nl, listOf #[] 0), (tp.f, listOf fl.toArray cc)] ++ post))) :=
    (List.Sublist.refl hdl).append ((List.Sublist.refl pre).append (List.Sublist.append (.cons_cons _ (.cons_cons _ (.cons_cons _ (.cons _ .slnil)))) (List.Sublist.refl post)))
  obtain ⟨m9, y9⟩ : ∃ m9, Y X m9 (hdl ++ (pre ++ ([(tp.a, instObj 97 tp.d), (tp.d, dictOf es'' n''), (nl, listOf #[] 0)] ++ post))) [] s8 := ⟨_, (y8.perm (perm_in4 ..)).sub h2⟩
  rw [y9.e]
  exact hQ _ _ _ _ (y9.kept h0 hin (List.Sublist.refl _) R'.noT) R'
end
end Mine
end
section
open PySem PySem.W PySem.Calls PyProof.Rows PySem.Spec
set_option Elab.async false
set_option maxRecDepth 100000
set_option maxHeartbeats 4000000
set_option linter.unusedVariables false
namespace Mine
section
variable {prog : Program} {w : World} {K : Frag} {A : Around} {E : Value → Shared → Prop} {s : Shared} {h₀ : Heap} {P : Addr → Obj → Prop} {o : Addr} {p : HP} {H : H} {ks : List (Addr × Obj)} {Q : Value → Shared → Prop}
theorem weak_to0_spec {v : Value} (C : Cx K h₀) (hk : h₀.StaysIn s.heap) (hh : A.handled = none) (hd : A.depth < 900) (hu : A.units < 8000) (O : Own h₀ s.heap ks) (R : HRep prog w P o p H ks) (hv : IsI 0 v)
    (hQ : ∀ x h' t' Γ, Kept h₀ ks s.heap h' ks → TupL s.heap h' Γ → VR (Or No Γ) x V.weak0.py → Q x { s with heap := h', toks := t' }) : wpAny (model prog w) A (call (.ref 192) [.ref o, v]) Q E s := by
  refine enterY (binds := [(Str.ofString "self", .ref o), (Str.ofString "number", v)]) C hk hh (Nat.lt_trans hu (by decide)) O C.KF.f192 rfl (Nat.lt_trans hd (by decide)) (fun _ _ _ => BindsTo.of_eq rfl) (locs rfl) rfl rfl rfl (by decide) ?_
  intro g L h₁ tk cdv A' X m0 hX0 hX1 hX2 y h0 hL hin
  refine y_if_f (pb_nei ((pv_loc rfl).mono fun x e => by subst e; exact hv) pv_int (by decide)) y fun s1 y1 => ?_
  refine y_reteff (ev_tup (pvs2 pv_str (pv_loc rfl)) y1 (by decide) (fun vs e => by obtain ⟨_, _, rfl, _⟩ := e; rfl) fun vs t s3 e y3 => ?_)
  refine ctr fun hG18 => ?_; obtain ⟨_, _, rfl, ⟨_, rfl⟩, rfl⟩ := e; refine hG18 ?_; clear hG18
  obtain ⟨u, rfl⟩ := hv
  rw [y3.e]
  exact hQ _ _ _ _ (y3.kept h0 hin (List.Sublist.refl _) R.noT) (y3.z.tupL hL) (VR.tup (.head _) (.cons (.str _ _) (.cons (.int _ _) .nil)))
theorem weak_to_spec {k : Nat} {t : T} {v : Value} (C : Cx K h₀) (hk : h₀.StaysIn s.heap) (hh : A.handled = none) (hd : A.depth < 900) (hu : A.units < 8000) (O : Own h₀ s.heap ks) (R : HRep prog w P o p H ks) (ht : H.ts[k]? = some t) (hv : IsI ((k : Int) + 1) v)
    (hQ : ∀ x ks' h' t' Γ, Kept h₀ ks s.heap h' ks' → TupL s.heap h' Γ → VR (Or No Γ) x (V.soft false k).py → HRep prog w P o p (H.link (.weak, k) 1) ks' → Q x { s with heap := h', toks := t' }) : wpAny (model prog w) A (call (.ref 192) [.ref o, v]) Q E s := by
  refine enterY (binds := [(Str.ofString "self", .ref o), (Str.ofString "number", v)]) C hk hh (Nat.lt_trans hu (by decide)) O C.KF.f192 rfl (Nat.lt_trans hd (by decide)) (fun _ _ _ => BindsTo.of_eq rfl) (locs rfl) rfl rfl rfl (by decide) ?_
  intro g L h₁ tk cdv A' X m0 hX0 hX1 hX2 y h0 hL hin
  refine ex6 R.head fun es n od lv ql c hJJ => an10 hJJ fun m1 m2 m3 m4 er elv hod lo hql hlen => ?_; clear hJJ
  obtain ⟨tp, htp⟩ := R.place ht
  refine ex9 (R.thing ht htp) fun es2 n2 kd nm sv wv uv stv f hJJ => an11 hJJ fun t1 t2 er2 k1 k2 k3 k4 k5 k6 hset _ => ?_; clear hJJ
  have pvt : PV X (fun y => List.lookup y [(Str.ofString "self", Value.ref o), (Str.ofString "number", v)].reverse) ks [] (.Subscript (.Attribute (.Name "self" default) "things" default) (.Name "number" default) default) (· = .ref tp.a) := pv_ditem (pv_attr (pv_loc rfl) m1 m2 er (.inr rfl) fun ok => ok.C.a_things) (pv_loc rfl) m3 hod (fun x e => by subst e; exact isI_is (X := X) hv) (keyed_at htp)
  refine y_if_t (pb_nei ((pv_loc rfl).mono fun x e => by subst e; exact hv) pv_int (by simp; exact n_z)) y fun s1 y1 => ?_
  refine y_asgattr (ev_pv (pv_add (pv_attrI (pv_ditem (pv_attr (pv_loc rfl) m1 m2 er (.inr rfl) fun ok => ok.C.a_things) (pv_loc rfl) m3 hod (fun x e => by subst e; exact isI_is (X := X) hv) (keyed_at htp)) t1 t2.mem er2 (.inl rfl) (fun ok => ok.C.a_weak) k4) pv_int) y1 fun v s3 e y3 => ev_pvq (pv_ditem (pv_attr (pv_loc rfl) m1 m2 er (.inr rfl) fun ok => ok.C.a_things) (pv_loc rfl) m3 hod (fun x e => by subst e; exact isI_is (X := X) hv) (keyed_at htp)) y3 fun s4 y4 => ?_)
  refine c_setattr y4 t1 t2 er2 (.inl rfl) y4.ok.C.t_weak fun s5 es' n' er' y5 => y_nil ?_
  have R' := hset es' n' (t.addW 1) _ _ _ _ er' k3 e k5 k6 rfl rfl rfl
  rw [H.link_eq ht] at hQ
  refine y_reteff (ev_tup (pvs2 pv_str (pv_loc rfl)) y5 (by decide) (fun vs e => by obtain ⟨_, _, rfl, _⟩ := e; rfl) fun vs t s6 e2 y6 => ?_)
  refine ctr fun hG21 => ?_; obtain ⟨_, _, rfl, ⟨_, rfl⟩, rfl⟩ := e2; refine hG21 ?_; clear hG21
  obtain ⟨u, rfl⟩ := hv
  rw [y6.e]
  exact hQ _ _ _ _ _ (y6.kept h0 hin (List.Sublist.refl _) R'.noT) (y6.z.tupL hL) (VR.tup (.head _) (.cons (.str _ _) (.cons (.int _ _) .nil))) R'
theorem unowned_to_spec {k : Nat} {t : T} {v : Value} (C : Cx K h₀) (hk : h₀.StaysIn s.heap) (hh : A.handled = none) (hd : A.depth < 890) (hu : A.units < 7900) (O : Own h₀ s.heap ks) (R : HRep prog w P o p H ks) (ht : H.ts[k]? = some t) (hv : IsI ((k : Int) + 1) v) (hst : t.st ≠ .gone)
    (hQ : ∀ x ks' h' t' Γ, Kept h₀ ks s.heap h' ks' → TupL s.heap h' Γ → VR (Or No Γ) x (V.soft true k).py → HRep prog w P o p (H.link (.unowned, k) 1) ks' → Q x { s with heap := h', toks := t' }) : wpAny (model prog w) A (call (.ref 206) [.ref o, v]) Q E s := by
  refine enterY (binds := [(Str.ofString "self", .ref o), (Str.ofString "number", v)]) C hk hh (Nat.lt_trans hu (by decide)) O C.KF.f206 rfl (Nat.lt_trans hd (by decide)) (fun _ _ _ => BindsTo.of_eq rfl) (locs rfl) rfl rfl rfl (by decide) ?_
  intro g L h₁ tk cdv A' X m0 hX0 hX1 hX2 y h0 hL hin
  refine ex6 R.head fun es n od lv ql c hJJ => an10 hJJ fun m1 m2 m3 m4 er elv hod lo hql hlen => ?_; clear hJJ
  obtain ⟨tp, htp⟩ := R.place ht
  refine ex9 (R.thing ht htp) fun es2 n2 kd nm sv wv uv stv f hJJ => an11 hJJ fun t1 t2 er2 k1 k2 k3 k4 k5 k6 hset _ => ?_; clear hJJ
  refine y_asgeff (ev_meth (pv_loc rfl) m1 m2 er y.ok.C.m_thing y.ok.C.n_thing y.ok.C.km_thing (pvs1 (pv_loc rfl)) y fun vs s1 e y1 => ?_)
  obtain rfl := Va1.eq e
  refine thing_spec y1.ok.C y1.st hX0 (lvA hX1 hd) (lvC hX2 hu) (y1.own (loc := []) R.noT) R ht htp hv hst fun h' t' kk => y_store (y1.callN R.noT kk) fun s2 y2 => ?_
  refine y_asgattr (ev_pv (pv_add (pv_attrI (pv_loc up_hit) t1 t2.mem er2 (.inl rfl) (fun ok => ok.C.a_unowned) k5) pv_int) y2 fun v s3 e y3 => ev_pvq (pv_loc up_hit) y3 fun s4 y4 => ?_)
  refine c_setattr y4 t1 t2 er2 (.inl rfl) y4.ok.C.t_unowned fun s5 es' n' er' y5 => ?_
  have R' := hset es' n' (t.addU 1) _ _ _ _ er' k3 k4 e k6 rfl rfl rfl
  rw [H.link_eq ht] at hQ
  refine y_reteff (ev_tup (pvs2 pv_str (pv_loc (up_skip rfl))) y5 (by decide) (fun vs e => by obtain ⟨_, _, rfl, _⟩ := e; rfl) fun vs t s6 e2 y6 => ?_)
  refine ctr fun hG24 => ?_; obtain ⟨_, _, rfl, ⟨_, rfl⟩, rfl⟩ := e2; refine hG24 ?_; clear hG24
  obtain ⟨u, rfl⟩ := hv
  rw [y6.e]
  exact hQ _ _ _ _ _ (y6.kept h0 hin (List.Sublist.refl _) R'.noT) (y6.z.tupL hL) (VR.tup (.head _) (.cons (.str _ _) (.cons (.int _ _) .nil))) R'
theorem elements_spec {k : Nat} {t : T} {tp : TP} {v : Value} (C : Cx K h₀) (hk : h₀.StaysIn s.heap) (hh : A.handled = none) (hd : A.depth < 890) (hu : A.units < 7900) (O : Own h₀ s.heap ks) (R : HRep prog w P o p H ks) (ht : H.ts[k]? = some t) (htp : p.tps[k]? = some tp) (hv : IsI ((k : Int) + 1) v) (hst : t.st ≠ .gone)
    (hQ : ∀ h' t', Kept h₀ ks s.heap h' ks → Q (.ref tp.f) { s with heap := h', toks := t' }) : wpAny (model prog w) A (call (.ref 220) [.ref o, v]) Q E s := by
  refine enterY (binds := [(Str.ofString "self", .ref o), (Str.ofString "number", v)]) C hk hh (Nat.lt_trans hu (by decide)) O C.KF.f220 rfl (Nat.lt_trans hd (by decide)) (fun _ _ _ => BindsTo.of_eq rfl) (locs rfl) rfl rfl rfl (by decide) ?_
  intro g L h₁ tk cdv A' X m0 hX0 hX1 hX2 y h0 hL hin
  refine ex6 R.head fun es n od lv ql c hJJ => an10 hJJ fun m1 m2 m3 m4 er elv hod lo hql hlen => ?_; clear hJJ
  refine ex9 (R.thing ht htp) fun es2 n2 kd nm sv wv uv stv f hJJ => an11 hJJ fun t1 t2 er2 k1 k2 k3 k4 k5 k6 hset _ => ?_; clear hJJ
  refine y_reteff (ev_attrE (ev_meth (pv_loc rfl) m1 m2 er y.ok.C.m_thing y.ok.C.n_thing y.ok.C.km_thing (pvs1 (pv_loc rfl)) y fun vs s1 e y1 => ?_))
  obtain rfl := Va1.eq e
  refine thing_spec y1.ok.C y1.st hX0 (lvA hX1 hd) (lvC hX2 hu) (y1.own (loc := []) R.noT) R ht htp hv hst fun h' t' kk => ⟨tp.a, tp.d, 97, es2, n2, _, _, _, _, .ref tp.f, rfl, y1.callN R.noT kk, t1, t2.mem, er2, .inl rfl, y1.ok.C.a_fields, rfl, rfl, fun s2 y2 => ?_⟩
  rw [y2.e]
  exact hQ _ _ (y2.kept h0 hin (List.Sublist.refl _) R.noT)
end
end Mine
end
section
open PySem PySem.W PySem.Calls PyProof.Rows PySem.Spec
set_option Elab.async false
set_option maxRecDepth 100000
set_option maxHeartbeats 1000000
set_option rowWalk.seconds 0
set_option linter.unusedVariables false
namespace Mine
section
variable {X : Fn} {m : Str → Option Value} {news Γ : List (Addr × Obj)} {E : Value → Shared → Prop} {s : Shared} {D : Addr} {its : Array Value} {n : Nat} {f : Obj → List (Addr × Obj)}
/-- e[::-1] of a list -/
theorem ev_revL {e : Expr} {k : Nat} {p1 p2 p3 p4 : Pos} {Q : Value → Shared → Prop}
    (h : wpAny (model X.prog X.w) X.A (eval e X.env) (fun v s' => ∃ l vs c m news Γ, v = .ref l ∧ (l, listOf (List.toArray vs) c) ∈ news ∧ Y X m news Γ s' ∧ vs.length ≤ sizeLine ∧ ∀ t' s2, Y X m ((t', listOf vs.reverse.toArray 0) :: news) Γ s2 → Q (.ref t') s2) E s) :
    wpAny (model X.prog X.w) X.A (eval (.Subscript e (.Slice none none (some (.UnaryOp .USub (.Constant (.int 1) k p1) p2)) p3) p4) X.env) Q E s := by
  repeat' walk1
  refine wpAny_mono h (fun v s' q => ?_) fun _ _ x => x
  refine ctr fun hG4 => ?_; obtain ⟨l, vs, c, m, news, Γ, rfl, hm, y, hz, hq⟩ := q; refine hG4 ?_; clear hG4
  repeat' (first | (with_reducible show wpAny _ _ (subscriptTail _ _ _ _) _ _ _; fail) | walk1)
  refine kba_turn (value' := PySem.Expr.Name (PySem.Str.ofString "_") ⟨0, 0, 0, 0⟩) (fun _ => rfl) ?_
  exact krv_lit (s := { s' with toks := _ }) (zs := vs.reverse) y.z.F y.z.N (y.z.isList hm) (.int _ _) rfl (fun D h' F' N' l1 => hq D _ (y.to (y.z.more l1 F' N'))) (by with_unfolding_all rfl) (fun _ => rfl) (by rw [List.size_toArray]; exact hz)
theorem VR.linkTT {g : Heap} {u : Value} {l : Link} (r : VR (Or (Gt g) Γ) u l.py) : ∃ t a b, u = .ref t ∧ TT g Γ t [a, b] ∧ IsS l.1.word a ∧ IsI ((l.2 : Int) + 1) b :=
  ex5 (VR.two r) fun t o n u z k => an4 k fun e p1 p2 p3 => ⟨t, _, _, e, TT.mk p1 p2 p3, ⟨_, rfl⟩, ⟨_, rfl⟩⟩
end
end Mine
end
section
open PySem PySem.W PySem.Calls PyProof.Rows PySem.Spec
set_option Elab.async false
set_option maxRecDepth 100000
set_option maxHeartbeats 4000000
set_option linter.unusedVariables false
namespace Mine
noncomputable def H.links (H : Mine.H) (ls : List Link) (d : Int) : Mine.H := ls.foldl (fun H l => H.link l d) H
theorem H.links_snoc (H : Mine.H) (ls : List Link) (l : Link) (d : Int) : H.links (ls ++ [l]) d = (H.links ls d).link l d := by simp [Mine.H.links]
theorem add_st (t : T) (k : W3) (d : Int) : (t.add k d).st = t.st ∧ (t.add k d).kind = t.kind ∧ (t.add k d).name = t.name ∧ (t.add k d).fields = t.fields := by cases k <;> exact ⟨rfl, rfl, rfl, rfl⟩
theorem H.link_get (H : Mine.H) (l : Link) (d : Int) (i : Nat) : (H.link l d).ts[i]? = (H.ts[i]?).map fun t => if l.2 = i then t.add l.1 d else t := by
  unfold Mine.H.link
  rw [List.getElem?_modify]
  by_cases e : l.2 = i
  · subst e; simp
  · simp [e]
theorem H.links_get (ls : List Link) (d : Int) (i : Nat) {t : T} : ∀ {H : Mine.H}, H.ts[i]? = some t → ∃ t', (H.links ls d).ts[i]? = some t' ∧ t'.st = t.st ∧ t'.kind = t.kind ∧ t'.name = t.name ∧ t'.fields = t.fields := by
  induction ls generalizing t with
  | nil => intro H h; exact ⟨t, h, rfl, rfl, rfl, rfl⟩
  | cons l ls ih =>
    intro H h
    have h2 : (H.link l d).ts[i]? = some (if l.2 = i then t.add l.1 d else t) := by rw [Mine.H.link_get, h]; rfl
    refine ctr fun hG236 => ?_; obtain ⟨t', h3, e1, e2, e3, e4⟩ := ih h2; refine hG236 ?_; clear hG236
    have q : (if l.2 = i then t.add l.1 d else t).st = t.st ∧ (if l.2 = i then t.add l.1 d else t).kind = t.kind ∧ (if l.2 = i then t.add l.1 d else t).name = t.name ∧ (if l.2 = i then t.add l.1 d else t).fields = t.fields := by
      split
      · exact add_st ..
      · exact ⟨rfl, rfl, rfl, rfl⟩
    exact ⟨t', h3, e1.trans q.1, e2.trans q.2.1, e3.trans q.2.2.1, e4.trans q.2.2.2⟩
section
variable {prog : Program} {w : World} {K : Frag} {A : Around} {E : Value → Shared → Prop} {s : Shared} {h₀ : Heap} {P : Addr → Obj → Prop} {o : Addr} {p : HP} {H : H} {ks : List (Addr × Obj)} {Q : Value → Shared → Prop}
theorem copied_spec {v : V} {x : Value} (C : Cx K h₀) (hk : h₀.StaysIn s.heap) (hh : A.handled = none) (hd : A.depth < 880) (hu : A.units < 7800) (hP : ∀ a o, P a o → s.heap.get? a = some o) (hv : VR P x v.py) (hdep : v.dep ≤ 60) (hsz : v.size ≤ 2 ^ 22) (O : Own h₀ s.heap ks) (R : HRep prog w P o p H ks)
    (hl : ∀ l ∈ v.links, ∃ t, H.ts[l.2]? = some t ∧ (l.1 = .strong → t.st ≠ .gone))
    (hQ : ∀ ks' h' t' Γ, Kept h₀ ks s.heap h' ks' → TupL s.heap h' Γ → HRep prog w P o p (H.links v.links 1) ks' → Q x { s with heap := h', toks := t' }) : wpAny (model prog w) A (call (.ref 178) [.ref o, x]) Q E s := by
  refine enterY (binds := [(Str.ofString "self", .ref o), (Str.ofString "value", x)]) C hk hh (Nat.lt_trans hu (by decide)) O C.KF.f178 rfl (Nat.lt_trans hd (by decide)) (fun _ _ _ => BindsTo.of_eq rfl) (locs rfl) rfl rfl rfl (by decide) ?_
  intro g L h₁ tk cdv A' X m0 hX0 hX1 hX2 y h0 hL hin
  have hvg : VR (Gt g) x v.py := hv.mono2 (gt_of O hin hP)
  refine y_for (ev_call y.ok.C.g_counted_in y.ok.C.k_counted_in (pvs1 (pv_loc rfl)) y fun vs s1 e y1 => ?_)
  obtain rfl := Va1.eq e
  refine counted_spec (v := v) (P := Or (Gt g) []) y1.ok.C y1.st hX0 (lvA hX1 hd) (lvC hX2 hu) y1.z.has hvg.inl hdep hsz ?_
  intro cl ws c h' t' Γ' kk tl hws
  have hlen : ws.length = v.links.length := by simpa using hws.length
  let J16 : Nat → (Str → Option Value) → List (Addr × Obj) → List (Addr × Obj) → Prop := fun i m news Γ => ∃ ksi, news = (cl, listOf ws.toArray c) :: ksi ∧ m "self" = some (.ref o) ∧ m "value" = some x ∧ VRs (Or No Γ) ws (v.links.map Link.py) ∧ HRep prog w P o p (H.links (v.links.take i) 1) ksi
  refine ⟨cl, ws.length, J16,
    _, _, _, rfl, y1.call1 kk tl, ⟨ks, rfl, rfl, rfl, hws.left, by simpa [Mine.H.links] using R⟩, ?_, ?_⟩
  · intro i m news Γ hJJ; refine Exists.elim hJJ fun ksi hKK => an5 hKK fun hE55 ms mv hw Ri => ?_; clear hJJ hKK; subst hE55
    refine ⟨_, _, .head _, by simp, fun hlt I oI u s7 E' ho hx y7 => ?_⟩
    have hx' : ws[i]? = some u := by simpa using hx
    have hpi : i < v.links.length := by exact n_ls hlt (Nat.le_of_eq hlen)
    obtain ⟨u', hu1, hu2⟩ := hw.get (i := i) (d := (v.links[i]).py) (by simp [hpi])
    rw [hx'] at hu1; cases hu1
    refine ctr fun hG238 => ?_; obtain ⟨t, a, b, rfl, tt, ha, hb⟩ := VR.linkTT (g := g) hu2.no; refine hG238 ?_; clear hG238
    obtain ⟨T0, hT0, hstr⟩ := hl _ (List.getElem_mem hpi)
    refine ctr fun hG239 => ?_; obtain ⟨T1, hT1, hst1, _, _, _⟩ := Mine.H.links_get (v.links.take i) 1 _ hT0; refine hG239 ?_; clear hG239
    have hnext : H.links (v.links.take (i + 1)) 1 = (H.links (v.links.take i) 1).link (v.links[i]) 1 := by
      rw [List.take_succ_eq_append_getElem hpi, Mine.H.links_snoc]
    refine as_pair y7 tt fun s8 y8 => ?_
    refine ex6 Ri.head fun es n od lv ql cc hJJ => an10 hJJ fun m1 m2 m3 m4 er elv hod lo hql hlen' => ?_; clear hJJ
    obtain ⟨tp, htp⟩ := Ri.place hT1
    refine ex9 (Ri.thing hT1 htp) fun es2 n2 kd nm sv wv uv stv f hJJ => an11 hJJ fun t1 t2 er2 k1 k2 k3 k4 k5 k6 hset _ => ?_; clear hJJ
    have i2 : ∀ {q : Addr × Obj}, q ∈ ksi → q ∈ (I, oI) :: (cl, listOf ws.toArray c) :: ksi := fun h => .tail _ (.tail _ h)
    cases hk3 : (v.links[i]).1 with
    | strong =>
      rw [hk3] at ha
      refine y_if_t (pb_eqs ((pv_loc (up_skip up_hit)).mono fun v e => by subst e; exact ha) pv_str (by decide +kernel)) y8 fun s9 y9 => ?_
      refine y_expr (ev_meth (pv_loc (up_skip (up_skip ms))) (i2 m1) (i2 m2) er y9.ok.C.m_retain y9.ok.C.n_retain y9.ok.C.km_retain (pvs1 (pv_loc up_hit)) y9 fun vs s10 e y10 => ?_)
      obtain rfl := Va1.eq e
      refine retain_spec (P := P) y10.ok.C y10.st hX0 (lvA hX1 hd) (lvC hX2 hu) (y10.own (loc := [_, _]) Ri.noT) Ri hT1 hb (by rw [hst1]; exact hstr hk3) ?_
      intro ks2 h2 t2' kk2 R2
      refine y_nil (y_nil ⟨_, _, _, y10.callK (loc := [_, _]) Ri.noT kk2, ks2, rfl, up_skip (up_skip ms), up_skip (up_skip mv), hw, ?_⟩)
      rw [hnext, show v.links[i] = (W3.strong, (v.links[i]).2) from Prod.ext hk3 rfl]
      exact R2
    | weak =>
      rw [hk3] at ha
      rw [Mine.H.link_eq hT1, hk3] at hnext
      refine y_if_e (pb_eqs ((pv_loc (up_skip up_hit)).mono fun v e => by subst e; exact ha) pv_str (by decide +kernel)) y8 fun s9 y9 => ?_
      refine y_if_t (pb_eqs ((pv_loc (up_skip up_hit)).mono fun v e => by subst e; exact ha) pv_str (by decide +kernel)) y9 fun s9 y9 => ?_
      refine y_asgattr (ev_pv (pv_add (pv_attrI (pv_ditem (pv_attr (pv_loc (up_skip (up_skip ms))) (i2 m1) (i2 m2) er (.inr rfl) fun ok => ok.C.a_things) (pv_loc up_hit) (i2 m3) hod (fun x e => by subst e; exact isI_is (X := X) hb) (keyed_at htp)) (i2 t1) (i2 t2.mem) er2 (.inl rfl) (fun ok => ok.C.a_weak) k4) pv_int) y9 fun v' s3 e y3 =>
        ev_pvq (pv_ditem (pv_attr (pv_loc (up_skip (up_skip ms))) (i2 m1) (i2 m2) er (.inr rfl) fun ok => ok.C.a_things) (pv_loc up_hit) (i2 m3) hod (fun x e => by subst e; exact isI_is (X := X) hb) (keyed_at htp)) y3 fun s4 y4 => ?_)
      refine c_setattr y4 (i2 t1) (.tail (.tail t2)) er2 (.inl rfl) y4.ok.C.t_weak fun s5 es' n' er' y5 => y_nil (y_nil (y_nil ?_))
      have R' := hset es' n' (T1.addW 1) _ _ _ _ er' k3 e k5 k6 rfl rfl rfl
      exact ⟨_, _, _, y5, _, rfl, up_skip (up_skip ms), up_skip (up_skip mv), hw, by rw [hnext]; exact R'⟩
    | unowned =>
      rw [hk3] at ha
      rw [Mine.H.link_eq hT1, hk3] at hnext
      refine y_if_e (pb_eqs ((pv_loc (up_skip up_hit)).mono fun v e => by subst e; exact ha) pv_str (by decide +kernel)) y8 fun s9 y9 => ?_
      refine y_if_e (pb_eqs ((pv_loc (up_skip up_hit)).mono fun v e => by subst e; exact ha) pv_str (by decide +kernel)) y9 fun s9 y9 => ?_
      refine y_asgattr (ev_pv (pv_add (pv_attrI (pv_ditem (pv_attr (pv_loc (up_skip (up_skip ms))) (i2 m1) (i2 m2) er (.inr rfl) fun ok => ok.C.a_things) (pv_loc up_hit) (i2 m3) hod (fun x e => by subst e; exact isI_is (X := X) hb) (keyed_at htp)) (i2 t1) (i2 t2.mem) er2 (.inl rfl) (fun ok => ok.C.a_unowned) k5) pv_int) y9 fun v' s3 e y3 =>
        ev_pvq (pv_ditem (pv_attr (pv_loc (up_skip (up_skip ms))) (i2 m1) (i2 m2) er (.inr rfl) fun ok => ok.C.a_things) (pv_loc up_hit) (i2 m3) hod (fun x e => by subst e; exact isI_is (X := X) hb) (keyed_at htp)) y3 fun s4 y4 => ?_)
      refine c_setattr y4 (i2 t1) (.tail (.tail t2)) er2 (.inl rfl) y4.ok.C.t_unowned fun s5 es' n' er' y5 => y_nil (y_nil (y_nil ?_))
      have R' := hset es' n' (T1.addU 1) _ _ _ _ er' k3 k4 e k6 rfl rfl rfl
      exact ⟨_, _, _, y5, _, rfl, up_skip (up_skip ms), up_skip (up_skip mv), hw, by rw [hnext]; exact R'⟩
  · intro m news Γ s7 hJJ; refine Exists.elim hJJ fun ksi hKK => an5 hKK fun hE56 ms mv hw Ri => ?_; clear hJJ hKK; subst hE56; intro y7
    refine y_ret (pv_loc mv) y7 fun r s8 e y8 => ?_
    subst e
    rw [y8.e]
    rw [hlen, List.take_length] at Ri
    exact hQ _ _ _ _ (y8.kept h0 hin (List.sublist_cons_self _ _) Ri.noT) (y8.z.tupL hL) Ri
end
end Mine
end
section
open PySem PySem.W PySem.Calls PyProof.Rows PySem.Spec
set_option Elab.async false
set_option maxRecDepth 100000
set_option maxHeartbeats 4000000
set_option linter.unusedVariables false
namespace Mine
noncomputable def Sta.isLive : Sta → Bool
  | .live => true
  | _ => false
theorem live_word (x : Sta) : (x.word == Str.ofString "live") = x.isLive := by cases x <;> decide +kernel
noncomputable def Kd.isObj : Kd → Bool
  | .object => true
  | _ => false
theorem obj_word (x : Kd) : (x.word == Str.ofString "object") = x.isObj := by cases x <;> decide +kernel
noncomputable def T.ends (t : T) : Bool := t.strong == 1 && t.st.isLive
noncomputable def H.kill (H : Mine.H) (k : Nat) (t : T) : Mine.H := if t.kind.isObj then { H.set k { t.addS (-1) with st := .dying } with dying := H.dying ++ [k] } else H.set k { t.addS (-1) with fields := [], st := .gone }
noncomputable def T.spill (t : T) : List Link := if t.kind.isObj then [] else t.fields.flatMap V.links
theorem H.kill_obj (H : Mine.H) (k : Nat) (t : T) (h : t.kind.isObj = true) : H.kill k t = { H.set k { t.addS (-1) with st := .dying } with dying := H.dying ++ [k] } ∧ t.spill = [] := by
  unfold Mine.H.kill T.spill
  rw [h]; exact ⟨rfl, rfl⟩
theorem H.kill_not (H : Mine.H) (k : Nat) (t : T) (h : t.kind.isObj = false) : H.kill k t = H.set k { t.addS (-1) with fields := [], st := .gone } ∧ t.spill = t.fields.flatMap V.links := by
  unfold Mine.H.kill T.spill
  rw [h]; exact ⟨rfl, rfl⟩
theorem IntsAre.snoc {vs : List Value} {ns : List Int} (h : IntsAre vs ns) (i : Int) (t : Tok) : IntsAre (vs ++ [.int i t]) (ns ++ [i]) := by
  induction h with
  | nil => exact .cons _ _ .nil
  | cons a b _ ih => exact .cons _ _ ih
theorem HRep.queue {prog : Program} {w : World} {P : Addr → Obj → Prop} {o : Addr} {p : HP} {H : H} {ks : List (Addr × Obj)} (r : HRep prog w P o p H ks) : ∃ ql c f, At p.q (listOf (List.toArray ql) c) ks f ∧ IntsAre ql (H.dying.map fun n : Nat => (n : Int) + 1) ∧
    ∀ ql' dy c', IntsAre ql' (dy.map fun n : Nat => (n : Int) + 1) → HRep prog w P o p { H with dying := dy } (f (listOf (List.toArray ql') c')) := by
  cases r with | mk a b c d e f =>
  exact ⟨_, _, _, .tail (.tail (.tail .head)), e, fun ql' dy c' h => .mk (H := { H with dying := dy }) a b c d h f⟩
theorem set_get {α : Type} {l : List α} {k : Nat} {x y : α} (h : l[k]? = some x) : (l.set k y)[k]? = some y := by
  have := (List.getElem?_eq_some_iff.mp h).1
  simp [this]
section
variable {prog : Program} {w : World} {K : Frag} {A : Around} {E : Value → Shared → Prop} {s : Shared} {h₀ : Heap} {P : Addr → Obj → Prop} {o : Addr} {p : HP} {H : H} {ks : List (Addr × Obj)} {Q : Value → Shared → Prop}
theorem dropped_spec {k : Nat} {t : T} {v : Value} (C : Cx K h₀) (hk : h₀.StaysIn s.heap) (hh : A.handled = none) (hd : A.depth < 880) (hu : A.units < 7800) (hP : ∀ a o, P a o → s.heap.get? a = some o) (O : Own h₀ s.heap ks) (R : HRep prog w P o p H ks) (ht : H.ts[k]? = some t) (hv : IsI ((k : Int) + 1) v) (hst : t.st ≠ .gone) (hs : 1 ≤ t.strong)
    (hdep : ∀ u ∈ t.fields, u.dep ≤ 60) (hsz : (t.fields.map V.size).sum ≤ 2 ^ 22) (hdy : H.dying.length ≤ 1000)
    (h1 : t.ends = false → ∀ l ks' h' t' c, Kept h₀ ks s.heap h' ((l, listOf #[] c) :: ks') → HRep prog w P o p (H.link (.strong, k) (-1)) ks' → Q (.ref l) { s with heap := h', toks := t' })
    (h2 : t.ends = true → ∀ p' l vs c ks' h' t' Γ, Kept h₀ ks s.heap h' ((l, listOf (List.toArray vs) c) :: ks') → TupL s.heap h' Γ → VRs (Or No Γ) vs (t.spill.map Link.py) → HRep prog w P o p' (H.kill k t) ks' → Q (.ref l) { s with heap := h', toks := t' }) :
    wpAny (model prog w) A (call (.ref 157) [.ref o, v]) Q E s := by
  refine enterY (binds := [(Str.ofString "self", .ref o), (Str.ofString "number", v)]) C hk hh (Nat.lt_trans hu (by decide)) O C.KF.f157 rfl (Nat.lt_trans hd (by decide)) (fun _ _ _ => BindsTo.of_eq rfl) (locs rfl) rfl rfl rfl (by decide) ?_
  intro g L h₁ tk cdv A' X m0 hX0 hX1 hX2 y h0 hL hin
  have hPg := gt_of O hin hP
  refine ex6 R.head fun es n od lv ql c hJJ => an10 hJJ fun m1 m2 m3 m4 er elv hod lo hql hlen => ?_; clear hJJ
  obtain ⟨tp, htp⟩ := R.place ht
  refine ex9 (R.thing ht htp) fun es2 n2 kd nm sv wv uv stv f hJJ => an11 hJJ fun t1 t2 er2 k1 k2 k3 k4 k5 k6 hset _ => ?_; clear hJJ
  refine y_asgeff (ev_meth (pv_loc rfl) m1 m2 er y.ok.C.m_thing y.ok.C.n_thing y.ok.C.km_thing (pvs1 (pv_loc rfl)) y fun vs s1 e y1 => ?_)
  obtain rfl := Va1.eq e
  refine thing_spec y1.ok.C y1.st hX0 (lvA hX1 hd) (lvC hX2 hu) (y1.own (loc := []) R.noT) R ht htp hv hst fun h' t' kk => y_store (y1.callN R.noT kk) fun s2 y2 => ?_
  refine y_if_f (pb_lti (pv_attrI (pv_loc up_hit) t1 t2.mem er2 (.inl rfl) (fun ok => ok.C.a_strong) k3) pv_int (decide_eq_false (by lia))) y2 fun s2 y2 => ?_
  refine y_asgattr (ev_pv (pv_sub (pv_attrI (pv_loc up_hit) t1 t2.mem er2 (.inl rfl) (fun ok => ok.C.a_strong) k3) pv_int) y2 fun v1 s3 e y3 => ev_pvq (pv_loc up_hit) y3 fun s4 y4 => ?_)
  refine c_setattr y4 t1 t2 er2 (.inl rfl) y4.ok.C.t_strong fun s5 es' n' er' y5 => ?_
  have R1 := hset es' n' (t.addS (-1)) _ _ _ _ er' e k4 k5 k6 rfl rfl rfl
  have ht1 : (H.set k (t.addS (-1))).ts[k]? = some (t.addS (-1)) := set_get ht
  clear hset er' t2 t1 er2 es2 n2 m1 m2 m3 m4 er
  generalize hks1 : f (dictOf es' n') = ks1 at R1 y5
  clear hks1
  refine ex6 R1.head fun es n od lv ql c hJJ => an10 hJJ fun m1 m2 m3 m4 er elv hod lo hql hlen => ?_; clear hJJ
  refine ex9 (R1.thing ht1 htp) fun es2 n2 kd nm sv wv uv stv f hJJ => an11 hJJ fun t1 t2 er2 k1 k2 k3 k4 k5 k6 hset hLL => ex2 hLL fun fcs cc hMM => an2 hMM fun t3 k7 => ?_; clear hJJ hLL hMM
  have k3' : IsI (t.strong - 1) sv := k3
  replace k7 : VRs P fcs (t.fields.map V.py) := k7
  cases hE : t.ends with
  | false =>
    have R1' : HRep prog w P o p (H.link (.strong, k) (-1)) ks1 := by rw [Mine.H.link_eq ht]; exact R1
    have fin : ∀ s6, Y X (up (Str.ofString "thing") (.ref tp.a) fun y => List.lookup y [(Str.ofString "self", Value.ref o), (Str.ofString "number", v)].reverse) ks1 [] s6 → ∀ l s7, Y X (up (Str.ofString "thing") (.ref tp.a) fun y => List.lookup y [(Str.ofString "self", Value.ref o), (Str.ofString "number", v)].reverse) ((l, listOf #[] 0) :: ks1) [] s7 → Q (.ref l) s7 := fun s6 y6 l s7 y7 => by
      rw [y7.e]
      refine h1 hE l ks1 _ _ 0 (y7.kept h0 hin (List.Sublist.refl _) fun q hq => ?_) R1'
      rcases List.mem_cons.mp hq with rfl | hq
      · exact notT_list
      · exact R1.noT q hq
    by_cases hgt : 0 < t.strong - 1
    · refine y_if_t (pb_or2_t (pb_gti (pv_attrI (pv_loc up_hit) t1 t2.mem er2 (.inl rfl) (fun ok => ok.C.a_strong) k3') pv_int (decide_eq_true hgt))) y5 fun s6 y6 => ?_
      refine y_reteff (ev_list pvs_nil y6 (by decide) (fun vs e => by subst e; rfl) fun vs l s7 e y7 => ?_)
      subst e
      exact fin s6 y6 l s7 y7
    · have hse : t.strong = 1 := by lia
      have hnl : (t.st.word == Str.ofString "live") = !true := by
        rw [live_word]
        simpa [T.ends, hse] using hE
      refine y_if_t (pb_or2_fr (pb_gti (pv_attrI (pv_loc up_hit) t1 t2.mem er2 (.inl rfl) (fun ok => ok.C.a_strong) k3') pv_int (decide_eq_false hgt)) (pb_nes (pv_attrS (pv_loc up_hit) t1 t2.mem er2 (.inl rfl) (fun ok => ok.C.a_state) k6) pv_str hnl)) y5 fun s6 y6 => ?_
      refine y_reteff (ev_list pvs_nil y6 (by decide) (fun vs e => by subst e; rfl) fun vs l s7 e y7 => ?_)
      subst e
      exact fin s6 y6 l s7 y7
  | true =>
    have hE' := hE
    unfold T.ends at hE'
    rw [Bool.and_eq_true] at hE'
    have hse : t.strong = 1 := by simpa using hE'.1
    have hnl : (t.st.word == Str.ofString "live") = !false := by rw [live_word]; exact hE'.2
    have hng : t.st ≠ .gone := hst
    refine y_if_f (pb_or2_fr (pb_gti (pv_attrI (pv_loc up_hit) t1 t2.mem er2 (.inl rfl) (fun ok => ok.C.a_strong) k3') pv_int (decide_eq_false (by lia))) (pb_nes (pv_attrS (pv_loc up_hit) t1 t2.mem er2 (.inl rfl) (fun ok => ok.C.a_state) k6) pv_str hnl)) y5 fun s6 y6 => ?_
    cases hO : t.kind.isObj with
    | true =>
      refine y_if_t (pb_eqs (pv_attrS (pv_loc up_hit) t1 t2.mem er2 (.inl rfl) (fun ok => ok.C.a_kind) k1) pv_str (by rw [← hO]; exact obj_word _)) y6 fun s7 y7 => ?_
      refine y_asgattr (ev_pv pv_str y7 fun v2 s8 e2 y8 => ev_pvq (pv_loc up_hit) y8 fun s9 y9 => ?_)
      refine c_setattr y9 t1 t2 er2 (.inl rfl) y9.ok.C.t_state fun s10 es3 n3 er3 y10 => ?_
      have R2 := hset es3 n3 { t.addS (-1) with st := .dying } _ _ _ _ er3 k3 k4 k5 e2 rfl rfl rfl
      generalize hks2 : f (dictOf es3 n3) = ks2 at R2 y10
      clear hks2 hset er3 t1 t2 t3 er2 m1 m2 m3 m4 er es n
      refine ex6 R2.head fun es n od lv ql c hJJ => an10 hJJ fun m1 m2 m3 m4 er elv hod lo hql hlen => ?_; clear hJJ
      refine ex3 R2.queue fun ql qc qf hJJ => an3 hJJ fun aq hq hqs => ?_; clear hJJ
      refine y_expr (ev_lm1 (pv_attr (pv_loc (up_skip rfl)) m1 m2 er (.inr rfl) (fun ok => ok.C.a_dying)) aq.mem PySem.F.slot_list_append rfl y10 fun s11 y11 => ev_pvq (pv_loc (up_skip rfl)) y11 fun s12 y12 => ?_)
      obtain ⟨u, rfl⟩ := hv
      have hsz2 : ql.toArray.size ≤ sizeLine := by
        have e1 := hq.length
        rw [List.length_map] at e1
        have hS : sizeLine = 16777216 := rfl
        have e2 : (H.set k { t.addS (-1) with st := .dying }).dying.length = H.dying.length := rfl
        have e3 : ((H.set k (t.addS (-1))).set k { t.addS (-1) with st := .dying }).dying.length = H.dying.length := rfl
        rw [e3] at e1
        rw [List.size_toArray]; exact n_e e1 (n_t hdy (n_b rfl))
      refine c_append y12 aq hsz2 fun s13 k13 y13 => ?_
      rw [show ql.toArray.push (Value.int ((k : Int) + 1) u) = (ql ++ [Value.int ((k : Int) + 1) u]).toArray by simp] at y13
      have R3 := hqs (ql ++ [Value.int ((k : Int) + 1) u]) (H.dying ++ [k]) k13 (by rw [List.map_append]; exact IntsAre.snoc hq _ _)
      refine y_reteff (ev_list pvs_nil y13 (by decide) (fun vs e => by subst e; rfl) fun vs l s14 e y14 => ?_)
      subst e
      rw [y14.e]
      obtain ⟨eK, eS⟩ := H.kill_obj k t hO
      rw [eK, eS] at h2
      have eB : ({ (H.set k (t.addS (-1))).set k { t.addS (-1) with st := .dying } with dying := H.dying ++ [k] } : Mine.H) = { H.set k { t.addS (-1) with st := .dying } with dying := H.dying ++ [k] } := by
        unfold Mine.H.set; simp
      rw [eB] at R3
      refine h2 hE p l [] 0 _ _ _ _ (y14.kept h0 hin (List.Sublist.refl _) fun q hq => ?_) (y14.z.tupL hL) .nil R3
      rcases List.mem_cons.mp hq with rfl | hq
      · exact notT_list
      · exact R3.noT q hq
    | false =>
      obtain ⟨eK, eS⟩ := H.kill_not k t hO
      rw [eK, eS] at h2
      refine y_if_f (pb_eqs (pv_attrS (pv_loc up_hit) t1 t2.mem er2 (.inl rfl) (fun ok => ok.C.a_kind) k1) pv_str (by rw [← hO]; exact obj_word _)) y6 fun s7 y7 => ?_
      refine y_asgeff (ev_list pvs_nil y7 (by decide) (fun vs e => by subst e; rfl) fun vs fl s8 e8 y8 => y_store y8 fun s9 y9 => ?_)
      subst e8
      have hflen : fcs.length = t.fields.length := by simpa using k7.length
      refine y_for (ev_pvq (pv_attr (pv_loc (up_skip up_hit)) (.tail _ t1) (.tail _ t2.mem) er2 (.inl rfl) (fun ok => ok.C.a_fields)) y9 fun s10 y10 => ?_)
      let J17 : Nat → (Str → Option Value) → List (Addr × Obj) → List (Addr × Obj) → Prop := fun i m news Γ => ∃ its c1, news = (fl, listOf its c1) :: ks1 ∧ m "self" = some (.ref o) ∧ m "number" = some v ∧ m "found" = some (.ref fl) ∧ VRs (Or No Γ) its.toList (((t.fields.take i).flatMap V.links).map Link.py)
      refine ⟨tp.f, fcs.length, J17,
        _, _, _, rfl, y10, ⟨#[], 0, rfl, rfl, rfl, rfl, .nil⟩, ?_, ?_⟩
      · intro i m news Γ hJJ; refine ex2 hJJ fun its c1 hKK => an5 hKK fun hE57 ms mn mf hi => ?_; clear hJJ hKK; subst hE57
        refine ⟨_, _, .tail _ t3, by simp, fun hlt I oI u s11 E' ho hx y11 => as_name y11 fun s12 y12 => ?_⟩
        have hx' : fcs[i]? = some u := by simpa using hx
        have hpi : i < t.fields.length := by exact n_ls hlt (Nat.le_of_eq hflen)
        obtain ⟨u', hu1, hu2⟩ := k7.get (i := i) (d := (t.fields[i]).py) (by rw [List.getElem?_map]; show Option.map _ t.fields[i]? = _; simp [hpi])
        rw [hx'] at hu1; cases hu1
        have hmem : t.fields[i] ∈ t.fields := List.getElem_mem _
        have hsp := sizes_mem hmem
        refine y_expr (ev_lmeth1 (pv_loc (up_skip mf)) (.tail .head) PySem.F.slot_list_extend rfl y12 fun s13 y13 => ev_call y13.ok.C.g_counted_in y13.ok.C.k_counted_in (pvs1 (pv_loc up_hit)) y13 fun vs s14 e y14 => ?_)
        obtain rfl := Va1.eq e
        refine counted_spec (v := t.fields[i]) (P := Or (Gt g) Γ) y14.ok.C y14.st hX0 (lvA hX1 hd) (lvC hX2 hu) y14.z.has (hu2.mono2 hPg).inl (hdep _ hmem) (n_t hsp hsz) ?_
        intro rl rs c3 h'' t'' Γ'' kk2 tl2 hrs
        have hl1 := hi.length
        have hl2 := hrs.length
        have hl3 := links_take t.fields (i + 1)
        have hl4 : ((t.fields.take (i + 1)).flatMap V.links) = ((t.fields.take i).flatMap V.links) ++ (t.fields[i]).links := by
          rw [List.take_succ_eq_append_getElem hpi, List.flatMap_append]; simp
        rw [hl4] at hl3
        simp only [List.length_map, Array.length_toList, List.length_append] at hl1 hl2 hl3
        have hS : sizeLine = 16777216 := rfl
        refine c_extend (y14.call1 kk2 tl2) (.tail (.tail .head)) (.head _) (by simp; exact n_t (n_a (n_e hl1 (n_t (n_al hl3) (n_t hsz (Nat.le_refl _)))) (n_e hl2 (n_t (n_ar hl3) (n_t hsz (Nat.le_refl _))))) (n_b rfl)) fun s15 k15 y15 => y_nil ?_
        refine ⟨_, _, _, y15.sub (List.sublist_cons_self _ _), _, _, rfl, up_skip ms, up_skip mn, up_skip mf, ?_⟩
        rw [hl4, List.map_append, Array.toList_append]
        exact hi.upA.append hrs.left
      · intro m news Γ s11 hJJ; refine ex2 hJJ fun its c1 hKK => an5 hKK fun hE58 ms mn mf hi => ?_; clear hJJ hKK; subst hE58; intro y11
        rw [hflen, List.take_length] at hi
        refine y_expr (ev_meth (pv_loc ms) (.tail _ m1) (.tail _ m2) er y11.ok.C.m_buried y11.ok.C.n_buried y11.ok.C.km_buried (pvs1 (pv_loc mn)) y11 fun vs s12 e y12 => ?_)
        obtain rfl := Va1.eq e
        refine buried_spec (P := P) y12.ok.C y12.st hX0 (lvA hX1 hd) (lvC hX2 hu) (y12.own (loc := [_]) R1.noT) R1 ht1 hv hng ?_
        intro p' ks' h' t' kk R3
        refine y_ret (pv_loc mf) (y12.callK (loc := [_]) R1.noT kk) fun r s13 e y13 => ?_
        subst e
        rw [y13.e]
        have eB : (H.set k (t.addS (-1))).bury k (t.addS (-1)) = H.set k { t.addS (-1) with fields := [], st := .gone } := by
          unfold Mine.H.bury Mine.H.set; simp
        rw [eB] at R3
        refine h2 hE p' fl its.toList _ _ _ _ _ (y13.kept h0 hin (List.Sublist.refl _) fun q hq => ?_) (y13.z.tupL hL) hi R3
        rcases List.mem_cons.mp hq with rfl | hq
        · exact notT_list
        · exact R3.noT q hq
end
end Mine
end
section
open PySem PySem.W PySem.Calls PyProof.Rows PySem.Spec
set_option Elab.async false
set_option maxRecDepth 100000
set_option maxHeartbeats 1000000
set_option linter.unusedVariables false
namespace Mine
/-! ### the plain model: letting go -/
noncomputable def isStr : W3 → Bool
  | .strong => true
  | _ => false
noncomputable def H.step (H : Mine.H) (l : Link) : Mine.H × List Link := match H.ts[l.2]? with
  | none => (H, [])
  | some t => if isStr l.1 && t.ends then (H.kill l.2 t, t.spill) else (H.link l (-1), [])
/-- what a step asks -/
structure OkStep (H : Mine.H) (l : Link) (t : T) : Prop where
  at_ : H.ts[l.2]? = some t
  str : isStr l.1 = true → 1 ≤ t.strong ∧ t.st ≠ .gone
  dep : ∀ u ∈ t.fields, u.dep ≤ 60
  sz : (t.fields.map V.size).sum ≤ 2 ^ 22
  dy : H.dying.length ≤ 1000
theorem step_of {H : Mine.H} {l : Link} {t : T} (h : H.ts[l.2]? = some t) : H.step l = if isStr l.1 && t.ends then (H.kill l.2 t, t.spill) else (H.link l (-1), []) := by
  unfold Mine.H.step; rw [h]
/-- the work list -/
inductive Run : Nat → Mine.H → List Link → Mine.H → Prop
  | nil {H : Mine.H} : Run 0 H [] H
  | cons {n : Nat} {H H' : Mine.H} {l : Link} {t : T} {ls : List Link} : OkStep H l t → (l :: ls).length ≤ 2 ^ 23 → Run n (H.step l).1 ((H.step l).2 ++ ls) H' → Run (n + 1) H (l :: ls) H'
/-- the recursion -/
inductive Gone : Nat → Mine.H → List Link → Mine.H → Prop
  | nil {d : Nat} {H : Mine.H} : Gone d H [] H
  | cons {d : Nat} {H H1 H' : Mine.H} {l : Link} {t : T} {ls : List Link} : OkStep H l t → Gone d (H.step l).1 (H.step l).2 H1 → Gone (d + 1) H1 ls H' → Gone (d + 1) H (l :: ls) H'

/-! links of the fields, x left out -/
noncomputable def T.own (x : Option Nat) (i : Nat) (t : T) : List Link := if x = some i then [] else t.fields.flatMap V.links
noncomputable def fl (x : Option Nat) : Nat → List T → List Link
  | _, [] => []
  | i, t :: r => t.own x i ++ fl x (i + 1) r
noncomputable def occ (k : Nat) (ls : List Link) : Nat := ls.countP fun l => isStr l.1 && l.2 == k
theorem occ_app (k : Nat) (a b : List Link) : occ k (a ++ b) = occ k a + occ k b := List.countP_append
theorem fl_set (x : Option Nat) (f : List Link → Nat) (hf : ∀ a b, f (a ++ b) = f a + f b) {ts : List T} {k : Nat} {t t' : T} (h : ts[k]? = some t) : ∀ i, f (fl x i (ts.set k t')) + f (t.own x (i + k)) = f (fl x i ts) + f (t'.own x (i + k)) := by
  induction ts generalizing k with
  | nil => cases h
  | cons a r ih =>
    intro i
    cases k with
    | zero => cases h; simp only [List.set_cons_zero, fl, hf, Nat.add_zero]; lia
    | succ k =>
      have := ih (k := k) h (i + 1)
      simp only [List.set_cons_succ, fl, hf]
      rw [show i + (k + 1) = i + 1 + k by lia]
      lia
theorem fl_mem (x : Option Nat) {ts : List T} {k : Nat} {t' : T} {l : Link} : ∀ i, l ∈ fl x i (ts.set k t') → l ∈ fl x i ts ∨ l ∈ t'.own x (i + k) := by
  induction ts generalizing k with
  | nil => intro i h; exact .inl h
  | cons a r ih =>
    intro i h
    cases k with
    | zero =>
      simp only [List.set_cons_zero, fl, List.mem_append] at h ⊢
      rcases h with h | h
      · exact .inr h
      · exact .inl (.inr h)
    | succ k =>
      simp only [List.set_cons_succ, fl, List.mem_append] at h ⊢
      rcases h with h | h
      · exact .inl (.inl h)
      · rcases ih (i + 1) h with h | h
        · exact .inl (.inr h)
        · exact .inr (by rwa [show i + (k + 1) = i + 1 + k by lia])
theorem fl_own (x : Option Nat) {ts : List T} {k : Nat} {t : T} {l : Link} (h : ts[k]? = some t) : ∀ i, l ∈ t.own x (i + k) → l ∈ fl x i ts := by
  induction ts generalizing k with
  | nil => cases h
  | cons a r ih =>
    intro i hm
    simp only [fl, List.mem_append]
    cases k with
    | zero => cases h; exact .inl hm
    | succ k => exact .inr (ih h (i + 1) (by rwa [show i + 1 + k = i + (k + 1) by lia]))
theorem fl_snoc (x : Option Nat) (ts : List T) (t : T) : ∀ i, fl x i (ts ++ [t]) = fl x i ts ++ t.own x (i + ts.length) := by
  induction ts with
  | nil => intro i; simp [fl]
  | cons a r ih => intro i; simp only [List.cons_append, fl, ih, List.append_assoc, List.length_cons]; rw [show i + 1 + r.length = i + (r.length + 1) by lia]
noncomputable def lives (ts : List T) : Nat := ts.countP fun t => t.st.isLive
theorem lives_set {ts : List T} {k : Nat} {t t' : T} (h : ts[k]? = some t) : lives (ts.set k t') + (if t.st.isLive then 1 else 0) = lives ts + (if t'.st.isLive then 1 else 0) := by
  induction ts generalizing k with
  | nil => cases h
  | cons a r ih =>
    cases k with
    | zero => cases h; simp only [List.set_cons_zero, lives, List.countP_cons]; lia
    | succ k => have := ih (k := k) h; simp only [List.set_cons_succ, lives, List.countP_cons] at this ⊢; lia
theorem lives_le (ts : List T) : lives ts ≤ ts.length := List.countP_le_length
noncomputable def fsz (ts : List T) : Nat := (ts.map fun t => (t.fields.map V.size).sum).sum
theorem fsz_set {ts : List T} {k : Nat} {t t' : T} (h : ts[k]? = some t) : fsz (ts.set k t') + (t.fields.map V.size).sum = fsz ts + (t'.fields.map V.size).sum := by
  induction ts generalizing k with
  | nil => cases h
  | cons a r ih =>
    cases k with
    | zero => cases h; simp only [List.set_cons_zero, fsz, List.map_cons, List.sum_cons]; lia
    | succ k => have := ih (k := k) h; simp only [List.set_cons_succ, fsz, List.map_cons, List.sum_cons] at this ⊢; lia
theorem fsz_at {ts : List T} {k : Nat} {t : T} (h : ts[k]? = some t) : (t.fields.map V.size).sum ≤ fsz ts := by
  have := fsz_set (t' := { t with fields := [] }) h
  simp at this; lia

/-! ### the invariant -/
structure Inv (x : Option Nat) (H : Mine.H) (pend : List Link) : Prop where
  cnt : ∀ (k : Nat) (t : T), H.ts[k]? = some t → t.strong = ((occ k (fl x 0 H.ts ++ pend) : Nat) : Int)
  rng : ∀ l ∈ fl x 0 H.ts ++ pend, l.2 < H.ts.length
  lv : ∀ (k : Nat) (t : T), H.ts[k]? = some t → (t.st.isLive = true ↔ 1 ≤ t.strong)
  dy : ∀ k ∈ H.dying, ∃ t : T, H.ts[k]? = some t ∧ t.st = .dying
  nd : H.dying.Nodup
  dl : H.dying.length + lives H.ts ≤ H.ts.length
  xs : ∀ k, x = some k → ∃ t : T, H.ts[k]? = some t ∧ t.st = .dying ∧ k ∉ H.dying
structure Bd (D S : Nat) (H : Mine.H) : Prop where
  dep : ∀ (k : Nat) (t : T), H.ts[k]? = some t → ∀ u ∈ t.fields, V.dep u ≤ D
  sz : fsz H.ts ≤ S
  nm : ∀ (k : Nat) (t : T), H.ts[k]? = some t → PyData.canLay0 (.str t.name) = true ∧ t.fields.length ≤ 2
theorem Bd.mono {D S D' S' : Nat} {H : Mine.H} (b : Bd D S H) (h1 : D ≤ D') (h2 : S ≤ S') : Bd D' S' H := ⟨fun k t h u hu => Nat.le_trans (b.dep k t h u hu) h1, Nat.le_trans b.sz h2, b.nm⟩
theorem set_at {ts : List T} {k i : Nat} {t t' u : T} (h : ts[k]? = some t) (hu : (ts.set k t')[i]? = some u) : (i = k ∧ u = t') ∨ (i ≠ k ∧ ts[i]? = some u) := by
  rw [List.getElem?_set] at hu
  split at hu
  · rename_i e; subst e
    split at hu
    · cases hu; exact .inl ⟨rfl, rfl⟩
    · cases hu
  · rename_i e; exact .inr ⟨fun q => e q.symm, hu⟩
theorem link_set {H : Mine.H} {l : Link} {d : Int} {t : T} (h : H.ts[l.2]? = some t) : (H.link l d).ts = H.ts.set l.2 (t.add l.1 d) ∧ (H.link l d).dying = H.dying := by rw [Mine.H.link_eq h]; exact ⟨rfl, rfl⟩
theorem own_congr {x : Option Nat} {i : Nat} {t t' : T} (h : t'.fields = t.fields) : t'.own x i = t.own x i := by unfold T.own; rw [h]
theorem own_nil {x : Option Nat} {i : Nat} {t : T} (h : t.fields = []) : t.own x i = [] := by unfold T.own; rw [h]; split <;> rfl
/-- the ledger of fields, one thing changed -/
theorem flo_set {x : Option Nat} {ts : List T} {k : Nat} {t t' : T} (h : ts[k]? = some t) (j : Nat) : occ j (fl x 0 (ts.set k t')) + occ j (t.own x k) = occ j (fl x 0 ts) + occ j (t'.own x k) := by
  have := fl_set x (occ j) (occ_app j) (t' := t') h 0
  simpa using this
theorem Inv.okStep {x : Option Nat} {H : Mine.H} {l : Link} {pend : List Link} (I : Inv x H (l :: pend)) (B : Bd 60 (2 ^ 22) H) (hn : H.ts.length ≤ 1000) : ∃ t, OkStep H l t := by
  have hlt := I.rng l (List.mem_append_right _ (.head _))
  have ht : H.ts[l.2]? = some H.ts[l.2] := by simp [hlt]
  refine ⟨H.ts[l.2], ht, fun hs => ?_, B.dep _ _ ht, Nat.le_trans (fsz_at ht) B.sz, by have := I.dl; exact n_t (n_al this) hn⟩
  have h1 : (1 : Int) ≤ H.ts[l.2].strong := by
    rw [I.cnt _ _ ht, occ_app]
    have : 1 ≤ occ l.2 (l :: pend) := by
      unfold occ
      rw [List.countP_cons]
      simp [hs]
    lia
  refine ⟨h1, fun e => ?_⟩
  have := (I.lv _ _ ht).mpr h1
  rw [e] at this; cases this
theorem Inv.put {x : Option Nat} {H : Mine.H} {pend0 pend' : List Link} {k : Nat} {t t' : T} {dy' : List Nat} (I : Inv x H pend0) (ht : H.ts[k]? = some t) (δ : Int) (hs : t'.strong + δ = t.strong)
    (ho : ∀ j, ((occ j (t'.own x k) : Nat) : Int) + occ j pend' + (if j = k then δ else 0) = occ j (t.own x k) + occ j pend0) (hm : ∀ l, l ∈ t'.own x k ++ pend' → l ∈ t.own x k ∨ l ∈ pend0 ∨ l.2 < H.ts.length) (hlv : t'.st.isLive = true ↔ 1 ≤ t'.strong)
    (hdy : ∀ j ∈ dy', (j ∈ H.dying ∧ j ≠ k) ∨ (j = k ∧ t'.st = .dying)) (hnd : dy'.Nodup) (hdl : dy'.length + (if t'.st.isLive then 1 else 0) ≤ H.dying.length + (if t.st.isLive then 1 else 0)) (hx : x = some k → t'.st = .dying) (hxd : ∀ j, x = some j → j ∉ dy') :
    Inv x ⟨H.ts.set k t', dy'⟩ pend' := by
  have hfl := fun j => flo_set (x := x) (t' := t') ht j
  have hlen : (H.ts.set k t').length = H.ts.length := List.length_set ..
  refine ⟨fun i u hu => ?_, fun l hl => ?_, fun i u hu => ?_, fun j hj => ?_, hnd, ?_, fun j hj => ?_⟩
  · show u.strong = ((occ i (fl x 0 (H.ts.set k t') ++ pend') : Nat) : Int)
    have h1 := hfl i
    have h2 := ho i
    rw [occ_app]
    rcases set_at ht hu with ⟨rfl, rfl⟩ | ⟨hne, hu'⟩
    · have h3 := I.cnt _ _ ht
      rw [occ_app] at h3
      rw [if_pos rfl] at h2
      push_cast at h3 ⊢
      lia
    · have h3 := I.cnt _ _ hu'
      rw [occ_app] at h3
      rw [if_neg hne] at h2
      push_cast at h3 ⊢
      lia
  · show l.2 < (H.ts.set k t').length
    rw [hlen]
    have key : l ∈ fl x 0 H.ts ∨ l ∈ t'.own x k ++ pend' := by
      rcases List.mem_append.mp hl with h | h
      · rcases fl_mem x 0 h with h | h
        · exact .inl h
        · exact .inr (List.mem_append_left _ (by simpa using h))
      · exact .inr (List.mem_append_right _ h)
    rcases key with h | h
    · exact I.rng l (List.mem_append_left _ h)
    · rcases hm l h with h | h | h
      · exact I.rng l (List.mem_append_left _ (fl_own x ht 0 (by simpa using h)))
      · exact I.rng l (List.mem_append_right _ h)
      · exact h
  · rcases set_at ht hu with ⟨rfl, rfl⟩ | ⟨hne, hu'⟩
    · exact hlv
    · exact I.lv _ _ hu'
  · show ∃ u : T, (H.ts.set k t')[j]? = some u ∧ _
    rcases hdy j hj with ⟨h, hne⟩ | ⟨rfl, h⟩
    · obtain ⟨u, h1, h2⟩ := I.dy j h
      exact ⟨u, by rw [List.getElem?_set_ne (Ne.symm hne)]; exact h1, h2⟩
    · exact ⟨t', set_get ht, h⟩
  · show dy'.length + lives (H.ts.set k t') ≤ (H.ts.set k t').length
    rw [hlen]
    have h1 := lives_set (t' := t') ht
    have h2 := I.dl
    lia
  · obtain ⟨u, h1, h2, h3⟩ := I.xs j hj
    show ∃ u : T, (H.ts.set k t')[j]? = some u ∧ _ ∧ j ∉ dy'
    by_cases e : j = k
    · subst e; exact ⟨t', set_get ht, hx hj, hxd j hj⟩
    · exact ⟨u, by rw [List.getElem?_set_ne (Ne.symm e)]; exact h1, h2, hxd j hj⟩
theorem occ_cons (j : Nat) (l : Link) (ls : List Link) : occ j (l :: ls) = occ j ls + (if isStr l.1 && l.2 == j then 1 else 0) := by
  unfold occ; rw [List.countP_cons]
theorem link_mk {H : Mine.H} {w : W3} {k : Nat} {d : Int} {t : T} (h : H.ts[k]? = some t) : H.link (w, k) d = ⟨H.ts.set k (t.add w d), H.dying⟩ := Mine.H.link_eq (l := (w, k)) h
theorem Inv.step {x : Option Nat} {H : Mine.H} {l : Link} {pend : List Link} {t : T} (I : Inv x H (l :: pend)) (ht : H.ts[l.2]? = some t) :
    Inv x (H.step l).1 ((H.step l).2 ++ pend) ∧ lives (H.step l).1.ts ≤ lives H.ts ∧ ((H.step l).2 ≠ [] → lives (H.step l).1.ts < lives H.ts) ∧ (H.step l).1.ts.length = H.ts.length := by
  obtain ⟨w, k⟩ := l
  dsimp only at ht
  rw [step_of (l := (w, k)) ht]
  have hxnd : ∀ j, x = some j → j ∉ H.dying := fun j hj => by obtain ⟨u, h1, h2, h3⟩ := I.xs j hj; exact h3
  have hxk : x = some k → t.st = .dying := fun hj => by obtain ⟨u, h1, h2, h3⟩ := I.xs k hj; rw [ht] at h1; cases h1; exact h2
  have hdyk : ∀ j ∈ H.dying, (j ∈ H.dying ∧ j ≠ k) ∨ (j = k ∧ t.st = .dying) := fun j hj => by
    by_cases e : j = k
    · subst e; obtain ⟨u, h1, h2⟩ := I.dy j hj; rw [ht] at h1; cases h1; exact .inr ⟨rfl, h2⟩
    · exact .inl ⟨hj, e⟩
  have hcnt := I.cnt k t ht
  rw [occ_app, occ_cons] at hcnt
  dsimp only
  cases hw : isStr w with
  | false =>
    rw [Bool.false_and, if_neg Bool.false_ne_true]
    dsimp only
    rw [link_mk ht]
    have hst : (t.add w (-1)).strong = t.strong := by cases w <;> first | rfl | cases hw
    obtain ⟨e1, e2, e3, e4⟩ := add_st t w (-1)
    have ho : (t.add w (-1)).own x k = t.own x k := own_congr e4
    refine ⟨I.put ht 0 (by rw [hst]; lia) (fun j => ?_) (fun l hl => ?_) (by rw [e1, hst]; exact I.lv _ _ ht) (by rw [e1]; exact hdyk) I.nd (by rw [e1]; exact Nat.le_refl _) (by rw [e1]; exact hxk) hxnd, ?_, fun h => absurd rfl h, List.length_set ..⟩
    · rw [ho, occ_cons, hw]; simp
    · rw [ho] at hl
      exact (List.mem_append.mp hl).imp id fun h => .inl (.tail _ h)
    · have := lives_set (t' := t.add w (-1)) ht
      rw [e1] at this
      show lives (H.ts.set k _) ≤ _
      lia
  | true =>
    have hws : w = .strong := by cases w <;> first | rfl | cases hw
    subst hws
    rw [Bool.true_and]
    simp only [isStr, Bool.true_and, beq_self_eq_true, if_true] at hcnt
    have hge : 1 ≤ t.strong := by rw [hcnt]; push_cast; exact n_k1
    have hlive := (I.lv _ _ ht).mpr hge
    have hxk' : x ≠ some k := fun h => by have := hxk h; rw [this] at hlive; cases hlive
    have hnk : k ∉ H.dying := fun h => by
      obtain ⟨u, h1, h2⟩ := I.dy k h
      rw [ht] at h1; cases h1; rw [h2] at hlive; cases hlive
    have hdy' : ∀ j ∈ H.dying, j ∈ H.dying ∧ j ≠ k := fun j hj => ⟨hj, fun e => hnk (e ▸ hj)⟩
    have hocc : ∀ j, occ j ((W3.strong, k) :: pend) = occ j pend + (if j = k then 1 else 0) := fun j => by
      rw [occ_cons]
      by_cases e : j = k
      · subst e; simp [isStr]
      · have : (k == j) = false := by simpa using Ne.symm e
        simp [isStr, e, this]
    cases hE : t.ends with
    | false =>
      rw [if_neg Bool.false_ne_true]
      dsimp only
      rw [link_mk ht]
      have hne : t.strong ≠ 1 := fun e => by unfold T.ends at hE; rw [e, hlive] at hE; cases hE
      have ho : (t.add .strong (-1)).own x k = t.own x k := rfl
      refine ⟨I.put ht 1 (by show t.strong + -1 + 1 = t.strong; lia) (fun j => ?_) (fun l hl => ?_) ?_ (fun j hj => .inl (hdy' j hj)) I.nd (Nat.le_refl _) (fun h => absurd h hxk') hxnd, ?_, fun h => absurd rfl h, List.length_set ..⟩
      · rw [ho, hocc]; push_cast; split <;> simp <;> lia
      · rw [ho] at hl
        exact (List.mem_append.mp hl).imp id fun h => .inl (.tail _ h)
      · show t.st.isLive = true ↔ 1 ≤ t.strong + -1
        rw [hlive]
        simp; lia
      · have := lives_set (t' := t.add .strong (-1)) ht
        have e : (t.add .strong (-1)).st = t.st := rfl
        rw [e] at this
        show lives (H.ts.set k _) ≤ _
        lia
    | true =>
      rw [if_pos rfl]
      dsimp only
      have hs1 : t.strong = 1 := by
        unfold T.ends at hE
        rw [Bool.and_eq_true] at hE
        simpa using hE.1
      have hlt : ∀ t' : T, t'.st.isLive = false → lives (H.ts.set k t') + 1 = lives H.ts := fun t' h => by
        have := lives_set (t' := t') ht
        rw [hlive, h] at this
        simpa using this
      cases hO : t.kind.isObj with
      | true =>
        obtain ⟨eK, eS⟩ := H.kill_obj k t hO
        rw [eK, eS]
        refine ⟨I.put (t' := { t.addS (-1) with st := .dying }) (dy' := H.dying ++ [k]) ht 1 (by show t.strong + -1 + 1 = t.strong; lia) (fun j => ?_) (fun l hl => ?_) ?_ (fun j hj => ?_) ?_ ?_ (fun h => absurd h hxk') (fun j hj hm => ?_), ?_, fun h => absurd rfl h, List.length_set ..⟩
        · show ((occ j (t.own x k) : Nat) : Int) + occ j pend + _ = _
          rw [hocc]; push_cast; split <;> simp <;> lia
        · have hl' : l ∈ t.own x k ++ pend := hl
          exact (List.mem_append.mp hl').imp id fun h => .inl (.tail _ h)
        · show Sta.isLive .dying = true ↔ 1 ≤ t.strong + -1
          simp [Sta.isLive]; lia
        · rcases List.mem_append.mp hj with h | h
          · exact .inl (hdy' j h)
          · exact .inr ⟨List.mem_singleton.mp h, rfl⟩
        · rw [List.nodup_append]
          exact ⟨I.nd, by simp, fun a ha b hb e => by rw [List.mem_singleton.mp hb] at e; exact hnk (e ▸ ha)⟩
        · rw [hlive]; simp [Sta.isLive]
        · rcases List.mem_append.mp hm with h | h
          · exact hxnd j hj h
          · rw [List.mem_singleton.mp h] at hj; exact hxk' hj
        · exact Nat.le_of_succ_le (Nat.le_of_eq (hlt _ rfl))
      | false =>
        obtain ⟨eK, eS⟩ := H.kill_not k t hO
        rw [eK, eS]
        have ho : ({ t.addS (-1) with fields := [], st := .gone } : T).own x k = [] := own_nil rfl
        have ho2 : t.own x k = t.fields.flatMap V.links := by unfold T.own; rw [if_neg hxk']
        refine ⟨I.put (t' := { t.addS (-1) with fields := [], st := .gone }) (dy' := H.dying) ht 1 (by show t.strong + -1 + 1 = t.strong; lia) (fun j => ?_) (fun l hl => ?_) ?_ (fun j hj => .inl (hdy' j hj)) I.nd ?_ (fun h => absurd h hxk') hxnd, ?_, fun _ => ?_, List.length_set ..⟩
        · rw [ho, ho2, hocc, occ_app]; push_cast; split <;> simp [occ] <;> lia
        · rw [ho, List.nil_append] at hl
          rw [ho2]
          exact (List.mem_append.mp hl).imp id fun h => .inl (.tail _ h)
        · show Sta.isLive .gone = true ↔ 1 ≤ t.strong + -1
          simp [Sta.isLive]; lia
        · rw [hlive]; simp [Sta.isLive]
        · exact Nat.le_of_succ_le (Nat.le_of_eq (hlt _ rfl))
        · exact Nat.le_of_eq (hlt _ rfl)
theorem Bd.put {D S : Nat} {H : Mine.H} {k : Nat} {t t' : T} {dy' : List Nat} (B : Bd D S H) (ht : H.ts[k]? = some t) (hf : t'.fields = t.fields ∨ t'.fields = []) (hn : t'.name = t.name := by rfl) : Bd D S ⟨H.ts.set k t', dy'⟩ := by
  refine ⟨fun i u hu v hv => ?_, ?_, fun i u hu => ?_⟩
  · rcases set_at ht hu with ⟨rfl, rfl⟩ | ⟨_, hu'⟩
    · rcases hf with e | e
      · exact B.dep _ _ ht v (e ▸ hv)
      · rw [e] at hv; cases hv
    · exact B.dep _ _ hu' v hv
  · have := fsz_set (t' := t') ht
    have h2 := B.sz
    show fsz (H.ts.set k t') ≤ S
    rcases hf with e | e
    · rw [e] at this; lia
    · rw [e] at this; simp at this; lia
  · rcases set_at ht hu with ⟨rfl, rfl⟩ | ⟨_, hu'⟩
    · rw [hn]
      refine ⟨(B.nm _ _ ht).1, ?_⟩
      rcases hf with e | e
      · rw [e]; exact (B.nm _ _ ht).2
      · rw [e]; exact Nat.zero_le _
    · exact B.nm _ _ hu'
theorem Bd.step {D S : Nat} {H : Mine.H} {l : Link} {t : T} (B : Bd D S H) (ht : H.ts[l.2]? = some t) : Bd D S (H.step l).1 := by
  obtain ⟨w, k⟩ := l
  rw [step_of (l := (w, k)) ht]
  split
  · dsimp only
    cases hO : t.kind.isObj with
    | true => rw [(H.kill_obj k t hO).1]; exact B.put (t' := { t.addS (-1) with st := .dying }) ht (.inl rfl)
    | false => rw [(H.kill_not k t hO).1]; exact B.put (t' := { t.addS (-1) with fields := [], st := .gone }) (dy' := H.dying) ht (.inr rfl)
  · dsimp only
    rw [link_mk ht]
    exact B.put ht (.inl (add_st t w (-1)).2.2.2) (add_st t w (-1)).2.2.1
/-- links in the fields -/
theorem step_len {H : Mine.H} {l : Link} {t : T} (ht : H.ts[l.2]? = some t) : (H.step l).2.length + (fl none 0 (H.step l).1.ts).length ≤ (fl none 0 H.ts).length := by
  obtain ⟨w, k⟩ := l
  rw [step_of (l := (w, k)) ht]
  have key : ∀ t' : T, (fl none 0 (H.ts.set k t')).length + (t.fields.flatMap V.links).length = (fl none 0 H.ts).length + (t'.fields.flatMap V.links).length := fun t' => by
    have := fl_set none List.length (fun a b => List.length_append) (t' := t') ht 0
    simpa [T.own] using this
  split
  · dsimp only
    cases hO : t.kind.isObj with
    | true =>
      rw [(H.kill_obj k t hO).1, (H.kill_obj k t hO).2]
      have := key { t.addS (-1) with st := .dying }
      exact Nat.le_of_eq (by simpa [T.addS, Mine.H.set] using this)
    | false =>
      rw [(H.kill_not k t hO).1, (H.kill_not k t hO).2]
      have := key { t.addS (-1) with fields := [], st := .gone }
      exact Nat.le_of_eq (by simpa [Mine.H.set, Nat.add_comm] using this)
  · dsimp only
    rw [link_mk ht]
    have := key (t.add w (-1))
    rw [(add_st t w (-1)).2.2.2] at this
    show 0 + (fl none 0 (H.ts.set k _)).length ≤ _
    lia
theorem gone_exists {x : Option Nat} {n : Nat} (hn : n ≤ 1000) (L : Nat) : ∀ (ls : List Link) (H : Mine.H) (pend : List Link), lives H.ts ≤ L → H.ts.length = n → Inv x H (ls ++ pend) → Bd 60 (2 ^ 22) H →
    ∃ H', Gone (L + 1) H ls H' ∧ Inv x H' pend ∧ lives H'.ts ≤ lives H.ts ∧ H'.ts.length = n ∧ (∀ D S, Bd D S H → Bd D S H') ∧ (fl none 0 H'.ts).length ≤ (fl none 0 H.ts).length := by
  induction L with
  | zero =>
    intro ls
    induction ls with
    | nil => intro H pend _ hl I B; exact ⟨H, .nil, I, Nat.le_refl _, hl, fun _ _ b => b, Nat.le_refl _⟩
    | cons l ls ih =>
      intro H pend hL hl I B
      obtain ⟨t, ok⟩ := I.okStep B (n_e hl hn)
      obtain ⟨I1, h1, h2, h3⟩ := I.step ok.at_
      have hnil : (H.step l).2 = [] := by
        cases e : (H.step l).2 with
        | nil => rfl
        | cons a b => exact absurd (h2 (by rw [e]; exact List.cons_ne_nil _ _)) (by lia)
      obtain ⟨H', g, I', a, b, c, d⟩ := ih (H.step l).1 pend (n_t h1 hL) (h3.trans hl) (by rw [hnil] at I1; exact I1) (B.step ok.at_)
      refine ⟨H', .cons ok (by rw [hnil]; exact .nil) g, I', by exact n_t a h1, b, fun D S b => c D S (b.step ok.at_), ?_⟩
      have := step_len ok.at_
      exact n_t d (n_ar this)
  | succ L ihL =>
    intro ls
    induction ls with
    | nil => intro H pend _ hl I B; exact ⟨H, .nil, I, Nat.le_refl _, hl, fun _ _ b => b, Nat.le_refl _⟩
    | cons l ls ih =>
      intro H pend hL hl I B
      obtain ⟨t, ok⟩ := I.okStep B (n_e hl hn)
      obtain ⟨I1, h1, h2, h3⟩ := I.step ok.at_
      have hst := step_len ok.at_
      by_cases hnil : (H.step l).2 = []
      · obtain ⟨H', g, I', a, b, c, d⟩ := ih (H.step l).1 pend (n_t h1 hL) (h3.trans hl) (by rw [hnil] at I1; exact I1) (B.step ok.at_)
        exact ⟨H', .cons ok (by rw [hnil]; exact .nil) g, I', by exact n_t a h1, b, fun D S b => c D S (b.step ok.at_), by exact n_t d (n_ar hst)⟩
      · have hlt := h2 hnil
        refine ctr fun hG353 => ?_; obtain ⟨H1, g1, I2, a1, b1, c1, d1⟩ := ihL (H.step l).2 (H.step l).1 (ls ++ pend) (by lia) (h3.trans hl) I1 (B.step ok.at_); refine hG353 ?_; clear hG353
        refine ctr fun hG354 => ?_; obtain ⟨H', g, I', a, b, c, d⟩ := ih H1 pend (n_t a1 (n_t h1 hL)) b1 I2 (c1 _ _ (B.step ok.at_)); refine hG354 ?_; clear hG354
        exact ⟨H', .cons ok g1 g, I', by exact n_t a (n_t a1 h1), b, fun D S b => c D S (c1 D S (b.step ok.at_)), by exact n_t d (n_t d1 (n_ar hst))⟩
theorem Gone.len {d : Nat} {H H' : Mine.H} {ls : List Link} (g : Gone d H ls H') : (fl none 0 H'.ts).length ≤ (fl none 0 H.ts).length := by
  induction g with
  | nil => exact Nat.le_refl _
  | cons ok _ _ i1 i2 => have := step_len ok.at_; exact n_t i2 (n_t i1 (n_ar this))
theorem Gone.run {d : Nat} {H H' : Mine.H} {ls : List Link} (g : Gone d H ls H') : ∀ {n : Nat} {H'' : Mine.H} {rest : List Link}, (ls ++ rest).length + (fl none 0 H.ts).length ≤ 2 ^ 23 → Run n H' rest H'' → ∃ n', Run n' H (ls ++ rest) H'' := by
  induction g with
  | nil => intro n H'' rest _ r; exact ⟨n, r⟩
  | @cons d H H1 H' l t ls ok g1 g2 i1 i2 =>
    intro n H'' rest hb r
    have hst := step_len ok.at_
    have hl1 := g1.len
    simp only [List.length_append, List.length_cons] at hb
    obtain ⟨n2, r2⟩ := i2 (rest := rest) (by simp only [List.length_append]; lia) r
    obtain ⟨n1, r1⟩ := i1 (rest := ls ++ rest) (by simp only [List.length_append]; lia) r2
    exact ⟨n1 + 1, .cons ok (by have e : (ls ++ rest).length = ls.length + rest.length := List.length_append; show (ls ++ rest).length + 1 ≤ 2 ^ 23; lia) r1⟩
end Mine
end
section
open PySem PySem.W PySem.Calls PyProof.Rows PySem.Spec
set_option Elab.async false
set_option maxRecDepth 100000
set_option maxHeartbeats 4000000
set_option linter.unusedVariables false
namespace Mine
section
variable {X : Fn} {m : Str → Option Value} {news Γ : List (Addr × Obj)} {E : Value → Shared → Prop} {s : Shared} {D : Addr} {its : Array Value} {n : Nat} {f : Obj → List (Addr × Obj)}
theorem ev_listL {e : Expr} {t : Addr} {vs : List Value} {p1 p2 : Pos} {Q : Value → Shared → Prop} (h1 : PV X m news Γ e (· = .ref t)) (ht : ∀ s', Y X m news Γ s' → s'.heap.IsList t vs.toArray) (y : Y X m news Γ s) (hsz : vs.length ≤ sizeLine)
    (h : ∀ l c s', Y X m ((l, listOf vs.toArray c) :: news) Γ s' → Q (.ref l) s') (h0 : X.env.kindOf "list" = some .globalImplicit := by rfl) (he : starEach [e] X.env = (false, eval e X.env) :: starEach [] X.env := by rfl) :
    wpAny (model X.prog X.w) X.A (eval (.Call (.Name (Str.ofString "list") p1) [e] [] p2) X.env) Q E s :=
  ev_type y.ok.C.b_list (by boot_fast) (pvs1 h1 he) y (fun ws s' q y' => by
    obtain ⟨x, rfl, rfl⟩ := q
    exact z_listOfList y'.z (ht _ y') (fun D c h' z' => h D c _ (y'.to z')) (by rw [List.size_toArray]; exact hsz)) (by decide) h0 (by decide) he
/-- a tuple of targets, the plain way: name by name -/
theorem y_asgTup {elts : List Expr} {k : Nat} {tp pos : Pos} {value : Expr} {rest : List Stmt} {Q : Flow → Shared → Prop}
    (h : wpAny (model X.prog X.w) X.A (eval value X.env) (fun v s1 => wpAny (model X.prog X.w) X.A (assign (.Tuple elts k tp) X.env v) (fun _ s2 => wpAny (model X.prog X.w) X.A (execs rest X.env) Q E s2) E s1) E s)
    (hs : swapsWithSole [.Tuple elts k tp] value pos.line X.env = pure false := by rfl) (hw : swappedStores [.Tuple elts k tp] value X.env = pure none := by rfl) :
    wpAny (model X.prog X.w) X.A (execs (.Assign [.Tuple elts k tp] value pos :: rest) X.env) Q E s := by
  walk1
  exact Assign_Tuple h hs hw
end
/-- of tuples only -/
noncomputable abbrev Tp (P : Addr → Obj → Prop) (a : Addr) (o : Obj) : Prop := P a o ∧ IsT o
section
variable {prog : Program} {w : World} {K : Frag} {A : Around} {E : Value → Shared → Prop} {s : Shared} {h₀ : Heap} {P : Addr → Obj → Prop} {o : Addr} {p : HP} {H : H} {ks : List (Addr × Obj)} {Q : Value → Shared → Prop}
theorem HRep.tp (R : HRep prog w P o p H ks) : HRep prog w (Tp P) o p H ks := R.mono fun _ _ t q => ⟨q, t⟩
theorem HRep.pt (R : HRep prog w (Tp P) o p H ks) : HRep prog w P o p H ks := R.mono fun _ _ _ q => q.1
theorem drop_spec {P1 : Addr → Obj → Prop} {N : Nat} {H' : Mine.H} {ls : List Link} {cl : Addr} {cs : List Value} {c : Nat} (C : Cx K h₀) (hk : h₀.StaysIn s.heap) (hh : A.handled = none) (hd : A.depth < 870) (hu : A.units < 7700) (hP : ∀ a o, P a o → s.heap.get? a = some o) (O : Own h₀ s.heap ks) (R : HRep prog w P o p H ks)
    (hc : s.heap.get? cl = some (listOf cs.toArray c)) (hcl : cl ∉ ks.map (·.1)) (hP1 : ∀ a o, P1 a o → s.heap.get? a = some o) (hcs : VRs P1 cs (ls.map Link.py)) (hlen : ls.length ≤ 2 ^ 23) (run : Run N H ls H')
    (hQ : ∀ p' ks' h' t' Γ, Kept h₀ ks s.heap h' ks' → TupL s.heap h' Γ → HRep prog w P o p' H' ks' → Q .none { s with heap := h', toks := t' }) : wpAny (model prog w) A (call (.ref 150) [.ref o, .ref cl]) Q E s := by
  refine enterY (binds := [(Str.ofString "self", .ref o), (Str.ofString "counts", .ref cl)]) C hk hh (Nat.lt_trans hu (by decide)) O C.KF.f150 rfl (Nat.lt_trans hd (by decide)) (fun _ _ _ => BindsTo.of_eq rfl) (locs rfl) rfl rfl rfl (by decide) ?_
  intro g L h₁ tk cdv A' X m0 hX0 hX1 hX2 y h0 hL hin
  have hPg := gt_of O hin hP
  have hcg : g.get? cl = some (listOf cs.toArray c) := hin _ _ hc hcl
  have hS : sizeLine = 16777216 := rfl
  have hl1 : cs.length = ls.length := by simpa using hcs.length
  refine y_asgeff (ev_revL (ev_listL (pv_loc rfl) (fun s' y' => ⟨_, y'.z.old hcg, rfl, _, rfl⟩) y (n_e hl1 (n_t hlen (n_b rfl))) fun l1 c1 s1 y1 => ⟨l1, cs, c1, _, _, _, rfl, .head _, y1, by exact n_e hl1 (n_t hlen (n_b rfl)), fun wl s2 y2 => y_store y2 fun s3 y3 => ?_⟩))
  refine y_while (fun n s' => ∃ m wl ws c ksi Γ Hc stk pc, Y X m ((wl, listOf (List.toArray ws) c) :: ksi) Γ s' ∧ m "self" = some (.ref o) ∧ m "waiting" = some (.ref wl) ∧ HRep prog w (Tp P) o pc Hc ksi ∧ VRs (Or (Gt g) Γ) ws ((List.reverse stk).map Link.py) ∧ Run n Hc stk H') N
    ⟨_, wl, cs.reverse, 0, ks, [], H, ls, p, y3.sub (.cons_cons _ (List.sublist_cons_self _ _)), rfl, up_hit, R.tp, by rw [List.map_reverse]; exact (hcs.mono2 (gt_of O hin hP1)).inl.reverse, run⟩ ?_
  intro n s4 hJJ; refine ctr fun hG115 => ?_; obtain ⟨m, wl, ws, c, ksi, Γ, Hc, stk, pc, y4, ms, mw, Rc, hw, run⟩ := hJJ; refine hG115 ?_; clear hG115
  cases run with
  | nil =>
    cases hw
    refine .inr ⟨_, _, _, y4, pb_list (pv_loc mw) (.head _) false rfl (by decide), fun s5 y5 => y_nil ?_⟩
    rw [y5.e]
    exact hQ _ _ _ _ _ (y5.kept h0 hin (List.sublist_cons_self _ _) Rc.noT) (y5.z.tupL hL) Rc.pt
  | @cons n _ _ l t stk ok hb run =>
    rw [List.reverse_cons, List.map_append] at hw
    refine ctr fun hG116 => ?_; obtain ⟨ws, lv, rfl, hw2, hy⟩ := hw.snoc; refine hG116 ?_; clear hG116
    have hwl : stk.length = ws.length := by simpa using hw2.length.symm
    simp only [List.length_cons] at hb
    have hroom : (ws ++ [lv]).length ≤ sizeLine := by simp; exact n_suc (n_lt (n_f hwl (n_t (n_al hb) (Nat.le_refl _))) (n_bl rfl))
    refine ctr fun hG117 => ?_; obtain ⟨lt, a, b, rfl, tt, ha, hb2⟩ := VR.linkTT hy; refine hG117 ?_; clear hG117
    refine .inl ⟨_, _, _, y4, pb_list (pv_loc mw) (.head _) true (by simp) hroom, fun E' s5 y5 => ?_⟩
    refine y_asgTup (ev_lmeth0 (pv_loc mw) .head PySem.F.slot_list_pop rfl y5 fun s6 y6 => c_pop y6 .head hroom fun s7 k7 y7 => as_pair y7 tt fun s8 y8 => ?_)
    refine ex6 Rc.head fun es n' od lv' ql cc hJJ => an10 hJJ fun m1 m2 m3 m4 er elv hod lo hql hlen' => ?_; clear hJJ
    refine ctr fun hG119 => ?_; obtain ⟨hat, hstr, hdep, hsz, hdy⟩ := ok; refine hG119 ?_; clear hG119
    have hstep := step_of hat
    cases hk3 : l.1 with
    | strong =>
      rw [hk3] at ha
      obtain ⟨hs1, hs2⟩ := hstr (by rw [hk3]; rfl)
      refine y_if_t (pb_eqs ((pv_loc (up_skip up_hit)).mono fun v e => by subst e; exact ha) pv_str (by decide +kernel)) y8 fun s9 y9 => ?_
      refine y_expr (ev_lmeth1 (pv_loc (up_skip (up_skip mw))) .head PySem.F.slot_list_extend rfl y9 fun s10 y10 => ev_revL (ev_meth (pv_loc (up_skip (up_skip ms))) (.tail _ m1) (.tail _ m2) er y10.ok.C.m_dropped y10.ok.C.n_dropped y10.ok.C.km_dropped (pvs1 (pv_loc up_hit)) y10 fun vs s11 e y11 => ?_))
      obtain rfl := Va1.eq e
      refine dropped_spec (P := Tp P) y11.ok.C y11.st hX0 (lvA hX1 hd) (lvC hX2 hu) (fun a o h => y11.z.old (hPg a o h.2 h.1)) (y11.own (loc := [_]) Rc.noT) Rc hat hb2 hs2 hs1 hdep hsz hdy ?_ ?_
      · intro hE dl ks' h' t' c' kk R'
        have noT' : ∀ q ∈ (dl, listOf #[] c') :: ks', ¬ IsT q.2 := fun q hq => by
          rcases List.mem_cons.mp hq with rfl | hq
          · exact notT_list
          · exact R'.noT q hq
        refine ⟨dl, [], c', _, _, _, rfl, .tail _ (.head _), y11.callK (loc := [_]) Rc.noT kk, by decide, fun rl s12 y12 => ?_⟩
        refine c_extend y12 (.tail .head) (.head _) (by simp; exact n_f hwl (n_t (n_al hb) (n_b rfl))) fun s13 k13 y13 => y_nil (y_nil ?_)
        rw [hstep, hE, Bool.and_false, if_neg Bool.false_ne_true] at run
        refine KWh.nx ?_; refine Less.mk (Nat.lt_succ_self n) ⟨_, wl, ws, _, ks', _, _, stk, pc, y13.sub (.cons _ (.cons_cons _ (.cons _ (List.Sublist.refl _)))), up_skip (up_skip ms), up_skip (up_skip mw), R', hw2, ?_⟩
        rw [show l = (W3.strong, l.2) from Prod.ext hk3 rfl] at run
        exact run
      · intro hE p' dl vs c' ks' h' t' Γ' kk tl hvs R'
        have hv1 : vs.length = t.spill.length := by simpa using hvs.length
        have hsp : t.spill.length ≤ 2 ^ 22 := by
          unfold T.spill
          split
          · simp
          · exact Nat.le_trans (links_sum _) hsz
        refine ⟨dl, vs, c', _, _, _, rfl, .tail _ (.head _), y11.calls (loc := [_]) (y11.own (loc := [_]) Rc.noT) kk tl, by exact n_e hv1 (n_t hsp (n_b rfl)), fun rl s12 y12 => ?_⟩
        refine c_extend y12 (.tail .head) (.head _) (by simp; exact n_t (n_a (n_f hwl (n_t (n_al hb) (Nat.le_refl _))) (n_e hv1 (n_t hsp (Nat.le_refl _)))) (n_b rfl)) fun s13 k13 y13 => y_nil (y_nil ?_)
        rw [hstep, hE, hk3] at run
        have y14 := y13.sub (.cons _ (.cons_cons _ (.cons _ (List.Sublist.refl _))))
        rw [show ws.toArray ++ vs.reverse.toArray = (ws ++ vs.reverse).toArray by simp] at y14
        refine KWh.nx ?_; refine Less.mk (Nat.lt_succ_self n) ⟨_, wl, ws ++ vs.reverse, k13, ks', _, _, t.spill ++ stk, p', y14, up_skip (up_skip ms), up_skip (up_skip mw), R', ?_, run⟩
        · rw [List.reverse_append, List.map_append, show t.spill.reverse.map Link.py = (t.spill.map Link.py).reverse from List.map_reverse]
          exact hw2.upA.append hvs.reverse.left.no
    | weak =>
      rw [hk3] at ha
      refine y_if_e (pb_eqs ((pv_loc (up_skip up_hit)).mono fun v e => by subst e; exact ha) pv_str (by decide +kernel)) y8 fun s9 y9 => ?_
      refine y_expr (ev_meth (pv_loc (up_skip (up_skip ms))) (.tail _ m1) (.tail _ m2) er y9.ok.C.m_lost y9.ok.C.n_lost y9.ok.C.km_lost (pvs2 (pv_loc (up_skip up_hit)) (pv_loc up_hit)) y9 fun vs s11 e y11 => ?_)
      obtain rfl := Va2.eq e
      refine lost_spec (l := l) y11.ok.C y11.st hX0 (lvA hX1 hd) (lvC hX2 hu) (y11.own (loc := [_]) Rc.noT) Rc hat (by rw [hk3]; exact ha) hb2 (by rw [hk3]; exact W3.noConfusion) ?_
      intro ks' h' t' kk R'
      refine y_nil (y_nil ?_)
      rw [hstep, hk3] at run
      refine KWh.nx ?_; exact Less.mk (Nat.lt_succ_self n) ⟨_, wl, ws, _, ks', _, _, stk, pc, y11.callK (loc := [_]) Rc.noT kk, up_skip (up_skip ms), up_skip (up_skip mw), R', hw2, run⟩
    | unowned =>
      rw [hk3] at ha
      refine y_if_e (pb_eqs ((pv_loc (up_skip up_hit)).mono fun v e => by subst e; exact ha) pv_str (by decide +kernel)) y8 fun s9 y9 => ?_
      refine y_expr (ev_meth (pv_loc (up_skip (up_skip ms))) (.tail _ m1) (.tail _ m2) er y9.ok.C.m_lost y9.ok.C.n_lost y9.ok.C.km_lost (pvs2 (pv_loc (up_skip up_hit)) (pv_loc up_hit)) y9 fun vs s11 e y11 => ?_)
      obtain rfl := Va2.eq e
      refine lost_spec (l := l) y11.ok.C y11.st hX0 (lvA hX1 hd) (lvC hX2 hu) (y11.own (loc := [_]) Rc.noT) Rc hat (by rw [hk3]; exact ha) hb2 (by rw [hk3]; exact W3.noConfusion) ?_
      intro ks' h' t' kk R'
      refine y_nil (y_nil ?_)
      rw [hstep, hk3] at run
      refine KWh.nx ?_; exact Less.mk (Nat.lt_succ_self n) ⟨_, wl, ws, _, ks', _, _, stk, pc, y11.callK (loc := [_]) Rc.noT kk, up_skip (up_skip ms), up_skip (up_skip mw), R', hw2, run⟩
end
end Mine
end
section
open PySem PySem.W PySem.Calls PyProof.Rows PySem.Spec
set_option Elab.async false
set_option maxRecDepth 100000
set_option maxHeartbeats 4000000
set_option linter.unusedVariables false
namespace Mine
/-- function entry, over the code -/
theorem enterC {prog : Program} {w : World} {K : Frag} {A : Around} {s : Shared} {h₀ : Heap} {ks : List (Addr × Obj)} {R : Result → Shared → Prop}
    {name bind qual : Str} {params : Arguments} {body : List Stmt} {deco : List Expr} {ret : Option Expr} {tps : List TypeParam} {tscope : Option Scope} {spos : Pos} {scope : Scope} {st : Stmt} {f : Addr} {pos : List Value} {kw : List (Str × Value)} {binds : List (Str × Value)}
    (C : Cx K h₀) (hk : h₀.StaysIn s.heap) (hh : A.handled = none) (hu : A.units < 9800) (O : Own h₀ s.heap ks) (hf : FnAt K f qual st) (hst : st = .FunctionDef name params body deco ret tps scope tscope bind spos) (hroom : A.depth < recursionLimit)
    (hbind : ∀ cdv doc pm, BindsTo s (fnOf name qual params body scope .none .none doc pm none cdv .none) ⟨pos, kw⟩ binds) (hloc : ∀ y ∈ binds, scope.names.lookup y.1 = some .local)
    (hco : scope.isCoroutine = false) (hgen : scope.isGenerator = false) (hkk : scope.kind = .function)
    (hcell : ∀ x ∈ scope.names, x.2 ≠ .cell)
    (h : ∀ g L h₁ tk cdv A', let X : Fn := ⟨prog, w, K, A', envOf qual scope L f cdv, s, g, L⟩; let m0 : Str → Option Value := fun y => binds.reverse.lookup y;
      A'.handled = none → A'.depth = A.depth + 1 → A'.units = A.units + 3 → Y X m0 ks [] { s with heap := h₁, toks := tk } → h₀.StaysIn g → L = s.heap.objs.size → (∀ a o, s.heap.get? a = some o → a ∉ ks.map (·.1) → g.get? a = some o) →
      wpAny (model X.prog X.w) X.A (execs body X.env) (fun fl s' => R (.ok (.ret (match fl with | .ret v => v | _ => .none))) s') (fun e s' => wpAny (model X.prog X.w) X.A (leaving X.env e) (fun _ s'' => R (.error e) s'') (fun e' s'' => R (.error e') s'') s') { s with heap := h₁, toks := tk }) :
    codeAny (model prog w) A (.call (.ref f) ⟨pos, kw⟩) R s := by
  subst hst
  refine ctr fun hG260 => ?_; obtain ⟨oc, od, pm, cdv, doc, osl, ho, hcd⟩ := hf; refine hG260 ?_; clear hG260
  refine codeAny_call_def (fd := fnOf name qual params body scope .none .none doc pm none cdv .none) (body := body) (binds := binds) hroom (hk _ _ (C.X _ _ ho)) rfl (C.nolimit.keeps hk) (codeRec_of (C.X.keeps hk) hcd) rfl (hbind _ _ _) hcell hloc (fun h₁ hns hk₁ => ?_) hco hgen hkk
  have hin : ∀ a o, h₀.get? a = some o → a ∉ ks.map (·.1) := fun a o e q => by
    obtain ⟨p, hp, rfl⟩ := List.mem_map.mp q
    rw [O.off p hp] at e; cases e
  exact h (hideAll s.heap (ks.map (·.1))) s.heap.objs.size h₁ (s.toks + binds.length) cdv (A.deeper (envOf qual scope s.heap.objs.size f cdv)) hh rfl rfl
    ⟨⟨⟨hns, fun b o e => hk₁ b o (of_hideAll _ e), Nat.le_of_eq (hideAll_size _ _)⟩, by rw [List.append_nil]; exact fun p hp => ⟨hk₁ _ _ (O.at_ p hp), Nat.ne_of_lt (Heap.lt_size (O.at_ p hp)), hideAll_none _ (List.mem_map_of_mem hp)⟩, O.nd, fun _ h => nomatch h⟩, rfl,
      ⟨hkk, rfl, rfl, rfl, hh, C.keeps fun a o e => hideAll_get _ (hk a o e) (hin a o e), by show A.units + 3 + 64 < cLine; simp only [cLine]; exact n_lt (n_t (n_a (n_t (n_a (n_s hu (Nat.le_refl _)) (Nat.le_refl _)) (Nat.le_refl _)) (Nat.le_refl _)) (Nat.le_refl _)) (n_bl rfl)⟩⟩
    (fun a o e => hideAll_get _ (hk a o e) (hin a o e)) rfl (fun a o e n => hideAll_get _ e n)
section
variable {prog : Program} {w : World} {K : Frag} {A : Around} {E : Value → Shared → Prop} {s : Shared} {h₀ : Heap} {R : Result → Shared → Prop}
theorem isFn_type {K : Frag} {v : Value} (h : isFn K v = true) : typeIn K v = some (.type "function") := beq_iff_eq.mp h
theorem thing_init {x dx f : Addr} {kd nm : Value} (C : Cx K h₀) (hk : h₀.StaysIn s.heap) (hh : A.handled = none) (hd : A.depth < 950) (hu : A.units < 9000) (O : Own h₀ s.heap [(x, instObj 97 dx), (dx, dictOf [] 0)])
    (hR : ∀ h' t' es n s1 w1 u1 st1, Kept h₀ [(x, instObj 97 dx), (dx, dictOf [] 0)] s.heap h' [(x, instObj 97 dx), (dx, dictOf es n)] → ERel es (tkv f kd nm s1 w1 u1 st1) → IsI 1 s1 → IsI 0 w1 → IsI 0 u1 → IsS (Str.ofString "live") st1 → R (.ok (.ret .none)) { s with heap := h', toks := t' }) :
    codeAny (model prog w) A (.call (.ref 94) ⟨[.ref x, kd, nm, .ref f], []⟩) R s := by
  refine enterC (binds := [(Str.ofString "self", .ref x), (Str.ofString "kind", kd), (Str.ofString "name", nm), (Str.ofString "fields", .ref f)]) C hk hh (Nat.lt_trans hu (by decide)) O C.KF.f94 rfl (Nat.lt_trans hd (by decide)) (fun _ _ _ => BindsTo.of_eq rfl) (locs rfl) rfl rfl rfl (by decide) ?_
  intro g L h₁ tk cdv A' X m0 hX0 hX1 hX2 y h0 hL hin
  refine y_asgattr (ev_pvq (pv_loc rfl) y fun s1 y1 => ev_pvq (pv_loc rfl) y1 fun s2 y2 => ?_)
  refine c_setattr y2 (.head _) (.tail .head) .nil (.inl rfl) y2.ok.C.t_kind fun s3 es n er y => ?_
  refine y_asgattr (ev_pvq (pv_loc rfl) y fun s1 y1 => ev_pvq (pv_loc rfl) y1 fun s2 y2 => ?_)
  refine c_setattr y2 (.head _) (.tail .head) er (.inl rfl) y2.ok.C.t_name fun s3 es n er y => ?_
  refine y_asgattr (ev_pvq (pv_loc rfl) y fun s1 y1 => ev_pvq (pv_loc rfl) y1 fun s2 y2 => ?_)
  refine c_setattr y2 (.head _) (.tail .head) er (.inl rfl) y2.ok.C.t_fields fun s3 es n er y => ?_
  refine y_asgattr (ev_pv pv_int y fun v1 s1 e1 y1 => ev_pvq (pv_loc rfl) y1 fun s2 y2 => ?_)
  refine c_setattr y2 (.head _) (.tail .head) er (.inl rfl) y2.ok.C.t_strong fun s3 es n er y => ?_
  refine y_asgattr (ev_pv pv_int y fun v2 s1 e3 y1 => ev_pvq (pv_loc rfl) y1 fun s2 y2 => ?_)
  refine c_setattr y2 (.head _) (.tail .head) er (.inl rfl) y2.ok.C.t_weak fun s3 es n er y => ?_
  refine y_asgattr (ev_pv pv_int y fun v3 s1 e4 y1 => ev_pvq (pv_loc rfl) y1 fun s2 y2 => ?_)
  refine c_setattr y2 (.head _) (.tail .head) er (.inl rfl) y2.ok.C.t_unowned fun s3 es n er y => ?_
  refine y_asgattr (ev_pv pv_str y fun v4 s1 e5 y1 => ev_pvq (pv_loc rfl) y1 fun s2 y2 => ?_)
  refine c_setattr y2 (.head _) (.tail .head) er (.inl rfl) y2.ok.C.t_state fun s3 es n er y => ?_
  refine y_nil ?_
  rw [y.e]
  refine hR _ _ es n v1 v2 v3 v4 (y.kept h0 hin (List.Sublist.refl _) fun q hq => ?_) er e1 e3 e4 e5
  simp only [List.mem_cons, List.not_mem_nil, or_false] at hq
  rcases hq with rfl | rfl
  · exact notT_inst
  · exact notT_dict rfl
end
section
variable {X : Fn} {m : Str → Option Value} {news Γ : List (Addr × Obj)} {E : Value → Shared → Prop} {s : Shared} {D : Addr} {its : Array Value} {n : Nat} {f : Obj → List (Addr × Obj)}
/-- Thing(kind, name, fields) -/
theorem c_thing {kd nm : Value} {fa : Addr} {Q : Value → Shared → Prop} (y : Y X m news Γ s) (hd : X.A.depth < 900) (hu : X.A.units < 8900)
    (h : ∀ x dx es n s1 w1 u1 st1 s', ERel es (tkv fa kd nm s1 w1 u1 st1) → IsI 1 s1 → IsI 0 w1 → IsI 0 u1 → IsS (Str.ofString "live") st1 → Y X m ((x, instObj 97 dx) :: (dx, dictOf es n) :: news) Γ s' → Q (.ref x) s') :
    wpAny (model X.prog X.w) X.A (call (.ref 97) [kd, nm, .ref fa]) Q E s := by
  have pl := y.ok.C.KF.plain 97 (.inl rfl)
  refine wpAny_call (make_K y.z.F y.z.N (z_kin y.z y.ok.C) pl.2.2.2.2 y.ok.C.KF.initT.1 (isFn_type y.ok.C.KF.initT.2) fun x dx h' F' N' l1 l2 => ?_)
  have z1 : Z X.g X.L h' m ((x, instObj 97 dx) :: (dx, dictOf [] 0) :: news) Γ := by
    refine ⟨F', N', ?_, y.z.T⟩
    rw [List.map_cons, List.map_cons, List.nodup_cons, List.nodup_cons]
    refine ⟨fun q => ?_, fun q => ?_, y.z.nd⟩
    · rcases List.mem_cons.mp q with q | q
      · have q' : x = dx := q
        exact absurd l2 (by rw [q']; exact Nat.lt_irrefl _)
      · obtain ⟨p, hp, e⟩ := List.mem_map.mp q
        have := l1 p (List.mem_append_left _ hp)
        have e' : p.1 = x := e
        exact Nat.lt_irrefl x (Nat.lt_trans (by rw [e'] at this; exact this) l2)
    · obtain ⟨p, hp, e⟩ := List.mem_map.mp q
      have := l1 p (List.mem_append_left _ hp)
      have e' : p.1 = dx := e
      exact Nat.lt_irrefl dx (by rw [e'] at this; exact this)
  have y1 : Y X m ([(x, instObj 97 dx), (dx, dictOf [] 0)] ++ news) Γ { s with heap := h' } := y.to (t := s.toks) z1
  have y2 : Y X m (news ++ [(x, instObj 97 dx), (dx, dictOf [] 0)]) Γ { s with heap := h' } := y1.perm List.perm_append_comm
  have no : ∀ p ∈ [(x, instObj 97 dx), (dx, dictOf [] 0)], ¬ IsT p.2 := fun q hq => by
    simp only [List.mem_cons, List.not_mem_nil, or_false] at hq
    rcases hq with rfl | rfl
    · exact notT_inst
    · exact notT_dict rfl
  refine thing_init (h₀ := X.g) y2.ok.C y2.st y2.ok.hh (by rw [PyProof.Rows.depth_under_make]; exact n_lt (n_t (n_a (n_s hd (Nat.le_refl _)) (Nat.le_refl _)) (Nat.le_refl _)) (n_bl rfl)) (by rw [PyProof.Rows.units_under_make]; exact n_lt (n_t (n_a (n_s hu (Nat.le_refl _)) (Nat.le_refl _)) (Nat.le_refl _)) (n_bl rfl)) (y2.own no) ?_
  intro h'' t' es n s1 w1 u1 st1 kk er e1 e2 e3 e4
  exact ⟨rfl, h x dx es n s1 w1 u1 st1 _ er e1 e2 e3 e4 ((y2.callK no kk).perm (List.perm_append_comm (l₁ := [(x, instObj 97 dx), (dx, dictOf es n)]) (l₂ := news)))⟩
end
end Mine
end
section
open PySem PySem.W PySem.Calls PyProof.Rows PySem.Spec
set_option Elab.async false
set_option maxRecDepth 100000
set_option maxHeartbeats 4000000
set_option linter.unusedVariables false
namespace Mine
section
variable {X : Fn} {m : Str → Option Value} {news Γ : List (Addr × Obj)} {E : Value → Shared → Prop} {s : Shared} {D : Addr} {its : Array Value} {n : Nat} {f : Obj → List (Addr × Obj)}
theorem Y.headOut {p : Addr × Obj} (y : Y X m (p :: news) Γ s) : p.1 ∉ news.map (·.1) := by
  have := y.z.nd
  rw [List.map_cons, List.nodup_cons] at this
  exact this.1
/-- a call by global name, its arguments with effect -/
theorem ev_callS {nf : Str} {p1 p2 : Pos} {f : Addr} {e1 : Expr} {er : List Expr} {Q : Value → Shared → Prop} (hg : nsIn X.K mainGlobals nf = some (some (.ref f))) (hk : keepIn X.K (.ref f) = true) (y : Y X m news Γ s)
    (h : ∀ s', Y X m news Γ s' → wpAny (model X.prog X.w) X.A (spliced (backTo p2 (starEach (e1 :: er) X.env))) (fun vs s2 => X.K.In s2.heap ∧ wpAny (model X.prog X.w) X.A (call (.ref f) vs) Q E s2) E s') (hx : X.env.kindOf nf = some .globalImplicit := by rfl) (hd : (nf == ("__debug__" : Str)) = false := by decide)
    (he : starEach (e1 :: er) X.env = (false, eval e1 X.env) :: starEach er X.env := by rfl) (hplain : (backTo p2 (starEach er X.env)).any (·.1) = false := by rfl) :
    wpAny (model X.prog X.w) X.A (eval (.Call (.Name nf p1) (e1 :: er) [] p2) X.env) Q E s := by
  repeat' walk1
  refine wpAny_mono (pv_glob hg hx hd _ s y) (fun v s' q => ?_) (fun _ _ x => x)
  obtain ⟨rfl, y'⟩ := q
  exact callWith_K y'.ok.C.X hk (h _ y') he hplain
end
section
variable {prog : Program} {w : World} {K : Frag} {A : Around} {E : Value → Shared → Prop} {s : Shared} {h₀ : Heap} {P : Addr → Obj → Prop} {o : Addr} {p : HP} {H : H} {ks : List (Addr × Obj)} {Q : Value → Shared → Prop}
theorem release_spec {N : Nat} {H' : Mine.H} {k : Nat} {v : Value} (C : Cx K h₀) (hk : h₀.StaysIn s.heap) (hh : A.handled = none) (hd : A.depth < 860) (hu : A.units < 7600) (hP : ∀ a o, P a o → s.heap.get? a = some o) (O : Own h₀ s.heap ks) (R : HRep prog w P o p H ks) (hv : IsI ((k : Int) + 1) v) (run : Run N H [(.strong, k)] H')
    (hQ : ∀ p' ks' h' t' Γ, Kept h₀ ks s.heap h' ks' → TupL s.heap h' Γ → HRep prog w P o p' H' ks' → Q .none { s with heap := h', toks := t' }) : wpAny (model prog w) A (call (.ref 143) [.ref o, v]) Q E s := by
  refine enterY (binds := [(Str.ofString "self", .ref o), (Str.ofString "number", v)]) C hk hh (Nat.lt_trans hu (by decide)) O C.KF.f143 rfl (Nat.lt_trans hd (by decide)) (fun _ _ _ => BindsTo.of_eq rfl) (locs rfl) rfl rfl rfl (by decide) ?_
  intro g L h₁ tk cdv A' X m0 hX0 hX1 hX2 y h0 hL hin
  refine ex6 R.head fun es n od lv ql c hJJ => an10 hJJ fun m1 m2 m3 m4 er elv hod lo hql hlen => ?_; clear hJJ
  refine y_expr (ev_meth1E (pv_loc rfl) m1 m2 er y.ok.C.m_drop y.ok.C.n_drop y.ok.C.km_drop y fun s1 y1 => ev_list1E (ev_tup (pvs2 pv_str (pv_loc rfl)) y1 (by decide) (fun vs e => by obtain ⟨_, _, rfl, _⟩ := e; rfl) fun vs t s3 e y3 => ⟨_, _, _, y3, fun l s4 y4 => ⟨⟨_, _, _, y4⟩, ?_⟩⟩))
  refine ctr fun hG69 => ?_; obtain ⟨_, _, rfl, ⟨_, rfl⟩, rfl⟩ := e; refine hG69 ?_; clear hG69
  obtain ⟨u, rfl⟩ := hv
  refine drop_spec (P := Tp P) (P1 := Or No _) (cl := l) (cs := [.ref t]) y4.ok.C y4.st hX0 (lvA hX1 hd) (lvC hX2 hu) (fun a o h => y4.z.old (gt_of O hin hP a o h.2 h.1))
    (y4.own (loc := [_]) R.noT) R.tp (y4.z.get (.head _)) y4.headOut (fun a o h => h.elim False.elim fun h => y4.z.tup h) (.cons (VR.tup (.head _) (.cons (.str _ _) (.cons (.int _ _) .nil))) .nil) (by simp) run ?_
  intro p' ks' h' t' Γ kk tl R'
  have y5 := y4.calls (t' := t') (loc := [_]) (y4.own (loc := [_]) R.noT) kk tl
  refine y_nil ?_
  rw [y5.e]
  exact hQ _ _ _ _ _ (y5.kept h0 hin (List.sublist_cons_self _ _) R'.noT) (y5.z.tupL hL) R'.pt
theorem destroyed_spec {N : Nat} {H' : Mine.H} {v : V} {x : Value} (C : Cx K h₀) (hk : h₀.StaysIn s.heap) (hh : A.handled = none) (hd : A.depth < 860) (hu : A.units < 7600) (hP : ∀ a o, P a o → s.heap.get? a = some o) (hv : VR P x v.py) (hdep : v.dep ≤ 60) (hsz : v.size ≤ 2 ^ 22) (O : Own h₀ s.heap ks) (R : HRep prog w P o p H ks) (run : Run N H v.links H')
    (hQ : ∀ p' ks' h' t' Γ, Kept h₀ ks s.heap h' ks' → TupL s.heap h' Γ → HRep prog w P o p' H' ks' → Q .none { s with heap := h', toks := t' }) : wpAny (model prog w) A (call (.ref 185) [.ref o, x]) Q E s := by
  refine enterY (binds := [(Str.ofString "self", .ref o), (Str.ofString "value", x)]) C hk hh (Nat.lt_trans hu (by decide)) O C.KF.f185 rfl (Nat.lt_trans hd (by decide)) (fun _ _ _ => BindsTo.of_eq rfl) (locs rfl) rfl rfl rfl (by decide) ?_
  intro g L h₁ tk cdv A' X m0 hX0 hX1 hX2 y h0 hL hin
  have hvg : VR (Gt g) x v.py := hv.mono2 (gt_of O hin hP)
  refine ex6 R.head fun es n od lv ql c hJJ => an10 hJJ fun m1 m2 m3 m4 er elv hod lo hql hlen => ?_; clear hJJ
  refine y_expr (ev_meth1E (pv_loc rfl) m1 m2 er y.ok.C.m_drop y.ok.C.n_drop y.ok.C.km_drop y fun s1 y1 => ev_call y1.ok.C.g_counted_in y1.ok.C.k_counted_in (pvs1 (pv_loc rfl)) y1 fun vs s2 e y2 => ?_)
  obtain rfl := Va1.eq e
  refine counted_spec (v := v) (P := Or (Gt g) []) y2.ok.C y2.st hX0 (lvA hX1 hd) (lvC hX2 hu) y2.z.has hvg.inl hdep hsz ?_
  intro cl ws c2 h2 t2 Γ2 kk tl hws
  have y4 := y2.call1 (t' := t2) kk tl
  have hl := V.links_len v
  refine ⟨⟨_, _, _, y4⟩, ?_⟩
  refine drop_spec (P := Tp P) (P1 := Or No Γ2) (cl := cl) (cs := ws) y4.ok.C y4.st hX0 (lvA hX1 hd) (lvC hX2 hu) (fun a o h => y4.z.old (gt_of O hin hP a o h.2 h.1))
    (y4.own (loc := [_]) R.noT) R.tp (y4.z.get (.head _)) y4.headOut (fun a o h => h.elim False.elim fun h => y4.z.tup (List.mem_append_left _ h)) hws (n_t hl (n_t hsz (n_b rfl))) run ?_
  intro p' ks' h' t' Γ kk tl R'
  have y5 := y4.calls (t' := t') (loc := [_]) (y4.own (loc := [_]) R.noT) kk tl
  refine y_nil ?_
  rw [y5.e]
  exact hQ _ _ _ _ _ (y5.kept h0 hin (List.sublist_cons_self _ _) R'.noT) (y5.z.tupL hL) R'.pt
theorem weak_read0_spec {x : Value} (C : Cx K h₀) (hk : h₀.StaysIn s.heap) (hh : A.handled = none) (hd : A.depth < 880) (hu : A.units < 7800) (hP : ∀ a o, P a o → s.heap.get? a = some o) (hv : VR P x V.weak0.py) (O : Own h₀ s.heap ks) (R : HRep prog w P o p H ks)
    (hQ : ∀ r h' t', Kept h₀ ks s.heap h' ks → IsI 0 r → Q r { s with heap := h', toks := t' }) : wpAny (model prog w) A (call (.ref 199) [.ref o, x]) Q E s := by
  refine enterY (binds := [(Str.ofString "self", .ref o), (Str.ofString "value", x)]) C hk hh (Nat.lt_trans hu (by decide)) O C.KF.f199 rfl (Nat.lt_trans hd (by decide)) (fun _ _ _ => BindsTo.of_eq rfl) (locs rfl) rfl rfl rfl (by decide) ?_
  intro g L h₁ tk cdv A' X m0 hX0 hX1 hX2 y h0 hL hin
  have hvg : VR (Gt g) x V.weak0.py := hv.mono2 (gt_of O hin hP)
  refine ctr fun hG71 => ?_; obtain ⟨_, _, _, _, _, rfl, p1, p2, p3⟩ := VR.two hvg; refine hG71 ?_; clear hG71
  have tg : ∀ {Γ}, TT X.g Γ _ _ := fun {Γ} => TT.mk (.inl p1) p2 p3
  refine y_asg (pv_item' (pv_loc rfl) tg) y fun _ s1 e y1 => ?_
  subst e
  refine y_if_t (pb_or2_t (pb_eqi ((pv_loc up_hit).mono fun v e => ⟨_, e⟩) pv_int (by decide))) y1 fun s2 y2 => ?_
  refine y_ret pv_int y2 fun r s3 e y3 => ?_
  rw [y3.e]
  exact hQ _ _ _ (y3.kept h0 hin (List.Sublist.refl _) R.noT) e
theorem weak_read_spec {k : Nat} {t : T} {x : Value} (C : Cx K h₀) (hk : h₀.StaysIn s.heap) (hh : A.handled = none) (hd : A.depth < 880) (hu : A.units < 7800) (hP : ∀ a o, P a o → s.heap.get? a = some o) (hv : VR P x (V.soft false k).py) (O : Own h₀ s.heap ks) (R : HRep prog w P o p H ks) (ht : H.ts[k]? = some t)
    (h1 : t.st.isLive = false → ∀ r h' t', Kept h₀ ks s.heap h' ks → IsI 0 r → Q r { s with heap := h', toks := t' })
    (h2 : t.st.isLive = true → ∀ r ks' h' t', Kept h₀ ks s.heap h' ks' → IsI ((k : Int) + 1) r → HRep prog w P o p (H.link (.strong, k) 1) ks' → Q r { s with heap := h', toks := t' }) : wpAny (model prog w) A (call (.ref 199) [.ref o, x]) Q E s := by
  refine enterY (binds := [(Str.ofString "self", .ref o), (Str.ofString "value", x)]) C hk hh (Nat.lt_trans hu (by decide)) O C.KF.f199 rfl (Nat.lt_trans hd (by decide)) (fun _ _ _ => BindsTo.of_eq rfl) (locs rfl) rfl rfl rfl (by decide) ?_
  intro g L h₁ tk cdv A' X m0 hX0 hX1 hX2 y h0 hL hin
  have hvg : VR (Gt g) x (V.soft false k).py := hv.mono2 (gt_of O hin hP)
  refine ex6 R.head fun es n od lv ql c hJJ => an10 hJJ fun m1 m2 m3 m4 er elv hod lo hql hlen => ?_; clear hJJ
  obtain ⟨tp, htp⟩ := R.place ht
  refine ex9 (R.thing ht htp) fun es2 n2 kd nm sv wv uv stv f hJJ => an11 hJJ fun t1 t2 er2 k1 k2 k3 k4 k5 k6 hset _ => ?_; clear hJJ
  refine ctr fun hG74 => ?_; obtain ⟨_, _, _, _, _, rfl, p1, p2, p3⟩ := VR.two hvg; refine hG74 ?_; clear hG74
  have tg : ∀ {Γ}, TT X.g Γ _ _ := fun {Γ} => TT.mk (.inl p1) p2 p3
  refine y_asg (pv_item' (pv_loc rfl) tg) y fun _ s1 e y1 => ?_
  subst e
  cases hE : t.st.isLive with
  | false =>
    refine y_if_t (pb_or2_fr (pb_eqi ((pv_loc up_hit).mono fun v e => ⟨_, e⟩) pv_int (by simp; exact n_z)) (pb_nes (pv_attrS (pv_ditem (pv_attr (pv_loc (up_skip rfl)) m1 m2 er (.inr rfl) fun ok => ok.C.a_things) (pv_loc up_hit) m3 hod (fun x e => by subst e; exact isI_is (X := X) ⟨_, rfl⟩) (keyed_at htp)) t1 t2.mem er2 (.inl rfl) (fun ok => ok.C.a_state) k6) pv_str (by rw [live_word, hE]; rfl))) y1 fun s2 y2 => ?_
    refine y_ret pv_int y2 fun r s3 e y3 => ?_
    rw [y3.e]
    exact h1 hE _ _ _ (y3.kept h0 hin (List.Sublist.refl _) R.noT) e
  | true =>
    refine y_if_f (pb_or2_fr (pb_eqi ((pv_loc up_hit).mono fun v e => ⟨_, e⟩) pv_int (by simp; exact n_z)) (pb_nes (pv_attrS (pv_ditem (pv_attr (pv_loc (up_skip rfl)) m1 m2 er (.inr rfl) fun ok => ok.C.a_things) (pv_loc up_hit) m3 hod (fun x e => by subst e; exact isI_is (X := X) ⟨_, rfl⟩) (keyed_at htp)) t1 t2.mem er2 (.inl rfl) (fun ok => ok.C.a_state) k6) pv_str (by rw [live_word, hE]; rfl))) y1 fun s2 y2 => ?_
    refine y_expr (ev_meth (pv_loc (up_skip rfl)) m1 m2 er y2.ok.C.m_retain y2.ok.C.n_retain y2.ok.C.km_retain (pvs1 (pv_loc up_hit)) y2 fun vs s3 e y3 => ?_)
    obtain rfl := Va1.eq e
    refine retain_spec (P := P) y3.ok.C y3.st hX0 (lvA hX1 hd) (lvC hX2 hu) (y3.own (loc := []) R.noT) R ht ⟨_, rfl⟩ (fun e => by rw [e] at hE; cases hE) ?_
    intro ks' h' t' kk R'
    refine y_ret (pv_loc up_hit) (y3.callN R.noT kk) fun r s4 e y4 => ?_
    subst e
    rw [y4.e]
    exact h2 hE _ _ _ _ (y4.kept h0 hin (List.Sublist.refl _) R'.noT) ⟨_, rfl⟩ R'
theorem unowned_read_spec {k : Nat} {t : T} {x : Value} (C : Cx K h₀) (hk : h₀.StaysIn s.heap) (hh : A.handled = none) (hd : A.depth < 880) (hu : A.units < 7800) (hP : ∀ a o, P a o → s.heap.get? a = some o) (hv : VR P x (V.soft true k).py) (O : Own h₀ s.heap ks) (R : HRep prog w P o p H ks) (ht : H.ts[k]? = some t) (hE : t.st.isLive = true)
    (h2 : ∀ r ks' h' t', Kept h₀ ks s.heap h' ks' → IsI ((k : Int) + 1) r → HRep prog w P o p (H.link (.strong, k) 1) ks' → Q r { s with heap := h', toks := t' }) : wpAny (model prog w) A (call (.ref 213) [.ref o, x]) Q E s := by
  refine enterY (binds := [(Str.ofString "self", .ref o), (Str.ofString "value", x)]) C hk hh (Nat.lt_trans hu (by decide)) O C.KF.f213 rfl (Nat.lt_trans hd (by decide)) (fun _ _ _ => BindsTo.of_eq rfl) (locs rfl) rfl rfl rfl (by decide) ?_
  intro g L h₁ tk cdv A' X m0 hX0 hX1 hX2 y h0 hL hin
  have hvg : VR (Gt g) x (V.soft true k).py := hv.mono2 (gt_of O hin hP)
  refine ex6 R.head fun es n od lv ql c hJJ => an10 hJJ fun m1 m2 m3 m4 er elv hod lo hql hlen => ?_; clear hJJ
  obtain ⟨tp, htp⟩ := R.place ht
  refine ex9 (R.thing ht htp) fun es2 n2 kd nm sv wv uv stv f hJJ => an11 hJJ fun t1 t2 er2 k1 k2 k3 k4 k5 k6 hset _ => ?_; clear hJJ
  refine ctr fun hG77 => ?_; obtain ⟨_, _, _, _, _, rfl, p1, p2, p3⟩ := VR.two hvg; refine hG77 ?_; clear hG77
  have tg : ∀ {Γ}, TT X.g Γ _ _ := fun {Γ} => TT.mk (.inl p1) p2 p3
  refine y_if_f (pb_nes (pv_attrS (pv_ditem (pv_attr (pv_loc rfl) m1 m2 er (.inr rfl) fun ok => ok.C.a_things) (pv_item' (pv_loc rfl) tg) m3 hod (fun x e => by subst e; exact isI_is (X := X) ⟨_, rfl⟩) (keyed_at htp)) t1 t2.mem er2 (.inl rfl) (fun ok => ok.C.a_state) k6) pv_str (by rw [live_word, hE]; rfl)) y fun s2 y2 => ?_
  refine y_expr (ev_meth (pv_loc rfl) m1 m2 er y2.ok.C.m_retain y2.ok.C.n_retain y2.ok.C.km_retain (pvs1 (pv_item' (pv_loc rfl) tg)) y2 fun vs s3 e y3 => ?_)
  obtain rfl := Va1.eq e
  refine retain_spec (P := P) y3.ok.C y3.st hX0 (lvA hX1 hd) (lvC hX2 hu) (y3.own (loc := []) R.noT) R ht ⟨_, rfl⟩ (fun e => by rw [e] at hE; cases hE) ?_
  intro ks' h' t' kk R'
  refine y_ret (pv_item' (pv_loc rfl) tg) (y3.callN R.noT kk) fun r s4 e y4 => ?_
  subst e
  rw [y4.e]
  exact h2 _ _ _ _ (y4.kept h0 hin (List.Sublist.refl _) R'.noT) ⟨_, rfl⟩ R'
noncomputable def T.fresh (kd : Kd) (nm : Str) (fs : List V) : T := ⟨kd, nm, fs, 1, 0, 0, .live⟩
noncomputable def H.grow (H : Mine.H) (t : T) : Mine.H := { H with ts := H.ts ++ [t] }
theorem made_spec {kd : Kd} {nm : Str} {kv nv : Value} {fa : Addr} {fs : List Value} {c : Nat} {us : List V} (C : Cx K h₀) (hk : h₀.StaysIn s.heap) (hh : A.handled = none) (hd : A.depth < 880) (hu : A.units < 7800) (O : Own h₀ s.heap ks) (R : HRep prog w P o p H ks) (hkv : IsS kd.word kv) (hnv : IsS nm nv)
    (hf : s.heap.get? fa = some (listOf fs.toArray c)) (hfa : fa ∉ ks.map (·.1)) (hfs : VRs P fs (us.map V.py)) (hlen : us.length ≤ 1000) (hts : H.ts.length ≤ 900)
    (hQ : ∀ p' r ks' h' t', Kept h₀ ks s.heap h' ks' → IsI ((H.ts.length : Int) + 1) r → HRep prog w P o p' (H.grow (T.fresh kd nm us)) ks' → Q r { s with heap := h', toks := t' }) : wpAny (model prog w) A (call (.ref 122) [.ref o, kv, nv, .ref fa]) Q E s := by
  refine enterY (binds := [(Str.ofString "self", .ref o), (Str.ofString "kind", kv), (Str.ofString "name", nv), (Str.ofString "fields", .ref fa)]) C hk hh (Nat.lt_trans hu (by decide)) O C.KF.f122 rfl (Nat.lt_trans hd (by decide)) (fun _ _ _ => BindsTo.of_eq rfl) (locs rfl) rfl rfl rfl (by decide) ?_
  intro g L h₁ tk cdv A' X m0 hX0 hX1 hX2 y h0 hL hin
  have hfg : g.get? fa = some (listOf fs.toArray c) := hin _ _ hf hfa
  have hfl : fs.length = us.length := by simpa using hfs.length
  have hS : sizeLine = 16777216 := rfl
  cases R with | @mk es n c2 od lv ql ls er elv hod lo hql hls =>
  have htl := hls.length
  refine y_asgattr (ev_pv (pv_add (pv_attrI (pv_loc rfl) (.head _) (.tail _ (.head _)) er (.inr rfl) (fun ok => ok.C.a_last) elv) pv_int) y fun v1 s1 e1 y1 => ev_pvq (pv_loc rfl) y1 fun s2 y2 => ?_)
  refine c_setattr y2 (.head _) (.tail .head) er (.inr rfl) y2.ok.C.t_last fun s3 es' n' er' y3 => ?_
  refine y_asgsub (ev_callS y3.ok.C.g_Thing y3.ok.C.k_Thing y3 fun s4 y4 => spliced_more (ev_pvq (pv_loc rfl) y4 fun s5 y5 => spliced_more (ev_pvq (pv_loc rfl) y5 fun s6 y6 => spliced_more (ev_listL (pv_loc rfl) (fun s' y' => ⟨_, y'.z.old hfg, rfl, _, rfl⟩) y6 (n_e hfl (n_t hlen (n_b rfl))) fun fl cc s7 y7 => spliced_none ⟨z_kin y7.z y7.ok.C, ?_⟩) rfl) rfl) rfl)
  refine c_thing y7 (lvA hX1 hd) (lvC hX2 hu) fun x dx es3 n3 sv wv uv stv s8 er3 k3 k4 k5 k6 y8 => ?_
  refine ev_pvq (pv_attr (pv_loc rfl) (.tail _ (.tail _ (.tail _ (.head _)))) (.tail _ (.tail _ (.tail _ (.tail _ (.head _))))) er' (.inr rfl) (fun ok => ok.C.a_things)) y8 fun s9 y9 => ?_
  refine ev_pv (pv_attrI (pv_loc rfl) (.tail _ (.tail _ (.tail _ (.head _)))) (.tail _ (.tail _ (.tail _ (.tail _ (.head _))))) er' (.inr rfl) (fun ok => ok.C.a_last) e1) y9 fun kvl s10 e10 y10 => ?_
  refine c_dset (knd := PySem.intKind prog w) (key := (H.ts.length : Int) + 1) (kvs' := keyed 1 ((p.tps ++ [(⟨x, dx, fl⟩ : TP)]).map fun t : TP => Value.ref t.a)) y10 (.tail (.tail (.tail (.tail (.tail .head))))) hod (isI_is (X := X) e10) (by rw [keyed_length]; simp; exact n_e htl (n_t hts (n_b rfl))) (fun s11 od' hod' y11 => ?_) ?_
  · refine y_ret (pv_attrI (pv_loc rfl) (.tail _ (.tail _ (.tail _ (.head _)))) (.tail _ (.tail _ (.tail _ (.tail _ (.head _))))) er' (.inr rfl) (fun ok => ok.C.a_last) e1) y11 fun r s12 e12 y12 => ?_
    have hnew : TRep P ⟨x, dx, fl⟩ (T.fresh kd nm us) [(x, instObj 97 dx), (dx, dictOf es3 n3), (fl, listOf fs.toArray cc)] := .mk er3 hkv hnv k3 k4 k5 k6 hfs
    have R' : HRep prog w P o { p with tps := p.tps ++ [⟨x, dx, fl⟩] } (H.grow (T.fresh kd nm us)) ((o, instObj 235 p.d) :: (p.d, dictOf es' n') :: (p.t, od') :: (p.q, listOf ql.toArray c2) :: (ls ++ [(x, instObj 97 dx), (dx, dictOf es3 n3), (fl, listOf fs.toArray cc)])) :=
      .mk (p := { p with tps := p.tps ++ [⟨x, dx, fl⟩] }) er' (by show IsI (((H.ts ++ [_]).length : Nat) : Int) _; rw [List.length_append]; exact e1) hod' lo hql (hls.snoc hnew)
    have y13 := y12.perm (news' := (o, instObj 235 p.d) :: (p.d, dictOf es' n') :: (p.t, od') :: (p.q, listOf ql.toArray c2) :: (ls ++ [(x, instObj 97 dx), (dx, dictOf es3 n3), (fl, listOf fs.toArray cc)])) (List.perm_append_comm (l₁ := (o, instObj 235 p.d) :: (p.d, dictOf es' n') :: (p.t, od') :: (p.q, listOf ql.toArray c2) :: ls) (l₂ := [(x, instObj 97 dx), (dx, dictOf es3 n3), (fl, listOf fs.toArray cc)]))
    rw [y13.e]
    exact hQ _ _ _ _ _ (y13.kept h0 hin (List.Sublist.refl _) R'.noT) e12 R'
  · rw [List.map_append, List.map_singleton, ← keyed_stored, List.length_map, htl]
end
end Mine
end
section
open PySem PySem.W PySem.Calls PyProof.Rows PySem.Spec
set_option Elab.async false
set_option maxRecDepth 100000
set_option maxHeartbeats 1000000
set_option rowWalk.seconds 0
set_option linter.unusedVariables false
namespace Mine
/-- 1, 2, .. n -/
noncomputable def nums (n : Nat) : List Int := (List.range n).map fun i : Nat => (i : Int) + 1
theorem keyed_fst (vs : List Value) : ∀ i, (keyed i vs).map (·.1) = (List.range vs.length).map fun j : Nat => (j : Int) + i := by
  induction vs with
  | nil => intro i; rfl
  | cons v r ih =>
    intro i
    simp only [keyed, List.map_cons, List.length_cons, List.range_succ_eq_map, ih (i + 1), List.map_map]
    refine congr (congrArg List.cons ?_) ?_
    · simp
    · apply List.map_congr_left
      intro j _
      simp only [Function.comp]
      push_cast
      lia
theorem keyed_nums (vs : List Value) : (keyed 1 vs).map (·.1) = nums vs.length := keyed_fst vs 1
theorem nums_sorted (n : Nat) : (nums n).Pairwise (· ≤ ·) := by
  unfold nums
  rw [List.pairwise_map]
  exact List.pairwise_lt_range.imp fun h => by lia
theorem nums_get {n i : Nat} (h : i < n) : (nums n)[i]? = some ((i : Int) + 1) := by
  unfold nums
  simp [h]
theorem nums_length (n : Nat) : (nums n).length = n := by simp [nums]
theorem ints_of {vs : List Value} {kvs : List (Int × Value)} {prog : Program} {w : World} (hl : vs.length = kvs.length) (h : ∀ (j : Nat) (v : Value), vs[j]? = some v → ∃ k x, kvs[j]? = some (k, x) ∧ (PySem.intKind prog w).is k v = true) : IntsAre vs (kvs.map (·.1)) := by
  induction vs generalizing kvs with
  | nil => cases kvs with | nil => exact .nil | cons a b => cases hl
  | cons v r ih =>
    cases kvs with
    | nil => cases hl
    | cons a b =>
      obtain ⟨k, x, e, hk⟩ := h 0 v rfl
      cases e
      have hk' : Value.isInt k v = true := hk
      obtain ⟨t, rfl⟩ := Value.isInt_shape hk'
      exact .cons k t (ih (by simpa using hl) fun j u hu => h (j + 1) u hu)
section
variable {X : Fn} {m : Str → Option Value} {news Γ : List (Addr × Obj)} {E : Value → Shared → Prop} {s : Shared} {D : Addr} {its : Array Value} {n : Nat} {f : Obj → List (Addr × Obj)}
theorem Z.alter {g h h' : Heap} {L D : Addr} {o o' : Obj} (z : Z g L h m ((D, o) :: news) Γ) (hn : ¬ IsT o) (hx : ∀ b ob, b ≠ D → h.get? b = some ob → h'.get? b = some ob) (e : h'.get? D = some o') : Z g L h' m ((D, o') :: news) Γ := by
  have nd := z.nd
  rw [List.map_cons, List.nodup_cons] at nd
  have hI := z.N (D, o) (.head _)
  refine ⟨⟨?_, (fun b ob e' => hx b ob (fun q => by subst q; rw [hI.2.2] at e'; cases e') (z.F.keep b ob e')), z.F.above⟩, fun p hp => ?_, z.nd, z.T⟩
  · refine ctr fun hG352 => ?_; obtain ⟨oL, es, ep, hL, r⟩ := id z.F.ns; refine hG352 ?_; clear hG352
    exact ⟨oL, es, ep, hx _ _ (Ne.symm hI.2.1) hL, r⟩
  · rcases List.mem_cons.mp hp with rfl | hp
    · exact ⟨e, hI.2⟩
    · have q := z.N p (.tail _ hp)
      refine ⟨hx _ _ (fun e' => ?_) q.1, q.2⟩
      rcases List.mem_append.mp hp with hp | hp
      · exact nd.1 (List.mem_map.mpr ⟨p, hp, e'⟩)
      · have q1 := q.1
        rw [e', hI.1] at q1
        cases q1
        exact hn (z.T p hp).1
theorem c_sort {prog : Program} {w : World} {A : Around} {g : Heap} {L : Addr} {vs : List Value} {ns : List Int} {Q : Value → Shared → Prop} (z : Z g L s.heap m ((D, listOf vs.toArray n) :: news) Γ) (hi : IntsAre vs ns) (h64 : vs.length < 64) (hs : ns.Pairwise (· ≤ ·))
    (h : ∀ vs' c h', IntsAre vs' ns → Z g L h' m ((D, listOf (List.toArray vs') c) :: news) Γ → Q .none { s with heap := h' }) : wpAny (model prog w) A (call (.builtin "list.sort") [.ref D]) Q E s := by
  have ho : s.heap.get? D = some (seqObj "list" vs.toArray n) := z.get (.head _)
  refine wpAny_call_entry PyProof.Rows.slot_list_sort ⟨_, ho, rfl⟩ PyProof.Rows.entry_list_sort (list_sort_tree (n := n) (vs := vs) ho hi h64 fun out ns' hI hp hP => ⟨.none, rfl, ?_⟩) (PyProof.Rows.args_list_sort _)
  have hns : ns' = ns := lks_uniq hp hP hs
  subst hns
  obtain ⟨e, he⟩ := sortedHeap_at (out := out) ho
  refine h out.toList e _ hI (z.alter notT_list (fun b ob hb hob => ?_) (by rw [Array.toArray_toList]; exact he))
  rw [sortedHeap_old hb (Heap.lt_size hob)]; exact hob
/-- sorted(d), the keys 1, 2, .. -/
theorem ev_sortedD {e : Expr} {d : Addr} {od : Obj} {vals : List Value} {p1 p2 : Pos} {Q : Value → Shared → Prop} (h1 : PV X m news Γ e (· = .ref d)) (hm : (d, od) ∈ news) (hd : od.IsDictOf (PySem.intKind X.prog X.w) (keyed 1 vals)) (lo : (d == sysModules) = false) (h64 : vals.length < 64) (y : Y X m news Γ s)
    (h : ∀ D vs c s', IntsAre vs (nums vals.length) → Y X m ((D, listOf (List.toArray vs) c) :: news) Γ s' → Q (.ref D) s') (h0 : X.env.kindOf "sorted" = some .globalImplicit := by rfl) (he : starEach [e] X.env = (false, eval e X.env) :: starEach [] X.env := by rfl) :
    wpAny (model X.prog X.w) X.A (eval (.Call (.Name (Str.ofString "sorted") p1) [e] [] p2) X.env) Q E s := by
  repeat' walk1
  refine wpAny_mono (pv_boot (y.ok.C.b_sorted) (by boot_fast) (by decide) h0 (by decide) _ s y) (fun v s' q => ?_) (fun _ _ x => x)
  obtain ⟨rfl, y'⟩ := q
  refine PyProof.Rows.callWith_builtin1 (wpAny_mono (pvs1 h1 he _ _ _ y') (fun vs s2 q => ?_) fun _ _ x => x) he rfl
  obtain ⟨⟨_, rfl, rfl⟩, y2⟩ := q
  obtain ⟨ep, hat⟩ := (kda_dict y2.z.N (List.mem_append_left _ hm) hd).dictAt
  have hkl := keyed_length vals 1
  refine kdu_sorted (kdl_dict (knd := PySem.intKind X.prog X.w) (kvs := keyed 1 vals) (ep := ep) lo) y2.ok.hh y2.z.F y2.z.N hat (by rw [hkl]; have : sizeLine = 16777216 := rfl; exact n_s h64 (n_b rfl)) fun B h' tk vs F' N' l1 hl hv => ?_
  have hi := ints_of hl hv
  rw [keyed_nums] at hi
  have z1 := y2.z.more l1 F' N'
  exact c_sort (s := { s2 with heap := h', toks := tk }) z1 hi (n_le hl (n_le hkl h64)) (nums_sorted _) fun vs' c h'' hi' z' => h B vs' c _ hi' (y2.to (t := tk) z')
end
end Mine
end
section
open PySem PySem.W PySem.Calls PyProof.Rows PySem.Spec
set_option Elab.async false
set_option maxRecDepth 100000
set_option maxHeartbeats 4000000
set_option linter.unusedVariables false
namespace Mine
structure HHd (prog : Program) (w : World) (o : Addr) (p : HP) (H : Mine.H) (ks : List (Addr × Obj)) (es : List DictEntry) (n : Nat) (od : Obj) (lv : Value) : Prop where
  m1 : (o, instObj 235 p.d) ∈ ks
  m2 : (p.d, dictOf es n) ∈ ks
  m3 : (p.t, od) ∈ ks
  er : ERel es (hkv p.t p.q lv)
  elv : IsI H.ts.length lv
  hod : od.IsDictOf (PySem.intKind prog w) (keyed 1 (p.tps.map fun t => .ref t.a))
  lo : (p.t == sysModules) = false
  hlen : p.tps.length = H.ts.length
theorem HRep.hd {prog : Program} {w : World} {P : Addr → Obj → Prop} {o : Addr} {p : HP} {H : Mine.H} {ks : List (Addr × Obj)} (R : HRep prog w P o p H ks) : ∃ es n od lv, HHd prog w o p H ks es n od lv := by
  refine ex6 R.head fun es n od lv ql c hJJ => an10 hJJ fun m1 m2 m3 m4 er elv hod lo hql hlen => ?_; clear hJJ
  exact ⟨es, n, od, lv, m1, m2, m3, er, elv, hod, lo, hlen⟩
structure HTh (tp : TP) (t : T) (ks : List (Addr × Obj)) (es : List DictEntry) (n : Nat) (kd nm s w u st : Value) : Prop where
  t1 : (tp.a, instObj 97 tp.d) ∈ ks
  t2 : (tp.d, dictOf es n) ∈ ks
  er : ERel es (tkv tp.f kd nm s w u st)
  k1 : IsS t.kind.word kd
  k2 : IsS t.name nm
  k3 : IsI t.strong s
  k4 : IsI t.weak w
  k5 : IsI t.unowned u
  k6 : IsS t.st.word st
theorem HRep.th {prog : Program} {w : World} {P : Addr → Obj → Prop} {o : Addr} {p : HP} {H : Mine.H} {ks : List (Addr × Obj)} (R : HRep prog w P o p H ks) {k : Nat} {t : T} {tp : TP} (ht : H.ts[k]? = some t) (htp : p.tps[k]? = some tp) : ∃ es n kd nm s w u st, HTh tp t ks es n kd nm s w u st := by
  refine ex9 (R.thing ht htp) fun es2 n2 kd nm sv wv uv stv f hJJ => an11 hJJ fun t1 t2 er2 k1 k2 k3 k4 k5 k6 _ _ => ?_; clear hJJ
  exact ⟨es2, n2, kd, nm, sv, wv, uv, stv, t1, t2.mem, er2, k1, k2, k3, k4, k5, k6⟩
theorem HRep.flds {prog : Program} {w : World} {P : Addr → Obj → Prop} {o : Addr} {p : HP} {H : Mine.H} {ks : List (Addr × Obj)} (R : HRep prog w P o p H ks) {k : Nat} {t : T} {tp : TP} (ht : H.ts[k]? = some t) (htp : p.tps[k]? = some tp) : ∃ fl c, (tp.f, listOf (List.toArray fl) c) ∈ ks ∧ VRs P fl (t.fields.map V.py) := by
  refine ex9 (R.thing ht htp) fun es2 n2 kd nm sv wv uv stv f hJJ => an11 hJJ fun t1 t2 er2 k1 k2 k3 k4 k5 k6 _ r => ?_; clear hJJ
  exact r
noncomputable def Sta.isGone : Sta → Bool
  | .gone => true
  | _ => false
theorem gone_word (x : Sta) : (x.word == Str.ofString "gone") = x.isGone := by cases x <;> decide +kernel
noncomputable def T.told (t : T) : PyData := .tuple [.str t.kind.word, .str t.name]
noncomputable def toldOf (ts : List T) : List PyData := (ts.filter fun t => !t.st.isGone).map T.told
theorem toldOf_snoc (ts : List T) (t : T) : toldOf (ts ++ [t]) = toldOf ts ++ (if t.st.isGone then [] else [t.told]) := by
  unfold toldOf
  rw [List.filter_append, List.map_append]
  congr 1
  cases h : t.st.isGone <;> simp [h]
theorem toldOf_length (ts : List T) : (toldOf ts).length ≤ ts.length := by
  unfold toldOf
  rw [List.length_map]
  exact List.length_filter_le ..
section
variable {prog : Program} {w : World} {K : Frag} {A : Around} {E : Value → Shared → Prop} {s : Shared} {h₀ : Heap} {P : Addr → Obj → Prop} {o : Addr} {p : HP} {H : H} {ks : List (Addr × Obj)} {Q : Value → Shared → Prop}
theorem live_spec (C : Cx K h₀) (hk : h₀.StaysIn s.heap) (hh : A.handled = none) (hd : A.depth < 900) (hu : A.units < 8000) (O : Own h₀ s.heap ks) (R : HRep prog w P o p H ks) (hts : H.ts.length < 64)
    (hQ : ∀ l vs c h' t' Γ, Kept h₀ ks s.heap h' ((l, listOf (List.toArray vs) c) :: ks) → TupL s.heap h' Γ → VRs (Or No Γ) vs (toldOf H.ts) → Q (.ref l) { s with heap := h', toks := t' }) : wpAny (model prog w) A (call (.ref 232) [.ref o]) Q E s := by
  refine enterY (binds := [(Str.ofString "self", .ref o)]) C hk hh (Nat.lt_trans hu (by decide)) O C.KF.f232 rfl (Nat.lt_trans hd (by decide)) (fun _ _ _ => BindsTo.of_eq rfl) (locs rfl) rfl rfl rfl (by decide) ?_
  intro g L h₁ tk cdv A' X m0 hX0 hX1 hX2 y h0 hL hin
  refine ex4 R.hd fun es n od lv hh' => ?_
  have hlen := hh'.hlen
  have hS : sizeLine = 16777216 := rfl
  refine y_asgeff (ev_list pvs_nil y (by decide) (fun vs e => by subst e; rfl) fun vs fl s1 e y1 => y_store y1 fun s2 y2 => ?_)
  subst e
  refine y_for (ev_sortedD (pv_attr (pv_loc (up_skip rfl)) (.tail _ hh'.m1) (.tail _ hh'.m2) hh'.er (.inr rfl) (fun ok => ok.C.a_things)) (.tail _ hh'.m3) hh'.hod hh'.lo (by rw [List.length_map]; exact n_le hlen hts) y2 fun sl svs sc s3 hsv y3 => ?_)
  rw [List.length_map, hlen] at hsv
  have hsl : svs.length = H.ts.length := by rw [hsv.length, nums_length]
  let J1 : Nat → (Str → Option Value) → List (Addr × Obj) → List (Addr × Obj) → Prop := fun i m news Γ => ∃ its c1, news = (sl, listOf svs.toArray sc) :: (fl, listOf its c1) :: ks ∧ m "self" = some (.ref o) ∧ m "found" = some (.ref fl) ∧ VRs (Or No Γ) its.toList (toldOf (H.ts.take i))
  refine ⟨sl, svs.length, J1,
    _, _, _, rfl, y3, ⟨#[], 0, rfl, up_skip rfl, up_hit, .nil⟩, ?_, ?_⟩
  · intro i m news Γ hJJ; refine ex2 hJJ fun its c1 hKK => an4 hKK fun hE1 ms mf hi => ?_; clear hJJ hKK; subst hE1
    refine ⟨_, _, .head _, by simp, fun hlt I oI u s7 E' ho hx y7 => as_name y7 fun s8 y8 => ?_⟩
    have hpi : i < H.ts.length := by exact n_ls hlt (Nat.le_of_eq hsl)
    obtain ⟨ut, hu'⟩ := hsv.get i _ (nums_get hpi)
    have hx' : svs[i]? = some u := by simpa using hx
    rw [hx'] at hu'; cases hu'
    have ht : H.ts[i]? = some H.ts[i] := by simp [hpi]
    obtain ⟨tp, htp⟩ := R.place ht
    refine ex8 (R.th ht htp) fun es2 n2 kd nm sv wv uv stv th => ?_
    have i3 : ∀ {q : Addr × Obj}, q ∈ ks → q ∈ (I, oI) :: (sl, listOf svs.toArray sc) :: (fl, listOf its c1) :: ks := fun h => .tail _ (.tail _ (.tail _ h))
    have hsn : toldOf (H.ts.take (i + 1)) = toldOf (H.ts.take i) ++ (if H.ts[i].st.isGone then [] else [H.ts[i].told]) := by
      rw [List.take_succ_eq_append_getElem hpi, toldOf_snoc]
    have hil := hi.length
    have h5 := toldOf_length (H.ts.take i)
    rw [List.length_take] at h5
    cases hG : H.ts[i].st.isGone with
    | true =>
      refine y_if_f (pb_nes (pv_attrS (pv_ditem (pv_attr (pv_loc (up_skip ms)) (i3 hh'.m1) (i3 hh'.m2) hh'.er (.inr rfl) fun ok => ok.C.a_things) (pv_loc up_hit) (i3 hh'.m3) hh'.hod (fun x e => by subst e; exact isI_is (X := X) ⟨_, rfl⟩) (keyed_at htp)) (i3 th.t1) (i3 th.t2) th.er (.inl rfl) (fun ok => ok.C.a_state) th.k6) pv_str (by rw [gone_word, hG]; rfl)) y8 fun s9 y9 => y_nil ?_
      exact ⟨_, _, _, y9, its, c1, rfl, up_skip ms, up_skip mf, by rw [hsn, hG]; simpa using hi⟩
    | false =>
      refine y_if_t (pb_nes (pv_attrS (pv_ditem (pv_attr (pv_loc (up_skip ms)) (i3 hh'.m1) (i3 hh'.m2) hh'.er (.inr rfl) fun ok => ok.C.a_things) (pv_loc up_hit) (i3 hh'.m3) hh'.hod (fun x e => by subst e; exact isI_is (X := X) ⟨_, rfl⟩) (keyed_at htp)) (i3 th.t1) (i3 th.t2) th.er (.inl rfl) (fun ok => ok.C.a_state) th.k6) pv_str (by rw [gone_word, hG]; rfl)) y8 fun s9 y9 => ?_
      refine y_expr (ev_lmeth1 (pv_loc (up_skip mf)) (.tail (.tail .head)) PySem.F.slot_list_append rfl y9 fun s10 y10 => ev_tup (pvs2
        (pv_attrS (pv_ditem (pv_attr (pv_loc (up_skip ms)) (i3 hh'.m1) (i3 hh'.m2) hh'.er (.inr rfl) fun ok => ok.C.a_things) (pv_loc up_hit) (i3 hh'.m3) hh'.hod (fun x e => by subst e; exact isI_is (X := X) ⟨_, rfl⟩) (keyed_at htp)) (i3 th.t1) (i3 th.t2) th.er (.inl rfl) (fun ok => ok.C.a_kind) th.k1)
        (pv_attrS (pv_ditem (pv_attr (pv_loc (up_skip ms)) (i3 hh'.m1) (i3 hh'.m2) hh'.er (.inr rfl) fun ok => ok.C.a_things) (pv_loc up_hit) (i3 hh'.m3) hh'.hod (fun x e => by subst e; exact isI_is (X := X) ⟨_, rfl⟩) (keyed_at htp)) (i3 th.t1) (i3 th.t2) th.er (.inl rfl) (fun ok => ok.C.a_name) th.k2))
        y10 (by decide) (fun vs e => by obtain ⟨_, _, rfl, _⟩ := e; rfl) fun vs t s11 e y11 => ?_)
      refine ctr fun hG36 => ?_; obtain ⟨_, _, rfl, ⟨_, rfl⟩, ⟨_, rfl⟩⟩ := e; refine hG36 ?_; clear hG36
      have hil' : its.size = (toldOf (H.ts.take i)).length := by simpa using hil
      refine c_append y11 (.tail (.tail .head)) (by lia) fun s12 k12 y12 => y_nil (y_nil ?_)
      refine ⟨_, _, _, y12, _, _, rfl, up_skip ms, up_skip mf, ?_⟩
      rw [hsn, hG]
      exact VRs.push hi.up1 (VR.tup (.head _) (.cons (.str _ _) (.cons (.str _ _) .nil)))
  · intro m news Γ s7 hJJ; refine ex2 hJJ fun its c1 hKK => an4 hKK fun hE2 ms mf hi => ?_; clear hJJ hKK; subst hE2; intro y7
    refine y_ret (pv_loc mf) y7 fun r s8 e y8 => ?_
    subst e
    rw [y8.e]
    rw [hsl, List.take_length] at hi
    refine hQ _ its.toList _ _ _ _ (y8.kept h0 hin (List.sublist_cons_self _ _) fun q hq => ?_) (y8.z.tupL hL) hi
    rcases List.mem_cons.mp hq with rfl | hq
    · exact notT_list
    · exact R.noT q hq
end
end Mine
end
section
open PySem PySem.W PySem.Calls PyProof.Rows PySem.Spec
set_option Elab.async false
set_option maxRecDepth 100000
set_option maxHeartbeats 1000000
set_option rowWalk.seconds 0
set_option linter.unusedVariables false
namespace Mine
section
variable {X : Fn} {m : Str → Option Value} {news Γ : List (Addr × Obj)} {E : Value → Shared → Prop} {s : Shared} {D : Addr} {its : Array Value} {n : Nat} {f : Obj → List (Addr × Obj)}
theorem ev_dict3 {k1 k2 k3 : Str} {c1 c2 c3 : Nat} {q1 q2 q3 p : Pos} {v1 v2 v3 : Expr} {Q : Value → Shared → Prop} (y : Y X m news Γ s)
    (h : ∀ d o s0, o.IsDictOf (PySem.strKind X.prog X.w) [] → Y X m ((d, o) :: news) Γ s0 → wpAny (model X.prog X.w) X.A (eval v1 X.env) (fun x1 s1 => ∀ t1 : Tok, wpAny (model X.prog X.w) X.A (eval v2 X.env) (fun x2 s2 => ∀ t2 : Tok, wpAny (model X.prog X.w) X.A (eval v3 X.env) (fun x3 s3 => ∃ m news' Γ f, Y X m news' Γ s3 ∧ At d o news' f ∧ ∀ o' s', o'.IsDictOf (PySem.strKind X.prog X.w) [(k1, x1), (k2, x2), (k3, x3)] → (d == sysModules) = false → Y X m (f o') Γ s' → Q (.ref d) s') E { s2 with toks := t2 }) E { s1 with toks := t1 }) E s0) (hn : [k1, k2, k3].Nodup := by decide) :
    wpAny (model X.prog X.w) X.A (eval (.Dict [some (.Constant (.str k1) c1 q1), some (.Constant (.str k2) c2 q2), some (.Constant (.str k3) c3 q3)] [v1, v2, v3] p) X.env) Q E s := by
  refine kdn_str (by rfl) y.z.F y.z.N y.ok.C.nolimit (by rfl) (by rfl) (List.cons_ne_nil _ _) (Nat.le_of_ble_eq_true rfl) fun d h' o F' N' l1 lo hd => ?_
  repeat' walk1
  refine wpAny_mono (h d o _ hd ((y.to (y.z.more l1 F' N')).tk _)) (fun x1 s1 h => ?_) fun _ _ x => x
  repeat' walk1
  refine wpAny_mono (h _) (fun x2 s2 h => ?_) fun _ _ x => x
  repeat' walk1
  refine wpAny_mono (h _) (fun x3 s3 h => ?_) fun _ _ x => x
  repeat' walk1
  refine ctr fun hG59 => ?_; obtain ⟨m', news', Γ', f, y', a, hq⟩ := h; refine hG59 ?_; clear hG59
  exact kdn_made_str y'.z.F y'.z.N (y'.z.updF a (dict_notT hd)) hd rfl hn fun h' o' F2 N2 hd' => hq o' _ hd' lo (y'.to (y'.z.put a F2 N2))
theorem ev_dict4 {k1 k2 k3 k4 : Str} {c1 c2 c3 c4 : Nat} {q1 q2 q3 q4 p : Pos} {v1 v2 v3 v4 : Expr} {Q : Value → Shared → Prop} (y : Y X m news Γ s)
    (h : ∀ d o s0, o.IsDictOf (PySem.strKind X.prog X.w) [] → Y X m ((d, o) :: news) Γ s0 → wpAny (model X.prog X.w) X.A (eval v1 X.env) (fun x1 s1 => ∀ t1 : Tok, wpAny (model X.prog X.w) X.A (eval v2 X.env) (fun x2 s2 => ∀ t2 : Tok, wpAny (model X.prog X.w) X.A (eval v3 X.env) (fun x3 s3 => ∀ t3 : Tok, wpAny (model X.prog X.w) X.A (eval v4 X.env) (fun x4 s4 => ∃ m news' Γ f, Y X m news' Γ s4 ∧ At d o news' f ∧ ∀ o' s', o'.IsDictOf (PySem.strKind X.prog X.w) [(k1, x1), (k2, x2), (k3, x3), (k4, x4)] → (d == sysModules) = false → Y X m (f o') Γ s' → Q (.ref d) s') E { s3 with toks := t3 }) E { s2 with toks := t2 }) E { s1 with toks := t1 }) E s0) (hn : [k1, k2, k3, k4].Nodup := by decide) :
    wpAny (model X.prog X.w) X.A (eval (.Dict [some (.Constant (.str k1) c1 q1), some (.Constant (.str k2) c2 q2), some (.Constant (.str k3) c3 q3), some (.Constant (.str k4) c4 q4)] [v1, v2, v3, v4] p) X.env) Q E s := by
  refine kdn_str (by rfl) y.z.F y.z.N y.ok.C.nolimit (by rfl) (by rfl) (List.cons_ne_nil _ _) (Nat.le_of_ble_eq_true rfl) fun d h' o F' N' l1 lo hd => ?_
  repeat' walk1
  refine wpAny_mono (h d o _ hd ((y.to (y.z.more l1 F' N')).tk _)) (fun x1 s1 h => ?_) fun _ _ x => x
  repeat' walk1
  refine wpAny_mono (h _) (fun x2 s2 h => ?_) fun _ _ x => x
  repeat' walk1
  refine wpAny_mono (h _) (fun x3 s3 h => ?_) fun _ _ x => x
  repeat' walk1
  refine wpAny_mono (h _) (fun x4 s4 h => ?_) fun _ _ x => x
  repeat' walk1
  refine ctr fun hG60 => ?_; obtain ⟨m', news', Γ', f, y', a, hq⟩ := h; refine hG60 ?_; clear hG60
  exact kdn_made_str y'.z.F y'.z.N (y'.z.updF a (dict_notT hd)) hd rfl hn fun h' o' F2 N2 hd' => hq o' _ hd' lo (y'.to (y'.z.put a F2 N2))
/-- a call by global name, no arguments -/
theorem ev_call0 {nf : Str} {p1 p2 : Pos} {f : Addr} {Q : Value → Shared → Prop} (hg : nsIn X.K mainGlobals nf = some (some (.ref f))) (hk : keepIn X.K (.ref f) = true) (y : Y X m news Γ s)
    (h : ∀ s', Y X m news Γ s' → wpAny (model X.prog X.w) X.A (call (.ref f) []) Q E s') (hx : X.env.kindOf nf = some .globalImplicit := by rfl) (hd : (nf == ("__debug__" : Str)) = false := by decide) :
    wpAny (model X.prog X.w) X.A (eval (.Call (.Name nf p1) [] [] p2) X.env) Q E s := by
  repeat' walk1
  refine wpAny_mono (pv_glob hg hx hd _ s y) (fun v s' q => ?_) (fun _ _ x => x)
  obtain ⟨rfl, y'⟩ := q
  exact callWith_K0 (z_kin y'.z y'.ok.C) hk (h _ y')
/-- e[k] of a list, both with effect -/
theorem ev_itemE {e k : Expr} {p : Pos} {Q : Value → Shared → Prop}
    (h : wpAny (model X.prog X.w) X.A (eval e X.env) (fun o s1 => wpAny (model X.prog X.w) X.A (eval k X.env) (fun i s2 => ∃ l its c z v m news Γ, o = .ref l ∧ IsI z i ∧ Y X m news Γ s2 ∧ (l, listOf (List.toArray its) c) ∈ news ∧ its[z.toNat]? = some v ∧ 0 ≤ z ∧ z < 2 ^ 63 ∧ ∀ s3, Y X m news Γ s3 → Q v s3) E s1) E s)
    (hs : ∀ o i, subscripted k false o i = operate [o, i] (getItem o i) := by intro _ _; rfl) : wpAny (model X.prog X.w) X.A (eval (.Subscript e k p) X.env) Q E s :=
  Subscript_ (wpAny_mono h (fun o s1 q => wpAny_mono q (fun i s2 q => by
    refine ctr fun hG61 => ?_; obtain ⟨l, its, c, z, v, m, news, Γ, rfl, ⟨t, rfl⟩, y, hm, hx, h0, hf, hq⟩ := q; refine hG61 ?_; clear hG61
    exact tail_any (y.z.isList hm).typeIs slot_list_getitem.lookup (wpAny_getItem_list (y.z.isList hm) h0 hf (by simpa using hx) (hq _ y)) (hs _ _)) fun _ _ x => x) fun _ _ x => x)
/-- {..}[k], a written dict -/
theorem ev_dictItem {e k : Expr} {p : Pos} {key : Str} {Q : Value → Shared → Prop} (h2 : ∀ m news Γ, Y X m news Γ s → True)
    (h : wpAny (model X.prog X.w) X.A (eval e X.env) (fun o s1 => ∃ d ob kvs v m news Γ, o = .ref d ∧ Y X m news Γ s1 ∧ (d, ob) ∈ news ∧ ob.IsDictOf (PySem.strKind X.prog X.w) kvs ∧ PV X m news Γ k (IsS key) ∧ valueAt kvs key = some v ∧ ∀ s2, Y X m news Γ s2 → Q v s2) E s)
    (hs : ∀ o i, subscripted k false o i = operate [o, i] (getItem o i) := by intro _ _; rfl) : wpAny (model X.prog X.w) X.A (eval (.Subscript e k p) X.env) Q E s :=
  Subscript_ (wpAny_mono h (fun o s1 q => by
    refine ctr fun hG62 => ?_; obtain ⟨d, ob, kvs, v, m, news, Γ, rfl, y, hm, hd, hk, hl, hq⟩ := q; refine hG62 ?_; clear hG62
    refine wpAny_mono (hk _ s1 y) (fun i s2 q => ?_) fun _ _ x => x
    have hD := kda_dict q.2.z.N (List.mem_append_left _ hm) hd
    exact tail_any hD.typeIs slot_dict_getitem.lookup (wpAny_getItem_of (isS_is (X := X) q.1) hD.mapOf hl (hq _ (q.2.tk _))) (hs _ _)) fun _ _ x => x)
end
end Mine
end
section
open PySem PySem.W PySem.Calls PyProof.Rows PySem.Spec
set_option Elab.async false
set_option maxRecDepth 100000
set_option maxHeartbeats 4000000
set_option linter.unusedVariables false
namespace Mine
structure BHd (prog : Program) (w : World) (P : Addr → Obj → Prop) (b : Addr) (p : BP) (H : Mine.H) (held : List V) (ks : List (Addr × Obj)) (ob ot on : Obj) (hl ql : List Value) (c c2 : Nat) : Prop where
  m1 : (b, ob) ∈ ks
  m2 : (p.t, ot) ∈ ks
  m3 : (p.n, on) ∈ ks
  m4 : (p.h, listOf hl.toArray c) ∈ ks
  m5 : (p.q, listOf ql.toArray c2) ∈ ks
  hob : ob.IsDictOf (PySem.strKind prog w) (bkv p)
  hot : ot.IsDictOf (PySem.intKind prog w) (keyed 1 (p.tps.map fun t => .ref t.a))
  lo : (p.t == sysModules) = false
  hh : VRs P hl (held.map V.py)
  hq : IntsAre ql (H.dying.map fun n : Nat => (n : Int) + 1)
  hlen : p.tps.length = H.ts.length
theorem BRep.hd {prog : Program} {w : World} {P : Addr → Obj → Prop} {b : Addr} {p : BP} {H : Mine.H} {held : List V} {ks : List (Addr × Obj)} (R : BRep prog w P b p H held ks) : ∃ ob ot on hl ql c c2, BHd prog w P b p H held ks ob ot on hl ql c c2 := by
  cases R with | mk a b c d e f g i =>
  exact ⟨_, _, _, _, _, _, _, .head _, .tail _ (.head _), .tail _ (.tail _ (.head _)), .tail _ (.tail _ (.tail _ (.head _))), .tail _ (.tail _ (.tail _ (.tail _ (.head _)))), a, b, d, f, g, i.length⟩
theorem BRep.place {prog : Program} {w : World} {P : Addr → Obj → Prop} {b : Addr} {p : BP} {H : Mine.H} {held : List V} {ks : List (Addr × Obj)} (R : BRep prog w P b p H held ks) {k : Nat} {t : T} (ht : H.ts[k]? = some t) : ∃ tp, p.tps[k]? = some tp := by
  cases R with | mk a b c d e f g i => exact i.at ht
structure BTh (prog : Program) (w : World) (P : Addr → Obj → Prop) (b : Addr) (p : BP) (H : Mine.H) (held : List V) (k : Nat) (tp : BTP) (t : T) (ks : List (Addr × Obj)) (kd s w' u st : Value) (n c : Nat) (fls : List Value) (f : Obj → List (Addr × Obj)) : Prop where
  at_ : At tp.a (listOf #[kd, .ref tp.f, s, w', u, st] n) ks f
  k1 : IsS t.kind.word kd
  k3 : IsI t.strong s
  k4 : IsI t.weak w'
  k5 : IsI t.unowned u
  k6 : IsS t.st.word st
  t3 : (tp.f, listOf fls.toArray c) ∈ ks
  k7 : VRs P fls (t.fields.map V.py)
  set : ∀ n' t' s2 w2 u2 st2, IsI t'.strong s2 → IsI t'.weak w2 → IsI t'.unowned u2 → IsS t'.st.word st2 → t'.kind = t.kind → t'.name = t.name → t'.fields = t.fields → BRep prog w P b p (H.set k t') held (f (listOf #[kd, .ref tp.f, s2, w2, u2, st2] n'))
theorem names_set {ts : List T} {k : Nat} {t t' : T} (h : ts[k]? = some t) (hn : t'.name = t.name) : (ts.set k t').map T.name = ts.map T.name := by
  rw [List.map_set, hn]
  exact set_self (by rw [List.getElem?_map, h]; rfl)
theorem BRep.th {prog : Program} {w : World} {P : Addr → Obj → Prop} {b : Addr} {p : BP} {H : Mine.H} {held : List V} {ks : List (Addr × Obj)} (R : BRep prog w P b p H held ks) {k : Nat} {t : T} {tp : BTP} (ht : H.ts[k]? = some t) (htp : p.tps[k]? = some tp) :
    ∃ kd s w' u st n c fls f, BTh prog w P b p H held k tp t ks kd s w' u st n c fls f := by
  cases R with | mk a1 a2 a3 a4 a5 a6 a7 a8 =>
  refine ctr fun hG363 => ?_; obtain ⟨pre, l, post, rfl, q, g⟩ := a8.focus htp ht; refine hG363 ?_; clear hG363
  cases q with | @mk n c fls _ _ _ _ _ q1 q2 q3 q4 q5 q6 =>
  refine ⟨_, _, _, _, _, n, c, fls, _, .tail (.tail (.tail (.tail (.tail (.app (.appl .head)))))), q1, q2, q3, q4, q5, by simp, q6, ?_⟩
  intro n' t' s2 w2 u2 st2 h1 h2 h3 h4 h5 h6 h7
  have := g tp t' _ (.mk (n := n') (c := c) (h5 ▸ q1) h1 h2 h3 h4 (h7 ▸ q6))
  rw [set_self htp] at this
  exact .mk a1 a2 a3 a4 (by show Strs _ ((H.ts.set k t').map T.name); rw [names_set ht h6]; exact a5) a6 a7 this
noncomputable def W3.spot : W3 → Nat
  | .strong => 2
  | .weak => 3
  | .unowned => 4
section
variable {prog : Program} {w : World} {K : Frag} {A : Around} {E : Value → Shared → Prop} {s : Shared} {h₀ : Heap} {P : Addr → Obj → Prop} {o : Addr} {p : HP} {H : H} {ks : List (Addr × Obj)} {Q : Value → Shared → Prop}
theorem kinds_spec (C : Cx K h₀) (hk : h₀.StaysIn s.heap) (hh : A.handled = none) (hd : A.depth < 900) (hu : A.units < 8000)
    (hQ : ∀ l c h' t' u1 u2 u3 u4, Kept h₀ [] s.heap h' [(l, listOf #[.str (Str.ofString "object") u1, .str (Str.ofString "box") u2, .str (Str.ofString "buffer") u3, .str (Str.ofString "context") u4] c)] → Q (.ref l) { s with heap := h', toks := t' }) :
    wpAny (model prog w) A (call (.ref 246) []) Q E s := by
  refine enterY (binds := []) C hk hh (Nat.lt_trans hu (by decide)) Own.nil C.KF.f246 rfl (Nat.lt_trans hd (by decide)) (fun _ _ _ => BindsTo.of_eq rfl) (locs rfl) rfl rfl rfl (by decide) ?_
  intro g L h₁ tk cdv A' X m0 hX0 hX1 hX2 y h0 hL hin
  refine y_reteff (ev_list (pvs_cons pv_str (pvs3 pv_str pv_str pv_str)) y (by decide) (fun vs e => by obtain ⟨_, _, rfl, _, _, _, _, rfl, _⟩ := e; rfl) fun vs l s1 e y1 => ?_)
  refine ctr fun hG364 => ?_; obtain ⟨_, _, rfl, ⟨_, rfl⟩, _, _, _, rfl, ⟨_, rfl⟩, ⟨_, rfl⟩, ⟨_, rfl⟩⟩ := e; refine hG364 ?_; clear hG364
  rw [y1.e]
  exact hQ _ _ _ _ _ _ _ _ (y1.z.kept1 h0 hin (.head _) notT_list)
theorem draw_spec {a c : Addr} {z : Int} {v : Value} (C : Cx K h₀) (hk : h₀.StaysIn s.heap) (hh : A.handled = none) (hd : A.depth < 900) (hu : A.units < 8000) (O : Own h₀ s.heap ks) (R : WRep prog w a c ks) (hv : IsI z v) (hz : 1 ≤ z) (hz2 : z ≤ 1000000)
    (hQ : ∀ r i ks' h' t', Kept h₀ ks s.heap h' ks' → WRep prog w a c ks' → IsI i r → 0 ≤ i → i < z → Q r { s with heap := h', toks := t' }) : wpAny (model prog w) A (call (.ref 253) [.ref a, v]) Q E s := by
  refine enterY (binds := [(Str.ofString "well", .ref a), (Str.ofString "size", v)]) C hk hh (Nat.lt_trans hu (by decide)) O C.KF.f253 rfl (Nat.lt_trans hd (by decide)) (fun _ _ _ => BindsTo.of_eq rfl) (locs rfl) rfl rfl rfl (by decide) ?_
  intro g L h₁ tk cdv A' X m0 hX0 hX1 hX2 y h0 hL hin
  cases R with | @mk od n vs ns x yv i st hod hx hy hy0 hy1 hvs hns hlen =>
  have hS : sizeLine = 16777216 := rfl
  have hvl := hvs.length
  have rest : ∀ (cell : Int) cv s1, IsI cell cv → 0 ≤ cell → Y X (up (Str.ofString "cell") cv fun y => List.lookup y [(Str.ofString "well", Value.ref a), (Str.ofString "size", v)].reverse) [(a, od), (c, listOf vs.toArray n)] [] s1 →
      wpAny (model X.prog X.w) X.A (execs (stBody (topSt 14)).tail X.env) (KRet Q) (fun _ _ => False) s1 := by
    intro cell cv s1 hc hc0 y1
    refine y_asgsub (ev_pv (pv_add ((pv_dstr (pv_loc (up_skip rfl)) (.head _) hod).mono fun v e => by subst e; exact hx) pv_int) y1 fun v1 s2 e1 y2 => ev_pvq (pv_loc (up_skip rfl)) y2 fun s3 y3 => ev_pv pv_str y3 fun v2 s4 e4 y4 => ?_)
    refine c_dset (knd := PySem.strKind prog w) y4 .head hod (isS_is (X := X) e4) (Nat.le_of_ble_eq_true rfl) (kvs' := wkv c v1 yv) (fun s5 od2 hod2 y5 => ?_) rfl
    refine y_asgsub (ev_pv (pv_mod (pv_add (pv_add (pv_mul ((pv_dstr (pv_loc (up_skip rfl)) (.head _) hod2).mono fun v e => by subst e; exact hy) pv_int (IntMulOk.of_right (by decide))) (pv_mod ((pv_loc up_hit).mono fun v e => by subst e; exact hc) pv_int (by decide))) pv_int) pv_int (by decide)) y5 fun v3 s6 e5 y6 => ev_pvq (pv_loc (up_skip rfl)) y6 fun s7 y7 => ev_pv pv_str y7 fun v4 s8 e8 y8 => ?_)
    refine c_dset (knd := PySem.strKind prog w) y8 .head hod2 (isS_is (X := X) e8) (Nat.le_of_ble_eq_true rfl) (kvs' := wkv c v1 v3) (fun s9 od3 hod3 y9 => ?_) rfl
    refine y_ret (pv_mod ((pv_loc up_hit).mono fun v e => by subst e; exact hc) ((pv_loc (up_skip rfl)).mono fun u e => by subst e; exact hv) (by lia)) y9 fun r s10 e10 y10 => ?_
    have R' : WRep prog w a c [(a, od3), (c, listOf vs.toArray n)] := .mk (i := i + 1) hod3 (by push_cast; exact e1) e5 (Int.fmod_nonneg_of_pos _ (by decide)) (Int.fmod_lt_of_pos _ (by decide)) hvs hns hlen
    rw [y10.e]
    exact hQ _ _ _ _ _ (y10.kept h0 hin (List.Sublist.refl _) R'.noT) R' e10 (Int.fmod_nonneg_of_pos _ (by lia)) (Int.fmod_lt_of_pos _ (by lia))
  by_cases hi : i < vs.length
  · obtain ⟨t, ht⟩ := hvs.get i (ns[i]'(n_ls hi (Nat.le_of_eq hvl))) (by simp [show i < ns.length by exact n_ls hi (Nat.le_of_eq hvl)])
    have hb := hns (ns[i]'(n_ls hi (Nat.le_of_eq hvl))) (List.getElem_mem _)
    refine y_asgeff (ev_ifexp true (pb_lti ((pv_dstr (pv_loc rfl) (.head _) hod).mono fun v e => by subst e; exact hx) (pv_len (pv_dstr (pv_loc rfl) (.head _) hod) (.tail _ (.head _)) (n_t hlen (n_b rfl))) (decide_eq_true (by lia))) y fun s1 y1 =>
      ev_pvq (pv_litem (vp := fun _ => True) (pv_dstr (pv_loc rfl) (.head _) hod) ((pv_dstr (pv_loc rfl) (.head _) hod).mono fun v e => by subst e; exact hx) (.tail _ (.head _)) (by simpa using ht) (Int.natCast_nonneg _) (n_c (n_s hi (n_t hlen (Nat.le_refl _))) rfl)) y1 fun s2 y2 => y_store y2 fun s3 y3 => ?_)
    exact rest _ _ s3 ⟨t, rfl⟩ hb.1 y3
  · refine y_asgeff (ev_ifexp false (pb_lti ((pv_dstr (pv_loc rfl) (.head _) hod).mono fun v e => by subst e; exact hx) (pv_len (pv_dstr (pv_loc rfl) (.head _) hod) (.tail _ (.head _)) (n_t hlen (n_b rfl))) (decide_eq_false (by lia))) y fun s1 y1 =>
      ev_pv (pv_fdiv ((pv_dstr (pv_loc rfl) (.head _) hod).mono fun v e => by subst e; exact hy) pv_int (by decide) (by unfold Builtin.divisionGoesByPylong; rfl)) y1 fun cv s2 e y2 => y_store y2 fun s3 y3 => ?_)
    exact rest _ _ s3 e (by rw [Int.fdiv_eq_ediv_of_nonneg _ (by decide)]; lia) y3
end
end Mine
end
section
open PySem PySem.W PySem.Calls PyProof.Rows PySem.Spec
set_option Elab.async false
set_option maxRecDepth 100000
set_option maxHeartbeats 4000000
set_option linter.unusedVariables false
namespace Mine
section
variable {X : Fn} {m : Str → Option Value} {news Γ : List (Addr × Obj)} {E : Value → Shared → Prop} {s : Shared} {D : Addr} {its : Array Value} {n : Nat} {f : Obj → List (Addr × Obj)}
theorem ev_spot {k : W3} {nx : Str} {a : Value} {c1 c2 c3 d1 d2 d3 : Nat} {q1 q2 q3 r1 r2 r3 p1 p2 p3 : Pos} {Q : Value → Shared → Prop} (y : Y X m news Γ s) (hx : m nx = some a) (ha : IsS k.word a) (h : ∀ v s', IsI (k.spot : Int) v → Y X m news Γ s' → Q v s')
    (h0 : X.env.kindOf nx = some .local := by rfl) (hdb : (nx == ("__debug__" : Str)) = false := by decide) :
    wpAny (model X.prog X.w) X.A (eval (.Subscript (.Dict [some (.Constant (.str (Str.ofString "strong")) c1 q1), some (.Constant (.str (Str.ofString "weak")) c2 q2), some (.Constant (.str (Str.ofString "unowned")) c3 q3)] [.Constant (.int 2) d1 r1, .Constant (.int 3) d2 r2, .Constant (.int 4) d3 r3] p2) (.Name nx p1) p3) X.env) Q E s := by
  have hw2 : ∀ p : Addr × Obj, PV X m (p :: news) Γ (.Name nx p1) (IsS k.word) := fun p => (pv_loc hx h0 hdb).mono fun v e => by subst e; exact ha
  have key : ∀ d o' x1 x2 x3 s', IsI 2 x1 → IsI 3 x2 → IsI 4 x3 → o'.IsDictOf (PySem.strKind X.prog X.w) [(Str.ofString "strong", x1), (Str.ofString "weak", x2), (Str.ofString "unowned", x3)] → Y X m ((d, o') :: news) Γ s' →
      ∃ d' ob kvs v m' news' Γ', Value.ref d = .ref d' ∧ Y X m' news' Γ' s' ∧ (d', ob) ∈ news' ∧ ob.IsDictOf (PySem.strKind X.prog X.w) kvs ∧ PV X m' news' Γ' (.Name nx p1) (IsS k.word) ∧ valueAt kvs k.word = some v ∧ ∀ s2, Y X m' news' Γ' s2 → Q v s2 := by
    intro d o' x1 x2 x3 s' e1 e2 e3 hd' y'
    have fin : ∀ x, IsI (k.spot : Int) x → ∀ s2, Y X m ((d, o') :: news) Γ s2 → Q x s2 := fun x e s2 y2 => h x s2 e (y2.sub (List.sublist_cons_self _ _))
    cases k with
    | strong => exact ⟨d, o', _, x1, _, _, _, rfl, y', .head _, hd', hw2 _, rfl, fin _ e1⟩
    | weak => exact ⟨d, o', _, x2, _, _, _, rfl, y', .head _, hd', hw2 _, rfl, fin _ e2⟩
    | unowned => exact ⟨d, o', _, x3, _, _, _, rfl, y', .head _, hd', hw2 _, rfl, fin _ e3⟩
  with_reducible refine ev_dictItem (key := k.word) (fun _ _ _ _ => trivial) ?_ ?hs
  case hs => intro _ _; rfl
  with_reducible refine ev_dict3 y ?_ ?hn
  case hn => decide
  intro d o s0 hd0 y0
  refine ev_pv pv_int y0 ?_
  intro x1 s1 e1 y1 t1
  refine ev_pv pv_int (y1.tk _) ?_
  intro x2 s2 e2 y2 t2
  refine ev_pv pv_int (y2.tk _) ?_
  intro x3 s3 e3 y3
  exact ⟨_, _, _, _, y3, .head, fun o' s' hd' lo y' => key d o' x1 x2 x3 s' e1 e2 e3 hd' y'⟩
end
theorem BTh.spot {prog : Program} {w : World} {P : Addr → Obj → Prop} {b : Addr} {p : BP} {H : Mine.H} {held : List V} {k : Nat} {tp : BTP} {t : T} {ks : List (Addr × Obj)} {kd s w' u st : Value} {n c : Nat} {fls : List Value} {f : Obj → List (Addr × Obj)} (th : BTh prog w P b p H held k tp t ks kd s w' u st n c fls f) (lw : W3) (d : Int) :
    ∃ old z, ([kd, .ref tp.f, s, w', u, st] : List Value)[lw.spot]? = some old ∧ IsI z old ∧ ∀ v' n', IsI (z + d) v' → BRep prog w P b p (H.set k (t.add lw d)) held (f (listOf ((#[kd, .ref tp.f, s, w', u, st] : Array Value).setIfInBounds lw.spot v') n')) := by
  cases lw with
  | strong => exact ⟨_, _, rfl, th.k3, fun v' n' e => th.set n' _ _ _ _ _ e th.k4 th.k5 th.k6 rfl rfl rfl⟩
  | weak => exact ⟨_, _, rfl, th.k4, fun v' n' e => th.set n' _ _ _ _ _ th.k3 e th.k5 th.k6 rfl rfl rfl⟩
  | unowned => exact ⟨_, _, rfl, th.k5, fun v' n' e => th.set n' _ _ _ _ _ th.k3 th.k4 e th.k6 rfl rfl rfl⟩
section
variable {prog : Program} {w : World} {K : Frag} {A : Around} {E : Value → Shared → Prop} {s : Shared} {h₀ : Heap} {P P1 : Addr → Obj → Prop} {b : Addr} {p : BP} {H : H} {held : List V} {ks : List (Addr × Obj)} {Q : Value → Shared → Prop}
theorem more_spec {v : V} {x st : Value} (C : Cx K h₀) (hk : h₀.StaysIn s.heap) (hh : A.handled = none) (hd : A.depth < 800) (hu : A.units < 7000) (hP : ∀ a o, P1 a o → s.heap.get? a = some o) (hv : VR P1 x v.py) (hdep : v.dep ≤ 60) (hsz : v.size ≤ 2 ^ 22) (O : Own h₀ s.heap ks) (R : BRep prog w P b p H held ks)
    (hl : ∀ l ∈ v.links, ∃ t, H.ts[l.2]? = some t) (hst : IsI 1 st)
    (hQ : ∀ ks' h' t' Γ, Kept h₀ ks s.heap h' ks' → TupL s.heap h' Γ → BRep prog w P b p (H.links v.links 1) held ks' → Q .none { s with heap := h', toks := t' }) : wpAny (model prog w) A (call (.ref 274) [.ref b, x, st]) Q E s := by
  refine enterY (binds := [(Str.ofString "book", .ref b), (Str.ofString "value", x), (Str.ofString "step", st)]) C hk hh (Nat.lt_trans hu (by decide)) O C.KF.f274 rfl (Nat.lt_trans hd (by decide)) (fun _ _ _ => BindsTo.of_eq rfl) (locs rfl) rfl rfl rfl (by decide) ?_
  intro g L h₁ tk cdv A' X m0 hX0 hX1 hX2 y h0 hL hin
  have hvg : VR (Gt g) x v.py := hv.mono2 (gt_of O hin hP)
  refine y_for (ev_call y.ok.C.g_law_links y.ok.C.k_law_links (pvs1 (pv_loc rfl)) y fun vs s1 e y1 => ?_)
  obtain rfl := Va1.eq e
  refine links_spec (v := v) (P := Or (Gt g) []) v.dep (Nat.le_refl _) y1.ok.C y1.st hX0 (by show A'.depth + v.dep < 880; exact n_lt (n_t (n_a (n_e hX1 (n_t (n_a (n_s hd (Nat.le_refl _)) (Nat.le_refl _)) (Nat.le_refl _))) (n_t hdep (Nat.le_refl _))) (Nat.le_refl _)) (n_bl rfl)) (by show A'.units + 4 * v.dep < 7900; exact n_lt (n_t (n_a (n_e hX2 (n_t (n_a (n_s hu (Nat.le_refl _)) (Nat.le_refl _)) (Nat.le_refl _))) (n_t (n_m 4 (n_t hdep (Nat.le_refl _))) (Nat.le_refl _))) (Nat.le_refl _)) (n_bl rfl)) y1.z.has hvg.inl hdep hsz ?_
  intro cl ws c h' t' Γ' kk tl hws
  have hlen : ws.length = v.links.length := by simpa using hws.length
  let J2 : Nat → (Str → Option Value) → List (Addr × Obj) → List (Addr × Obj) → Prop := fun i m news Γ => ∃ ksi, news = (cl, listOf ws.toArray c) :: ksi ∧ m "book" = some (.ref b) ∧ m "step" = some st ∧ VRs (Or No Γ) ws (v.links.map Link.py) ∧ BRep prog w P b p (H.links (v.links.take i) 1) held ksi
  refine ⟨cl, ws.length, J2,
    _, _, _, rfl, y1.call1 kk tl, ⟨ks, rfl, rfl, rfl, hws.left, by simpa [Mine.H.links] using R⟩, ?_, ?_⟩
  · intro i m news Γ hJJ; refine Exists.elim hJJ fun ksi hKK => an5 hKK fun hE3 mb mst hw Ri => ?_; clear hJJ hKK; subst hE3
    refine ⟨_, _, .head _, by simp, fun hlt I oI u s7 E' ho hx y7 => ?_⟩
    have hx' : ws[i]? = some u := by simpa using hx
    have hpi : i < v.links.length := by exact n_ls hlt (Nat.le_of_eq hlen)
    obtain ⟨u', hu1, hu2⟩ := hw.get (i := i) (d := (v.links[i]).py) (by simp [hpi])
    rw [hx'] at hu1; cases hu1
    refine ctr fun hG248 => ?_; obtain ⟨t, a, bb, rfl, tt, ha, hb⟩ := VR.linkTT (g := g) hu2.no; refine hG248 ?_; clear hG248
    obtain ⟨T0, hT0⟩ := hl _ (List.getElem_mem hpi)
    obtain ⟨T1, hT1, _⟩ := Mine.H.links_get (v.links.take i) 1 _ hT0
    have hnext : H.links (v.links.take (i + 1)) 1 = (H.links (v.links.take i) 1).set (v.links[i]).2 (T1.add (v.links[i]).1 1) := by
      rw [List.take_succ_eq_append_getElem hpi, Mine.H.links_snoc, Mine.H.link_eq hT1]
    obtain ⟨tp, htp⟩ := Ri.place hT1
    refine ex7 Ri.hd fun ob ot on hls ql cc c2 bh => ?_
    refine ctr fun hG250 => ?_; obtain ⟨kd, sv, wv, uv, stv, n, c3, fls, f, th⟩ := Ri.th hT1 htp; refine hG250 ?_; clear hG250
    have i2 : ∀ {q : Addr × Obj}, q ∈ ksi → q ∈ (I, oI) :: (cl, listOf ws.toArray c) :: ksi := fun h => .tail _ (.tail _ h)
    refine as_pair y7 tt fun s8 y8 => ?_
    refine y_asgeff ?_
    with_reducible refine ev_spot (k := (v.links[i]).1) y8 ?hx ha ?_ ?h0 ?hdb
    case hx => exact up_skip up_hit
    case h0 => rfl
    case hdb => decide
    intro spv s9 hsp y9
    refine y_store y9 fun s10 y10 => ?_
    refine ctr fun hG251 => ?_; obtain ⟨old, z, ho1, ho2, ho3⟩ := th.spot (v.links[i]).1 1; refine hG251 ?_; clear hG251
    have hsp3 : (v.links[i]).1.spot < 6 := by cases (v.links[i]).1 <;> decide
    refine y_asgsub (ev_pv (pv_add ((pv_litem (vp := fun _ => True) (pv_ditem (pv_dstr (pv_loc (up_skip (up_skip (up_skip mb)))) (i2 bh.m1) bh.hob) (pv_loc (up_skip up_hit)) (i2 bh.m2) bh.hot (fun x e => by subst e; exact isI_is (X := X) hb) (keyed_atB htp)) ((pv_loc up_hit).mono fun v e => by subst e; exact hsp) (i2 th.at_.mem) (by rw [Int.toNat_natCast]; exact ho1) (Int.natCast_nonneg _) (n_c (n_s hsp3 (Nat.le_refl _)) rfl)).mono fun v e => by subst e; exact ho2) ((pv_loc (up_skip (up_skip (up_skip mst)))).mono fun v e => by subst e; exact hst)) y10 fun nv s11 env y11 => ?_)
    refine ev_pvq (pv_ditem (pv_dstr (pv_loc (up_skip (up_skip (up_skip mb)))) (i2 bh.m1) bh.hob) (pv_loc (up_skip up_hit)) (i2 bh.m2) bh.hot (fun x e => by subst e; exact isI_is (X := X) hb) (keyed_atB htp)) y11 fun s12 y12 => ev_pv ((pv_loc up_hit).mono fun v e => by subst e; exact hsp) y12 fun sv2 s13 e13 y13 => ?_
    obtain ⟨u2, rfl⟩ := e13
    refine c_lset y13 (.tail (.tail th.at_)) (Int.natCast_nonneg _) (by show ((v.links[i]).1.spot : Int) < 6; lia) (n_c (n_s hsp3 (Nat.le_refl _)) rfl) fun s14 c14 y14 => y_nil ?_
    rw [Int.toNat_natCast] at y14
    exact ⟨_, _, _, y14, _, rfl, up_skip (up_skip (up_skip mb)), up_skip (up_skip (up_skip mst)), hw, by rw [hnext]; exact ho3 nv c14 env⟩
  · intro m news Γ s7 hJJ; refine Exists.elim hJJ fun ksi hKK => an5 hKK fun hE4 mb mst hw Ri => ?_; clear hJJ hKK; subst hE4; intro y7
    refine y_nil ?_
    rw [y7.e]
    rw [hlen, List.take_length] at Ri
    exact hQ _ _ _ _ (y7.kept h0 hin (List.sublist_cons_self _ _) Ri.noT) (y7.z.tupL hL) Ri
end
end Mine
end
section
open PySem PySem.W PySem.Calls PyProof.Rows PySem.Spec
set_option Elab.async false
set_option maxRecDepth 100000
set_option maxHeartbeats 4000000
set_option linter.unusedVariables false
namespace Mine
section
variable {X : Fn} {m : Str → Option Value} {news Γ : List (Addr × Obj)} {E : Value → Shared → Prop} {s : Shared} {D : Addr} {its : Array Value} {n : Nat} {f : Obj → List (Addr × Obj)}
theorem as_sub {e i : Expr} {p : Pos} {v : Value} {Q : Unit → Shared → Prop} (h : wpAny (model X.prog X.w) X.A (eval e X.env) (fun ov s2 => wpAny (model X.prog X.w) X.A (eval i X.env) (fun iv s3 => wpAny (model X.prog X.w) X.A (setItem ov iv v) (fun _ s4 => Q () s4) E s3) E s2) E s) :
    wpAny (model X.prog X.w) X.A (assign (.Subscript e i p) X.env v) Q E s := by
  rw [PySem.assign_Subscript]
  refine wpAny_bind (wpAny_holding (wpAny_mono h (fun ov s2 q => wpAny_bind (wpAny_holding (wpAny_mono q (fun iv s3 q => wpAny_bind (wpAny_standAt (wpAny_bind (wpAny_holding (wpAny_mono q (fun _ s4 q => ?_) fun _ _ x => x))))) fun _ _ x => x))) fun _ _ x => x))
  exact wpAny_release q
theorem as_tup3 {e1 e2 e3 : Expr} {k : Nat} {pt : Pos} {t : Addr} {v1 v2 v3 : Value} {Q : Unit → Shared → Prop} (y : Y X m news Γ s) (ht : TT X.g Γ t [v1, v2, v3])
    (h : ∀ s', Y X m news Γ s' → wpAny (model X.prog X.w) X.A (assign e1 X.env v1) (fun _ s1 => wpAny (model X.prog X.w) X.A (assign e2 X.env v2) (fun _ s2 => wpAny (model X.prog X.w) X.A (assign e3 X.env v3) (fun _ s3 => Q () s3) E s2) E s1) E s')
    (he : assignEach [e1, e2, e3] X.env = [(false, assign e1 X.env), (false, assign e2 X.env), (false, assign e3 X.env)] := by rfl) : wpAny (model X.prog X.w) X.A (assign (.Tuple [e1, e2, e3] k pt) X.env (.ref t)) Q E s := by
  have ht' := z_tupO y.z ht
  refine wpAny_assign_Tuple (items := #[v1, v2, v3]) y.ok.hh (by obtain ⟨o, ho, hc, n, hd⟩ := ht'; exact ⟨o, ho, hc, n, hd⟩) (by rw [he]; rfl) (by rw [he]; rfl) fun h₃ hx₃ => ?_
  have y2 : Y X m news Γ { s with heap := h₃ } := y.to (t := s.toks) (y.z.ext hx₃)
  rw [he]
  show wpAny _ _ (do holding [v2, v3] (assign e1 X.env v1); holding [v3] (assign e2 X.env v2); holding [] (assign e3 X.env v3); pure ()) _ _ _
  exact wpAny_bind (wpAny_holding (wpAny_mono (h _ y2) (fun _ s1 q => wpAny_bind (wpAny_holding (wpAny_mono q (fun _ s2 q => wpAny_bind (wpAny_holding (wpAny_mono q (fun _ s3 q => wpAny_pure q) fun _ _ x => x))) fun _ _ x => x))) fun _ _ x => x))
theorem as_tup2 {e1 e2 : Expr} {k : Nat} {pt : Pos} {t : Addr} {v1 v2 : Value} {Q : Unit → Shared → Prop} (y : Y X m news Γ s) (ht : TT X.g Γ t [v1, v2])
    (h : ∀ s', Y X m news Γ s' → wpAny (model X.prog X.w) X.A (assign e1 X.env v1) (fun _ s1 => wpAny (model X.prog X.w) X.A (assign e2 X.env v2) (fun _ s2 => Q () s2) E s1) E s')
    (he : assignEach [e1, e2] X.env = [(false, assign e1 X.env), (false, assign e2 X.env)] := by rfl) : wpAny (model X.prog X.w) X.A (assign (.Tuple [e1, e2] k pt) X.env (.ref t)) Q E s := by
  have ht' := z_tupO y.z ht
  refine wpAny_assign_Tuple (items := #[v1, v2]) y.ok.hh (by obtain ⟨o, ho, hc, n, hd⟩ := ht'; exact ⟨o, ho, hc, n, hd⟩) (by rw [he]; rfl) (by rw [he]; rfl) fun h₃ hx₃ => ?_
  have y2 : Y X m news Γ { s with heap := h₃ } := y.to (t := s.toks) (y.z.ext hx₃)
  rw [he]
  show wpAny _ _ (do holding [v2] (assign e1 X.env v1); holding [] (assign e2 X.env v2); pure ()) _ _ _
  exact wpAny_bind (wpAny_holding (wpAny_mono (h _ y2) (fun _ s1 q => wpAny_bind (wpAny_holding (wpAny_mono q (fun _ s2 q => wpAny_pure q) fun _ _ x => x))) fun _ _ x => x))
theorem ev_tup3E {e1 e2 e3 : Expr} {k : Nat} {pos : Pos} {Q : Value → Shared → Prop}
    (h : wpAny (model X.prog X.w) X.A (eval e1 X.env) (fun v1 s1 => wpAny (model X.prog X.w) X.A (eval e2 X.env) (fun v2 s2 => wpAny (model X.prog X.w) X.A (eval e3 X.env) (fun v3 s3 => ∃ m news Γ, Y X m news Γ s3 ∧ ∀ t s4, Y X m news ((t, tupO [v1, v2, v3]) :: Γ) s4 → Q (.ref t) s4) E s2) E s1) E s)
    (hn1 : starEach [e1, e2, e3] X.env = (false, eval e1 X.env) :: starEach [e2, e3] X.env := by rfl) (hn2 : starEach [e2, e3] X.env = (false, eval e2 X.env) :: starEach [e3] X.env := by rfl) (hn3 : starEach [e3] X.env = (false, eval e3 X.env) :: starEach [] X.env := by rfl) :
    wpAny (model X.prog X.w) X.A (eval (.Tuple [e1, e2, e3] k pos) X.env) Q E s := by
  repeat' walk1
  exact spliced_more (wpAny_mono h (fun v1 s1 q => spliced_more (wpAny_mono q (fun v2 s2 q => spliced_more (wpAny_mono q (fun v3 s3 q => spliced_none (by
    refine ctr fun hG293 => ?_; obtain ⟨m, news, Γ, y, hq⟩ := q; refine hG293 ?_; clear hG293
    exact z_tuple y.z (fun t h' z' => hq t _ (y.to z')) (Nat.le_of_ble_eq_true rfl))) fun _ _ x => x) hn3) fun _ _ x => x) hn2) fun _ _ x => x) hn1
end
section
variable {prog : Program} {w : World} {P : Addr → Obj → Prop} {b : Addr} {p : BP} {H : H} {held : List V} {ks : List (Addr × Obj)}
theorem BRep.tp (R : BRep prog w P b p H held ks) : BRep prog w (Tp P) b p H held ks := R.mono fun _ _ t q => ⟨q, t⟩
theorem BRep.pt (R : BRep prog w (Tp P) b p H held ks) : BRep prog w P b p H held ks := R.mono fun _ _ _ q => q.1
theorem BRep.queue (r : BRep prog w P b p H held ks) : ∃ ql c f, At p.q (listOf (List.toArray ql) c) ks f ∧ IntsAre ql (H.dying.map fun n : Nat => (n : Int) + 1) ∧
    ∀ ql' dy c', IntsAre ql' (dy.map fun n : Nat => (n : Int) + 1) → BRep prog w P b p { H with dying := dy } held (f (listOf (List.toArray ql') c')) := by
  cases r with | mk a1 a2 a3 a4 a5 a6 a7 a8 =>
  exact ⟨_, _, _, .tail (.tail (.tail (.tail .head))), a7, fun ql' dy c' h => .mk (H := { H with dying := dy }) a1 a2 a3 a4 a5 a6 h a8⟩
theorem BRep.split (r : BRep prog w P b p H held ks) {k : Nat} {t : T} {tp : BTP} (ht : H.ts[k]? = some t) (htp : p.tps[k]? = some tp) : ∃ hd pre post kd s w' u st n fls c, ks = hd ++ (pre ++ ([(tp.a, listOf #[kd, .ref tp.f, s, w', u, st] n), (tp.f, listOf (List.toArray fls) c)] ++ post)) ∧
    IsS t.kind.word kd ∧ IsI t.strong s ∧ IsI t.weak w' ∧ IsI t.unowned u ∧ IsS t.st.word st ∧ VRs P fls (t.fields.map V.py) ∧
    (∀ tp' t' l', BTRep P tp' t' l' → tp'.a = tp.a → t'.name = t.name → BRep prog w P b { p with tps := p.tps.set k tp' } (H.set k t') held (hd ++ (pre ++ (l' ++ post)))) := by
  cases r with | mk a1 a2 a3 a4 a5 a6 a7 a8 =>
  refine ctr fun hG294 => ?_; obtain ⟨pre, l, post, rfl, q, g⟩ := a8.focus htp ht; refine hG294 ?_; clear hG294
  cases q with | @mk n c fls _ _ _ _ _ q1 q2 q3 q4 q5 q6 =>
  refine ⟨[_, _, _, _, _], pre, post, _, _, _, _, _, n, fls, c, rfl, q1, q2, q3, q4, q5, q6, ?_⟩
  intro tp' t' l' q e' e2
  have e1 : ((p.tps.set k tp').map fun t => Value.ref t.a) = (p.tps.map fun t => Value.ref t.a) := by
    rw [List.map_set, e']
    have : (p.tps.map fun t => Value.ref t.a)[k]? = some (Value.ref tp.a) := by rw [List.getElem?_map, htp]; rfl
    exact set_self this
  exact .mk (p := { p with tps := p.tps.set k tp' }) a1 (by show Obj.IsDictOf _ _ (keyed 1 ((p.tps.set k tp').map fun t => Value.ref t.a)); rw [e1]; exact a2) a3 a4 (by show Strs _ ((H.ts.set k t').map T.name); rw [names_set ht e2]; exact a5) a6 a7 (g tp' t' l' q)
end
theorem Gone.split {d : Nat} {H H' : Mine.H} {a b : List Link} (g : Gone d H (a ++ b) H') : ∃ H1, Gone d H a H1 ∧ Gone d H1 b H' := by
  induction a generalizing H with
  | nil => exact ⟨H, .nil, g⟩
  | cons l a ih =>
    cases g with
    | cons ok g1 g2 =>
      obtain ⟨H1, h1, h2⟩ := ih g2
      exact ⟨H1, .cons ok g1 h1, h2⟩
end Mine
end
section
open PySem PySem.W PySem.Calls PyProof.Rows PySem.Spec
set_option Elab.async false
set_option maxRecDepth 100000
set_option maxHeartbeats 4000000
set_option linter.unusedVariables false
namespace Mine
theorem perm_in3 {α : Type} (A B C : List α) (x n z : α) : ((z :: (A ++ (B ++ ([x, n] ++ C))))).Perm (n :: (A ++ (B ++ ([x, z] ++ C)))) := by
  have e1 : z :: (A ++ (B ++ ([x, n] ++ C))) = z :: ((A ++ (B ++ [x])) ++ n :: C) := by simp
  have e2 : n :: (A ++ (B ++ ([x, z] ++ C))) = n :: ((A ++ (B ++ [x])) ++ z :: C) := by simp
  rw [e1, e2]
  exact (List.Perm.cons z List.perm_middle).trans ((List.Perm.swap n z _).trans (List.Perm.cons n List.perm_middle.symm))
theorem strong_word (k : W3) : (k.word == Str.ofString "strong") = isStr k := by cases k <;> decide +kernel
theorem gone_specK {prog : Program} {w : World} {K : Frag} {b : Addr} {held : List V} (d : Nat) : ∀ {A : Around} {E : Value → Shared → Prop} {s : Shared} {h₀ : Heap} {P P1 : Addr → Obj → Prop} {p : BP} {H H' : Mine.H} {ks : List (Addr × Obj)} {Q : Value → Shared → Prop} {v : V} {x : Value}
    (C : Cx K h₀) (hk : h₀.StaysIn s.heap) (hh : A.handled = none) (hd : A.depth + d < 780) (hu : A.units + 4 * d < 6900) (hP : ∀ a o, P a o → s.heap.get? a = some o) (hP1 : ∀ a o, P1 a o → s.heap.get? a = some o) (hv : VR P1 x v.py) (hdep : v.dep ≤ 60) (hsz : v.size ≤ 2 ^ 22) (O : Own h₀ s.heap ks) (R : BRep prog w P b p H held ks)
    (hg : Gone d H v.links H')
    (hQ : ∀ p' ks' h' t' Γ, Kept h₀ ks s.heap h' ks' → TupL s.heap h' Γ → BRep prog w P b p' H' held ks' → p'.tps.map BTP.a = p.tps.map BTP.a → Q .none { s with heap := h', toks := t' }), wpAny (model prog w) A (call (.ref 281) [.ref b, x]) Q E s := by
  induction d using Nat.strongRecOn with
  | _ d ih =>
  intro A E s h₀ P P1 p H H' ks Q v x C hk hh hd hu hP hP1 hv hdep hsz O R hg hQ
  refine enterY (binds := [(Str.ofString "book", .ref b), (Str.ofString "value", x)]) C hk hh (n_lt (n_s (n_xl hu) (Nat.le_refl _)) (n_bl rfl)) O C.KF.f281 rfl (by simp only [recursionLimit]; exact n_lt (n_s (n_xl hd) (Nat.le_refl _)) (n_bl rfl)) (fun _ _ _ => BindsTo.of_eq rfl) (locs rfl) rfl rfl rfl (by decide) ?_
  intro g L h₁ tk cdv A' X m0 hX0 hX1 hX2 y h0 hL hin
  have hvg : VR (Gt g) x v.py := hv.mono2 (gt_of O hin hP1)
  have hPg := gt_of O hin hP
  refine y_for (ev_call y.ok.C.g_law_links y.ok.C.k_law_links (pvs1 (pv_loc rfl)) y fun vs s1 e y1 => ?_)
  obtain rfl := Va1.eq e
  refine links_spec (v := v) (P := Or (Gt g) []) v.dep (Nat.le_refl _) y1.ok.C y1.st hX0 (by show A'.depth + v.dep < 880; exact n_lt (n_t (n_a (n_e hX1 (n_t (n_a (n_s (n_xl hd) (Nat.le_refl _)) (Nat.le_refl _)) (Nat.le_refl _))) (n_t hdep (Nat.le_refl _))) (Nat.le_refl _)) (n_bl rfl)) (by show A'.units + 4 * v.dep < 7900; exact n_lt (n_t (n_a (n_e hX2 (n_t (n_a (n_s (n_xl hu) (Nat.le_refl _)) (Nat.le_refl _)) (Nat.le_refl _))) (n_t (n_m 4 (n_t hdep (Nat.le_refl _))) (Nat.le_refl _))) (Nat.le_refl _)) (n_bl rfl)) y1.z.has hvg.inl hdep hsz ?_
  intro cl ws c h' t' Γ' kk tl hws
  have hlen : ws.length = v.links.length := by simpa using hws.length
  let J3 : Nat → (Str → Option Value) → List (Addr × Obj) → List (Addr × Obj) → Prop := fun i m news Γ => ∃ ksi pi Hi, news = (cl, listOf ws.toArray c) :: ksi ∧ m "book" = some (.ref b) ∧ VRs (Or No Γ) ws (v.links.map Link.py) ∧ BRep prog w (Tp P) b pi Hi held ksi ∧ pi.tps.map BTP.a = p.tps.map BTP.a ∧ Gone d Hi (v.links.drop i) H'
  refine ⟨cl, ws.length, J3,
    _, _, _, rfl, y1.call1 kk tl, ⟨ks, p, H, rfl, rfl, hws.left, R.tp, rfl, by simpa using hg⟩, ?_, ?_⟩
  · intro i m news Γ hJJ; refine ex3 hJJ fun ksi pi Hi hKK => an6 hKK fun hE5 mb hw Ri hpk hgi => ?_; clear hJJ hKK; subst hE5
    refine ⟨_, _, .head _, by simp, fun hlt I oI u s7 E' ho hx y7 => ?_⟩
    have hx' : ws[i]? = some u := by simpa using hx
    have hpi : i < v.links.length := by exact n_ls hlt (Nat.le_of_eq hlen)
    obtain ⟨u', hu1, hu2⟩ := hw.get (i := i) (d := (v.links[i]).py) (by simp [hpi])
    rw [hx'] at hu1; cases hu1
    refine ctr fun hG315 => ?_; obtain ⟨t, a, bb, rfl, tt, ha, hb⟩ := VR.linkTT (g := g) hu2.no; refine hG315 ?_; clear hG315
    rw [List.drop_eq_getElem_cons hpi] at hgi
    generalize v.links[i] = lk at *
    obtain ⟨lw, lk⟩ := lk
    cases hgi with
    | @cons d' _ H1 _ _ T1 _ ok g1 g2 =>
    refine ctr fun hG316 => ?_; obtain ⟨hT1, hstr, hdep1, hsz1, hdy1⟩ := ok; refine hG316 ?_; clear hG316
    have hstep := step_of hT1
    dsimp only at ha hb hT1 hstr hstep
    obtain ⟨tp, htp⟩ := Ri.place hT1
    refine ex7 Ri.hd fun ob ot on hls ql cc c2 bh => ?_
    refine ctr fun hG318 => ?_; obtain ⟨kd, sv, wv, uv, stv, n, c3, fls, f, th⟩ := Ri.th hT1 htp; refine hG318 ?_; clear hG318
    have i2 : ∀ {q : Addr × Obj}, q ∈ ksi → q ∈ (I, oI) :: (cl, listOf ws.toArray c) :: ksi := fun h => .tail _ (.tail _ h)
    refine as_pair y7 tt fun s8 y8 => ?_
    refine y_asg (pv_ditem (pv_dstr (pv_loc (up_skip (up_skip mb))) (i2 bh.m1) bh.hob) (pv_loc up_hit) (i2 bh.m2) bh.hot (fun x e => by subst e; exact isI_is (X := X) hb) (keyed_atB htp)) y8 fun _ s9 e9 y9 => ?_
    subst e9
    refine y_asgeff ?_
    with_reducible refine ev_spot (k := lw) y9 ?hx ha ?_ ?h0 ?hdb
    case hx => exact up_skip (up_skip up_hit)
    case h0 => rfl
    case hdb => decide
    intro spv s10 hsp y10
    refine y_store y10 fun s11 y11 => ?_
    refine ctr fun hG319 => ?_; obtain ⟨old, z, ho1, ho2, ho3⟩ := th.spot lw (-1); refine hG319 ?_; clear hG319
    have hsp3 : lw.spot < 6 := by cases lw <;> decide
    refine y_asgsub (ev_pv (pv_sub ((pv_litem (vp := fun _ => True) (pv_loc (up_skip up_hit)) ((pv_loc up_hit).mono fun v e => by subst e; exact hsp) (i2 th.at_.mem) (by rw [Int.toNat_natCast]; exact ho1) (Int.natCast_nonneg _) (n_c (n_s hsp3 (Nat.le_refl _)) rfl)).mono fun v e => by subst e; exact ho2) pv_int) y11 fun nv s12 env y12 => ev_pvq (pv_loc (up_skip up_hit)) y12 fun s13 y13 => ev_pv ((pv_loc up_hit).mono fun v e => by subst e; exact hsp) y13 fun sv2 s14 e14 y14 => ?_)
    obtain ⟨u2, rfl⟩ := e14
    refine c_lset y14 (.tail (.tail th.at_)) (Int.natCast_nonneg _) (by show (lw.spot : Int) < 6; lia) (n_c (n_s hsp3 (Nat.le_refl _)) rfl) fun s15 c15 y15 => ?_
    rw [Int.toNat_natCast] at y15
    have R1 := ho3 nv c15 env
    have ht1 : (Hi.set lk (T1.add lw (-1))).ts[lk]? = some (T1.add lw (-1)) := set_get hT1
    clear ho3 ho1 ho2 old
    generalize f _ = ks1 at R1 y15
    clear th bh i2
    have i2 : ∀ {q : Addr × Obj}, q ∈ ks1 → q ∈ (I, oI) :: (cl, listOf ws.toArray c) :: ks1 := fun h => .tail _ (.tail _ h)
    refine ex7 R1.hd fun ob ot on hls ql cc c2 bh => ?_
    refine ctr fun hG321 => ?_; obtain ⟨kd, sv, wv, uv, stv, n, c3, fls, f, th⟩ := R1.th ht1 htp; refine hG321 ?_; clear hG321
    -- the links behind
    have fin : ∀ m' s' ks' p' Γ', (isStr lw && T1.ends) = false → Y X m' ((I, oI) :: (cl, listOf ws.toArray c) :: ks') Γ' s' → m' "book" = some (.ref b) → VRs (Or No Γ') ws (v.links.map Link.py) → BRep prog w (Tp P) b p' (Hi.set lk (T1.add lw (-1))) held ks' → p'.tps.map BTP.a = p.tps.map BTP.a →
        ∃ m' news' Γ', Y X m' ((I, oI) :: news') Γ' s' ∧ ∃ ksi pi Hi, news' = (cl, listOf ws.toArray c) :: ksi ∧ m' "book" = some (.ref b) ∧ VRs (Or No Γ') ws (v.links.map Link.py) ∧ BRep prog w (Tp P) b pi Hi held ksi ∧ pi.tps.map BTP.a = p.tps.map BTP.a ∧ Gone (d' + 1) Hi (v.links.drop (i + 1)) H' := by
      intro m' s' ks' p' Γ' hf y' mb' hw' R' hp'
      rw [hstep, hf, if_neg Bool.false_ne_true, link_mk hT1] at g1
      cases g1
      exact ⟨m', _, Γ', y', ks', p', _, rfl, mb', hw', R', hp', g2⟩
    have m4 : ∀ {v1 v2 v3 v4 : Value}, up (Str.ofString "spot") v1 (up (Str.ofString "thing") v2 (up (Str.ofString "number") v3 (up (Str.ofString "word") v4 m))) (Str.ofString "book") = some (.ref b) := up_skip (up_skip (up_skip (up_skip mb)))
    cases hw3 : isStr lw with
    | false =>
      have hne : (lw.word == Str.ofString "strong") = false := by rw [strong_word, hw3]
      refine y_if_f (pb_and3_f (pb_eqs ((pv_loc (up_skip (up_skip (up_skip up_hit)))).mono fun v e => by subst e; exact ha) pv_str hne)) y15 fun s16 y16 => y_nil ?_
      exact fin _ _ ks1 pi Γ (by rw [hw3]; rfl) y16 m4 hw R1 hpk
    | true =>
      have hlw : lw = .strong := by cases lw <;> first | rfl | cases hw3
      subst hlw
      have heq : (W3.strong.word == Str.ofString "strong") = true := by decide +kernel
      obtain ⟨hs1, hs2⟩ := hstr rfl
      have k3 : IsI (T1.strong - 1) sv := th.k3
      cases hE : T1.ends with
      | false =>
        by_cases hz : T1.strong - 1 = 0
        · have hse : T1.strong = 1 := by lia
          have hnl : (T1.st.word == Str.ofString "live") = false := by rw [live_word]; simpa [T.ends, hse] using hE
          refine y_if_f (pb_and3_ttr (pb_eqs ((pv_loc (up_skip (up_skip (up_skip up_hit)))).mono fun v e => by subst e; exact ha) pv_str heq) (pb_eqi ((pv_litem (vp := fun _ => True) (pv_loc (up_skip up_hit)) pv_int (i2 th.at_.mem) rfl (by decide) (by decide)).mono fun v e => by subst e; exact k3) pv_int (by rw [hz]; rfl))
            (pb_eqs ((pv_litem (vp := fun _ => True) (pv_loc (up_skip up_hit)) pv_int (i2 th.at_.mem) rfl (by decide) (by decide)).mono fun v e => by subst e; exact th.k6) pv_str hnl)) y15 fun s16 y16 => y_nil ?_
          exact fin _ _ ks1 pi Γ (by rw [hE, Bool.and_false]) y16 m4 hw R1 hpk
        · refine y_if_f (pb_and3_tf (pb_eqs ((pv_loc (up_skip (up_skip (up_skip up_hit)))).mono fun v e => by subst e; exact ha) pv_str heq) (pb_eqi ((pv_litem (vp := fun _ => True) (pv_loc (up_skip up_hit)) pv_int (i2 th.at_.mem) rfl (by decide) (by decide)).mono fun v e => by subst e; exact k3) pv_int (by simpa using hz))) y15 fun s16 y16 => y_nil ?_
          exact fin _ _ ks1 pi Γ (by rw [hE, Bool.and_false]) y16 m4 hw R1 hpk
      | true =>
        have hE' := hE
        unfold T.ends at hE'
        rw [Bool.and_eq_true] at hE'
        have hse : T1.strong = 1 := by simpa using hE'.1
        have hnl : (T1.st.word == Str.ofString "live") = true := by rw [live_word]; exact hE'.2
        rw [hstep, hE] at g1
        simp only [isStr, Bool.and_self, if_true] at g1
        refine y_if_t (pb_and3_ttr (pb_eqs ((pv_loc (up_skip (up_skip (up_skip up_hit)))).mono fun v e => by subst e; exact ha) pv_str heq) (pb_eqi ((pv_litem (vp := fun _ => True) (pv_loc (up_skip up_hit)) pv_int (i2 th.at_.mem) rfl (by decide) (by decide)).mono fun v e => by subst e; exact k3) pv_int (by rw [hse]; rfl))
          (pb_eqs ((pv_litem (vp := fun _ => True) (pv_loc (up_skip up_hit)) pv_int (i2 th.at_.mem) rfl (by decide) (by decide)).mono fun v e => by subst e; exact th.k6) pv_str hnl)) y15 fun s16 y16 => ?_
        cases hO : T1.kind.isObj with
        | true =>
          obtain ⟨eK, eS⟩ := Hi.kill_obj lk T1 hO
          rw [eK, eS] at g1
          cases g1
          refine y_if_t (pb_eqs ((pv_litem (vp := fun _ => True) (pv_loc (up_skip up_hit)) pv_int (i2 th.at_.mem) rfl (by decide) (by decide)).mono fun v e => by subst e; exact th.k1) pv_str (by rw [← hO]; exact obj_word _)) y16 fun s17 y17 => ?_
          refine y_asgsub (ev_pv pv_str y17 fun nv2 s18 e18 y18 => ev_pvq (pv_loc (up_skip up_hit)) y18 fun s19 y19 => ev_pv pv_int y19 fun iv s20 e20 y20 => ?_)
          obtain ⟨u3, rfl⟩ := e20
          refine c_lset y20 (.tail (.tail th.at_)) (by decide) (by show (5 : Int) < 6; decide) (by decide) fun s21 c21 y21 => ?_
          have R2 := th.set c21 { T1.addS (-1) with st := .dying } sv wv uv nv2 k3 th.k4 th.k5 e18 rfl rfl rfl
          replace y21 : Y X _ ((I, oI) :: (cl, listOf ws.toArray c) :: f (listOf #[kd, .ref tp.f, sv, wv, uv, nv2] c21)) Γ s21 := y21
          generalize f _ = ks2 at R2 y21
          have i3 : ∀ {q : Addr × Obj}, q ∈ ks2 → q ∈ (I, oI) :: (cl, listOf ws.toArray c) :: ks2 := fun h => .tail _ (.tail _ h)
          refine ex3 R2.queue fun ql2 qc qf hJJ => an3 hJJ fun aq hq hqs => ?_; clear hJJ
          refine ex7 R2.hd fun ob ot on hls ql cc c2 bh2 => ?_
          refine y_expr (ev_lm1 (pv_dstr (pv_loc m4) (i3 bh2.m1) bh2.hob) (i3 aq.mem) PySem.F.slot_list_append rfl y21 fun s22 y22 => ev_pvq (pv_loc (up_skip (up_skip up_hit))) y22 fun s23 y23 => ?_)
          obtain ⟨u4, rfl⟩ := hb
          have hsz2 : ql2.toArray.size ≤ sizeLine := by
            have e1 := hq.length
            rw [List.length_map] at e1
            have hS : sizeLine = 16777216 := rfl
            have e3 : ((Hi.set lk (T1.add .strong (-1))).set lk { T1.addS (-1) with st := .dying }).dying.length = Hi.dying.length := rfl
            rw [e3] at e1
            rw [List.size_toArray]; exact n_e e1 (n_t hdy1 (n_b rfl))
          refine c_append y23 (.tail (.tail aq)) hsz2 fun s24 k24 y24 => y_nil (y_nil (y_nil ?_))
          rw [show ql2.toArray.push (Value.int ((lk : Int) + 1) u4) = (ql2 ++ [Value.int ((lk : Int) + 1) u4]).toArray by simp] at y24
          have R3 := hqs (ql2 ++ [Value.int ((lk : Int) + 1) u4]) (Hi.dying ++ [lk]) k24 (by rw [List.map_append]; exact IntsAre.snoc hq _ _)
          have eB : ({ (Hi.set lk (T1.add .strong (-1))).set lk { T1.addS (-1) with st := .dying } with dying := Hi.dying ++ [lk] } : Mine.H) = { Hi.set lk { T1.addS (-1) with st := .dying } with dying := Hi.dying ++ [lk] } := by
            unfold Mine.H.set; simp
          rw [eB] at R3
          exact ⟨_, _, _, y24, _, pi, _, rfl, m4, hw, R3, hpk, g2⟩
        | false =>
          obtain ⟨eK, eS⟩ := Hi.kill_not lk T1 hO
          rw [eK, eS] at g1
          refine y_if_e (pb_eqs ((pv_litem (vp := fun _ => True) (pv_loc (up_skip up_hit)) pv_int (i2 th.at_.mem) rfl (by decide) (by decide)).mono fun v e => by subst e; exact th.k1) pv_str (by rw [← hO]; exact obj_word _)) y16 fun s17 y17 => ?_
          clear th
          refine ctr fun hG324 => ?_; obtain ⟨hdl, pre, post, kd, sv, wv, uv, stv, n, fls, cf, rfl, k1, k3, k4, k5, k6, k7, hset⟩ := R1.split ht1 htp; refine hG324 ?_; clear hG324
          replace k7 : VRs (Tp P) fls (T1.fields.map V.py) := k7
          refine y_asgTup (ev_tup3E (ev_pvq (pv_litem (its := [kd, .ref tp.f, sv, wv, uv, stv]) (n := n) (vp := fun _ => True) (pv_loc (up_skip up_hit)) pv_int (by simp) rfl (by decide) (by decide)) y17 fun s18 y18 => ev_list pvs_nil y18 (by decide) (fun vs e => by subst e; rfl) fun vs nl s19 e19 y19 => ev_pv pv_str y19 fun nv2 s20 e20 y20 => ⟨_, _, _, y20, fun tq s21 y21 => as_tup3 y21 (TT.mk (.inr (.head _)) rfl rfl) fun s22 y22 => as_name y22 fun s23 y23 => ?_⟩))
          subst e19
          refine as_sub (ev_pvq (pv_loc (up_skip (up_skip up_hit))) y23 fun s24 y24 => ev_pv pv_int y24 fun iv s25 e25 y25 => ?_)
          obtain ⟨u5, rfl⟩ := e25
          refine c_lset y25 (.tail (.tail (.tail (.app (.app (.appl .head)))))) (by decide) (by show (1 : Int) < 6; decide) (by decide) fun s26 c26 y26 => ?_
          refine as_sub (ev_pvq (pv_loc (up_skip (up_skip up_hit))) y26 fun s27 y27 => ev_pv pv_int y27 fun iv s28 e28 y28 => ?_)
          obtain ⟨u6, rfl⟩ := e28
          refine c_lset y28 (.tail (.tail (.tail (.app (.app (.appl .head)))))) (by decide) (by show (5 : Int) < 6; decide) (by decide) fun s29 c29 y29 => ?_
          have R2 := hset { tp with f := nl } { T1.addS (-1) with fields := [], st := .gone } _ (.mk (n := c29) (c := 0) (fl := []) k1 k3 k4 k5 e20 .nil) rfl rfl
          have eB : (Hi.set lk (T1.add .strong (-1))).set lk { T1.addS (-1) with fields := [], st := .gone } = Hi.set lk { T1.addS (-1) with fields := [], st := .gone } := by
            unfold Mine.H.set; simp
          rw [eB] at R2
          have y30 := y29.perm (perm_in3 ((I, oI) :: (cl, listOf ws.toArray c) :: hdl) pre post (tp.a, listOf #[kd, .ref nl, sv, wv, uv, nv2] c29) (tp.f, listOf fls.toArray cf) (nl, listOf #[] 0)).symm
          have hflen : fls.length = T1.fields.length := by simpa using k7.length
          refine y_for (ev_pvq (pv_loc up_hit) y30 fun s30 y31 => ?_)
          let J4 : Nat → (Str → Option Value) → List (Addr × Obj) → List (Addr × Obj) → Prop := fun j m news Γ => ∃ ksj pj Hj, news = (tp.f, listOf fls.toArray cf) :: (I, oI) :: (cl, listOf ws.toArray c) :: ksj ∧ m "book" = some (.ref b) ∧ VRs (Or No Γ) ws (v.links.map Link.py) ∧ BRep prog w (Tp P) b pj Hj held ksj ∧ pj.tps.map BTP.a = p.tps.map BTP.a ∧ Gone d' Hj ((T1.fields.drop j).flatMap V.links) H1
          refine ⟨tp.f, fls.length, J4,
            _, _, _, rfl, y31, ⟨_, _, _, rfl, up_skip m4, hw.up1, R2, by rw [← hpk]; show (pi.tps.set lk { tp with f := nl }).map BTP.a = _; rw [List.map_set]; exact set_self (by rw [List.getElem?_map, htp]; rfl), by simpa using g1⟩, ?_, ?_⟩
          · intro j m3 news3 Γ3 hJJ; refine ex3 hJJ fun ksj pj Hj hKK => an6 hKK fun hE6 mb3 hw3' Rj hpq hgj => ?_; clear hJJ hKK; subst hE6
            refine ⟨_, _, .head _, by simp, fun hlt3 I3 oI3 u3 s31 E3 ho3 hx3 y32 => as_name y32 fun s32 y33 => ?_⟩
            have hx3' : fls[j]? = some u3 := by simpa using hx3
            have hpj : j < T1.fields.length := by exact n_ls hlt3 (Nat.le_of_eq hflen)
            obtain ⟨u4, hu3, hu4⟩ := k7.get (i := j) (d := (T1.fields[j]).py) (by simp [hpj])
            rw [hx3'] at hu3; cases hu3
            rw [List.drop_eq_getElem_cons hpj, List.flatMap_cons] at hgj
            obtain ⟨Hm, hg1, hg2⟩ := hgj.split
            have hmem : T1.fields[j] ∈ T1.fields := List.getElem_mem _
            have hsp := sizes_mem hmem
            refine y_expr (ev_call y33.ok.C.g_law_gone y33.ok.C.k_law_gone (pvs2 (pv_loc (up_skip mb3)) (pv_loc up_hit)) y33 fun vs s33 e y34 => ?_)
            obtain rfl := Va2.eq e
            refine ih d' (Nat.lt_succ_self _) (P := Tp P) (P1 := Gt g) y34.ok.C y34.st hX0 (by show A'.depth + d' < 780; lia) (by show A'.units + 4 * d' < 6900; lia) (fun a o h => y34.z.old (hPg a o h.2 h.1)) (fun a o h => y34.z.old h) (hu4.mono2 fun a o t h => hPg a o t h.1) (hdep1 _ hmem) (n_t hsp hsz1) (y34.own (loc := [_, _, _, _]) Rj.noT) Rj hg1 ?_
            intro p' ks' h' t' Γ4 kk tl R' hp'
            refine y_nil ⟨_, _, _, y34.calls (loc := [_, _, _, _]) (y34.own (loc := [_, _, _, _]) Rj.noT) kk tl, ks', p', Hm, rfl, up_skip mb3, hw3'.upA, R', hp'.trans hpq, hg2⟩
          · intro m3 news3 Γ3 s31 hJJ; refine ex3 hJJ fun ksj pj Hj hKK => an6 hKK fun hE7 mb3 hw3' Rj hpq hgj => ?_; clear hJJ hKK; subst hE7; intro y32
            rw [hflen, List.drop_length] at hgj
            cases hgj
            refine y_nil (y_nil (y_nil ?_))
            exact ⟨_, _, _, y32.sub (List.sublist_cons_self _ _), ksj, pj, _, rfl, mb3, hw3', Rj, hpq, g2⟩
  · intro m news Γ s7 hJJ; refine ex3 hJJ fun ksi pi Hi hKK => an6 hKK fun hE8 mb hw Ri hpk hgi => ?_; clear hJJ hKK; subst hE8; intro y7
    refine y_nil ?_
    rw [y7.e]
    rw [hlen, List.drop_length] at hgi
    cases hgi
    exact hQ _ _ _ _ _ (y7.kept h0 hin (List.sublist_cons_self _ _) Ri.noT) (y7.z.tupL hL) Ri.pt hpk
theorem gone_spec {prog : Program} {w : World} {K : Frag} {b : Addr} {held : List V} (d : Nat) {A : Around} {E : Value → Shared → Prop} {s : Shared} {h₀ : Heap} {P P1 : Addr → Obj → Prop} {p : BP} {H H' : Mine.H} {ks : List (Addr × Obj)} {Q : Value → Shared → Prop} {v : V} {x : Value}
    (C : Cx K h₀) (hk : h₀.StaysIn s.heap) (hh : A.handled = none) (hd : A.depth + d < 780) (hu : A.units + 4 * d < 6900) (hP : ∀ a o, P a o → s.heap.get? a = some o) (hP1 : ∀ a o, P1 a o → s.heap.get? a = some o) (hv : VR P1 x v.py) (hdep : v.dep ≤ 60) (hsz : v.size ≤ 2 ^ 22) (O : Own h₀ s.heap ks) (R : BRep prog w P b p H held ks)
    (hg : Gone d H v.links H')
    (hQ : ∀ p' ks' h' t' Γ, Kept h₀ ks s.heap h' ks' → TupL s.heap h' Γ → BRep prog w P b p' H' held ks' → Q .none { s with heap := h', toks := t' }) : wpAny (model prog w) A (call (.ref 281) [.ref b, x]) Q E s :=
  gone_specK d C hk hh hd hu hP hP1 hv hdep hsz O R hg fun p' ks' h' t' Γ k t r _ => hQ p' ks' h' t' Γ k t r
end Mine
end
section
open PySem PySem.W PySem.Calls PyProof.Rows PySem.Spec
set_option Elab.async false
set_option maxRecDepth 100000
set_option maxHeartbeats 1000000
set_option rowWalk.seconds 0
set_option linter.unusedVariables false
namespace Mine
section
variable {X : Fn} {m : Str → Option Value} {news Γ : List (Addr × Obj)} {E : Value → Shared → Prop} {s : Shared} {D : Addr} {its : Array Value} {n : Nat} {f : Obj → List (Addr × Obj)}
theorem reads_list {l : Addr} {vs : List Value} {c : Nat} {P : Addr → Obj → Prop} {ds : List PyData} {h : Heap} (hP : ∀ a o, P a o → h.get? a = some o) (hm : h.get? l = some (listOf vs.toArray c)) (r : VRs P vs ds) : ∃ as, Reads h (.ref l) (.list ds) as := by
  obtain ⟨as, q⟩ := r.reads hP
  exact ⟨_, .list hm rfl rfl (by simpa using q)⟩
theorem eqv_list {ds es : List PyData} : PyData.eqv (.list ds) (.list es) = PyData.eqvAll ds es := by simp [PyData.eqv]
theorem lay_list {ds : List PyData} (h : PyData.canLayAll0 ds = true) (hd : PyData.depthAll ds ≤ 60) : PySem.SeqAt.shaped (.list ds) = true := by
  unfold PySem.SeqAt.shaped
  rw [show PyData.canLay0 (.list ds) = PyData.canLayAll0 ds by simp [PyData.canLay0], h, Bool.true_and]
  refine decide_eq_true ?_
  rw [show PyData.depth (.list ds) = PyData.depthAll ds + 1 by simp [PyData.depth, Nat.add_comm]]
  exact n_suc (n_lt (n_t hd (Nat.le_refl _)) (n_bl rfl))
theorem links_lay (ls : List Link) : PyData.canLayAll0 (ls.map Link.py) = true ∧ PyData.depthAll (ls.map Link.py) ≤ 1 := by
  induction ls with
  | nil => simp [PyData.canLayAll0, PyData.depthAll]
  | cons l r ih =>
    have h1 : l.py.canLay0 = true ∧ l.py.depth ≤ 1 := by
      obtain ⟨k, n⟩ := l
      cases k <;> simp [Link.py, W3.word, PyData.canLay0, PyData.canLayAll0, PyData.depth, PyData.depthAll] <;> decide +kernel
    simp only [List.map_cons, PyData.canLayAll0, PyData.depthAll, h1.1, ih.1, Bool.and_self, true_and]
    exact n_t (n_x (c := 1) (n_t h1.2 (Nat.le_refl _)) (n_t ih.2 (Nat.le_refl _))) (Nat.le_refl _)
theorem vals_lay (vs : List V) (D : Nat) (h : ∀ v ∈ vs, v.dep ≤ D) : PyData.canLayAll0 (vs.map V.py) = true ∧ PyData.depthAll (vs.map V.py) ≤ D + 1 := by
  induction vs with
  | nil => simp [PyData.canLayAll0, PyData.depthAll]
  | cons v r ih =>
    have h1 := v.lay
    have h2 := ih fun u hu => h u (.tail _ hu)
    have h3 := h v (.head _)
    simp only [List.map_cons, PyData.canLayAll0, PyData.depthAll, h1.1, h2.1, Bool.and_self, true_and]
    lia
theorem ev_and2 {a b : Expr} {pos : Pos} {Q : Value → Shared → Prop} (h : wpAny (model X.prog X.w) X.A (eval a X.env) (fun v s1 => v = .bool true ∧ wpAny (model X.prog X.w) X.A (eval b X.env) Q E s1) E s) : wpAny (model X.prog X.w) X.A (eval (.BoolOp .And [a, b] pos) X.env) Q E s := by
  repeat' walk1
  refine wpAny_mono h (fun v s1 q => ?_) fun _ _ x => x
  obtain ⟨rfl, q⟩ := q
  repeat' walk1
  exact q
theorem ev_cmpE {a b : Expr} {op : CmpOp} {pos : Pos} {Q : Value → Shared → Prop} (h : wpAny (model X.prog X.w) X.A (eval a X.env) (fun x s1 => wpAny (model X.prog X.w) X.A (eval b X.env) (fun z s2 => wpAny (model X.prog X.w) X.A (compareOp op x z) Q E s2) E s1) E s)
    (hm : behindInMarks op b = false := by with_unfolding_all rfl) : wpAny (model X.prog X.w) X.A (eval (.Compare a [op] [b] pos) X.env) Q E s := wpAny_Compare1 h hm
theorem ev_listTE {e : Expr} {p1 p2 : Pos} {Q : Value → Shared → Prop} (y : Y X m news Γ s)
    (h : ∀ s', Y X m news Γ s' → wpAny (model X.prog X.w) X.A (eval e X.env) (fun v s2 => ∃ t vs m news Γ, v = .ref t ∧ TT X.g Γ t vs ∧ Y X m news Γ s2 ∧ vs.length ≤ sizeLine ∧ ∀ l c s3, Y X m ((l, listOf (List.toArray vs) c) :: news) Γ s3 → Q (.ref l) s3) E s')
    (h0 : X.env.kindOf "list" = some .globalImplicit := by rfl) (he : starEach [e] X.env = (false, eval e X.env) :: starEach [] X.env := by rfl) :
    wpAny (model X.prog X.w) X.A (eval (.Call (.Name (Str.ofString "list") p1) [e] [] p2) X.env) Q E s := by
  repeat' walk1
  refine wpAny_mono (pv_boot y.ok.C.b_list (by boot_fast) (by decide) h0 (by decide) _ s y) (fun v s' q => ?_) (fun _ _ x => x)
  obtain ⟨rfl, y'⟩ := q
  refine Pv.callWith_type1 (spliced_more (wpAny_mono (h _ y') (fun v s2 q => spliced_none ?_) fun _ _ x => x) he) he rfl
  refine ctr fun hG125 => ?_; obtain ⟨t, vs, m, news, Γ, rfl, ht, y2, hsz, hq⟩ := q; refine hG125 ?_; clear hG125
  exact z_listOfTup y2.z (z_tupO y2.z ht) (fun D c h' z' => hq D c _ (y2.to z')) (by rw [List.size_toArray]; exact hsz)
end
end Mine
end
section
open PySem PySem.W PySem.Calls PyProof.Rows PySem.Spec
set_option Elab.async false
set_option maxRecDepth 100000
set_option maxHeartbeats 4000000
set_option linter.unusedVariables false
namespace Mine
section
variable {X : Fn} {m : Str → Option Value} {news Γ : List (Addr × Obj)} {E : Value → Shared → Prop} {s : Shared} {D : Addr} {its : Array Value} {n : Nat} {f : Obj → List (Addr × Obj)}
theorem canLay_list {ds : List PyData} : PyData.canLay0 (.list ds) = PyData.canLayAll0 ds := by simp [PyData.canLay0]
theorem fits_nat {n : Nat} (h : n ≤ 100000) : Builtin.List.listFitsIndex (n : Int) = true := by
  unfold Builtin.List.listFitsIndex
  rw [Bool.and_eq_true]
  exact ⟨decide_eq_true (n_63), decide_eq_true (n_c (n_t h (Nat.le_refl _)) rfl)⟩
theorem Y.rd {P : Addr → Obj → Prop} (y : Y X m news Γ s) (hPg : ∀ a o, IsT o → P a o → Gt X.g a o) : ∀ a o, Or (Tp P) Γ a o → s.heap.get? a = some o := fun a o h => h.elim (fun h => y.z.old (hPg a o h.2 h.1)) fun h => y.z.tup h
theorem to_g {P : Addr → Obj → Prop} {g : Heap} (hPg : ∀ a o, IsT o → P a o → Gt g a o) : ∀ a o, IsT o → Or (Tp P) Γ a o → Or (Gt g) Γ a o := fun a o t h => h.imp (fun h => hPg a o t h.1) id
theorem from_tp {P : Addr → Obj → Prop} : ∀ a o, IsT o → Or (Tp P) Γ a o → Or P Γ a o := fun a o t h => h.imp (fun h => h.1) id
theorem eqvAll_nil {ds : List PyData} : PyData.eqvAll ds [] = ds.isEmpty := by cases ds <;> simp [PyData.eqvAll]
/-- a list against [] -/
theorem pb_nil {e : Expr} {op : CmpOp} {p1 p2 : Pos} {l : Addr} {its : List Value} {ds : List PyData} {c : Nat} {P : Addr → Obj → Prop} (b : Bool) (he : PV X m news Γ e (· = .ref l)) (hm : (l, listOf its.toArray c) ∈ news) (hP : ∀ s', Y X m news Γ s' → ∀ a o, P a o → s'.heap.get? a = some o) (r : VRs P its ds) (hl : PyData.canLayAll0 ds = true) (hd : PyData.depthAll ds ≤ 60)
    (hop : (op = .Eq ∧ ds.isEmpty = b) ∨ (op = .NotEq ∧ ds.isEmpty = !b)) (hmk : behindInMarks op (.List [] p1) = false := by with_unfolding_all rfl) : PB X m news Γ (.Compare e [op] [.List [] p1] p2) b := by
  intro E s y
  refine wpAny_isTrue_Compare1 (wpAny_mono (he _ s y) (fun x s' q => ?_) (fun _ _ x => x)) hmk
  obtain ⟨rfl, y'⟩ := q
  refine ev_list pvs_nil y' (by decide) (fun vs e => by subst e; rfl) fun vs l2 s2 e2 y2 => ?_
  subst e2
  have y3 := y2.sub (List.sublist_cons_self _ _)
  obtain ⟨as, q1⟩ := reads_list (hP _ y3) (y3.z.get hm) r
  obtain ⟨bs, q2⟩ := reads_list (P := No) (ds := []) (vs := []) (fun _ _ h => h.elim) (y2.z.get (.head _)) .nil
  have sh := lay_list hl hd
  rcases hop with ⟨rfl, hb⟩ | ⟨rfl, hb⟩
  · refine eq_dataH q1 q2 sh (by decide +kernel) y.ok.hu ?_
    rw [eqv_list, eqvAll_nil, hb]
    exact wpAny_truthy_bool ⟨rfl, y3⟩
  · refine ne_dataH q1 q2 sh (by decide +kernel) y.ok.hu ?_
    rw [eqv_list, eqvAll_nil, hb, Bool.not_not]
    exact wpAny_truthy_bool ⟨rfl, y3⟩
theorem c_popAt {i : Int} {t : Tok} {pre post : List Value} {v : Value} {Q : Value → Shared → Prop} (y : Y X m news Γ s) (a : At D (listOf (pre ++ v :: post).toArray n) news f) (hi : i = pre.length) (hsz : (pre ++ v :: post).length ≤ 100000) (h : ∀ s' k, Y X m (f (listOf (pre ++ post).toArray k)) Γ s' → Q v s') : wpAny (model X.prog X.w) X.A (call (.builtin "list.pop") [.ref D, .int i t]) Q E s := by
  have cut : ∀ (a b : List Value) (v : Value), kl_cut (a ++ v :: b) a.length = some (a, v, b) := by
    intro a b v
    induction a with
    | nil => rfl
    | cons x a ih => simp only [List.cons_append, List.length_cons, kl_cut, ih]
  subst hi
  refine kl_popAt (k := pre.length) y.z.F y.z.N (fits_nat (by simp at hsz; exact n_al hsz)) (by simp [seqIndex?]; lia) (cut pre post v) (y.z.upd a notT_list _) (by simp at hsz ⊢; have : sizeLine = 16777216 := rfl; exact n_t hsz (n_b rfl)) fun h' F' N' => h _ _ (y.to (t := s.toks) (y.z.put a F' N'))
end
section
variable {prog : Program} {w : World} {K : Frag} {A : Around} {E : Value → Shared → Prop} {s : Shared} {h₀ : Heap} {P : Addr → Obj → Prop} {Q : Value → Shared → Prop}
theorem told_spec {v : V} {x : Value} (C : Cx K h₀) (hk : h₀.StaysIn s.heap) (hh : A.handled = none) (hd : A.depth < 780) (hu : A.units < 6900) (hP : ∀ a o, P a o → s.heap.get? a = some o) (hv : VR P x v.py) (hdep : v.dep ≤ 55) (hsz : v.size ≤ 2 ^ 22)
    (hQ : ∀ h' t' Γ, Kept h₀ [] s.heap h' [] → TupL s.heap h' Γ → Q (.bool true) { s with heap := h', toks := t' }) : wpAny (model prog w) A (call (.ref 295) [x]) Q E s := by
  refine enterY (binds := [(Str.ofString "value", x)]) C hk hh (Nat.lt_trans hu (by decide)) Own.nil C.KF.f295 rfl (Nat.lt_trans hd (by decide)) (fun _ _ _ => BindsTo.of_eq rfl) (locs rfl) rfl rfl rfl (by decide) ?_
  intro g L h₁ tk cdv A' X m0 hX0 hX1 hX2 y h0 hL hin
  have hvg : VR (Gt g) x v.py := hv.mono2 (gt_of (h₀ := h₀) Own.nil hin hP)
  have hS : sizeLine = 16777216 := rfl
  have hpl := sizes_len v.parts
  have hps : (v.parts.map V.size).sum ≤ v.size := by cases v <;> simp [V.parts, V.size] <;> lia
  have hpd : ∀ u ∈ v.parts, u.dep ≤ 55 := by
    intro u hu
    cases v <;> simp [V.parts] at hu
    · rename_i a b; rcases hu with rfl | rfl <;> simp [V.dep] at hdep <;> lia
    · subst hu; simp [V.dep] at hdep; exact n_t hdep (n_b rfl)
    · subst hu; simp [V.dep] at hdep; exact n_t hdep (n_b rfl)
  refine y_reteff (ev_and2 (ev_cmpE (ev_call y.ok.C.g_counted_in y.ok.C.k_counted_in (pvs1 (pv_loc rfl)) y fun vs s1 e y1 => ?_)))
  obtain rfl := Va1.eq e
  refine counted_spec (v := v) (P := Or (Gt g) []) y1.ok.C y1.st hX0 (lvA hX1 hd) (lvC hX2 hu) y1.z.has hvg.inl (n_t hdep (n_b rfl)) hsz ?_
  intro l1 v1 c1 h2 t2 Γ1 k1 tl1 hv1
  refine ev_call (y1.ok.C.g_law_links) y1.ok.C.k_law_links (pvs1 (pv_loc rfl)) (y1.call1 (t' := t2) k1 tl1) fun vs s2 e y2 => ?_
  obtain rfl := Va1.eq e
  refine links_spec (v := v) (P := Or (Gt g) _) v.dep (Nat.le_refl _) y2.ok.C y2.st hX0 (by show A'.depth + v.dep < 880; exact n_lt (n_t (n_a (n_e hX1 (n_t (n_a (n_s hd (Nat.le_refl _)) (Nat.le_refl _)) (Nat.le_refl _))) (n_t hdep (Nat.le_refl _))) (Nat.le_refl _)) (n_bl rfl)) (by show A'.units + 4 * v.dep < 7900; exact n_lt (n_t (n_a (n_e hX2 (n_t (n_a (n_s hu (Nat.le_refl _)) (Nat.le_refl _)) (Nat.le_refl _))) (n_t (n_m 4 (n_t hdep (Nat.le_refl _))) (Nat.le_refl _))) (Nat.le_refl _)) (n_bl rfl)) y2.z.has hvg.inl (n_t hdep (n_b rfl)) hsz ?_
  intro l2 v2 c2 h3 t3 Γ2 k2 tl2 hv2
  have y3 := y2.call1 (t' := t3) k2 tl2
  obtain ⟨as, q1⟩ := reads_list (P := Or No _) (fun a o h => h.elim False.elim fun h => y3.z.tup h) (y3.z.get (.tail _ (.head _))) (hv1.left (Γ := [])).upA
  obtain ⟨bs, q2⟩ := reads_list (P := Or No _) (fun a o h => h.elim False.elim fun h => y3.z.tup (List.mem_append_left _ h)) (y3.z.get (.head _)) hv2
  have lay := links_lay v.links
  have sh := lay_list lay.1 (n_t lay.2 (n_b rfl))
  refine eq_dataH q1 q2 sh sh y3.ok.hu ?_
  rw [eqv_refl0 _ (by rw [canLay_list]; exact lay.1)]
  refine ⟨rfl, ?_⟩
  refine ev_cmpE (ev_listTE y3 fun s4 y4 => ev_call y4.ok.C.g_parts_of y4.ok.C.k_parts_of (pvs1 (pv_loc rfl)) y4 fun vs s5 e y5 => ?_)
  obtain rfl := Va1.eq e
  refine parts_specY (v := v) (P := Or (Gt g) _) y5.ok.C y5.st hX0 (lvA hX1 hd) (lvC hX2 hu) y5.z.has hvg.inl (n_t hdep (n_b rfl)) ?_
  intro t4 vs4 o4 n4 h4 tk4 Γ4 k4 tl4 ho hc hd' hvs4
  have hl4 := hvs4.length
  rw [List.length_map] at hl4
  refine ⟨t4, vs4, _, _, _, rfl, TT.mk (or_or ho) hc hd', y5.call0 k4 tl4, by exact n_e hl4 (n_t hpl (n_t hps (n_t hsz (n_b rfl)))), fun l6 c6 s6 y6 => ?_⟩
  refine ev_call y6.ok.C.g_law_inner y6.ok.C.k_law_inner (pvs1 (pv_loc rfl)) y6 fun vs s7 e y7 => ?_
  obtain rfl := Va1.eq e
  refine inner_spec (v := v) (P := Or (Gt g) _) y7.ok.C y7.st hX0 (lvA hX1 hd) (lvC hX2 hu) y7.z.has hvg.inl (n_t hdep (n_b rfl)) ?_
  intro l8 vs8 c8 h8 t8 Γ8 k8 tl8 hvs8
  have y8 := y7.call1 (t' := t8) k8 tl8
  obtain ⟨as3, q3⟩ := reads_list (P := Or (Gt g) _) y8.z.has (y8.z.get (.tail _ (.head _))) hvs4.upA.upA
  obtain ⟨as4, q4⟩ := reads_list (P := Or (Gt g) _) y8.z.has (y8.z.get (.head _)) hvs8.upA
  have lay2 := vals_lay v.parts 55 hpd
  have sh2 := lay_list lay2.1 (n_t lay2.2 (n_b rfl))
  refine eq_dataH q3 q4 sh2 sh2 y8.ok.hu ?_
  rw [eqv_refl0 _ (by rw [canLay_list]; exact lay2.1)]
  rw [y8.e]
  exact hQ _ _ _ (y8.z.kept0 h0 hin) (y8.z.tupL hL)
end
end Mine
end
section
open PySem PySem.W PySem.Calls PyProof.Rows PySem.Spec
set_option Elab.async false
set_option maxRecDepth 100000
set_option maxHeartbeats 4000000
set_option linter.unusedVariables false
namespace Mine
theorem BRep.held {prog : Program} {w : World} {P : Addr → Obj → Prop} {b : Addr} {p : BP} {H : H} {held : List V} {ks : List (Addr × Obj)} (r : BRep prog w P b p H held ks) : ∃ hl c f, At p.h (listOf (List.toArray hl) c) ks f ∧ VRs P hl (held.map V.py) ∧
    ∀ hl' held' c', VRs P hl' (held'.map V.py) → BRep prog w P b p H held' (f (listOf (List.toArray hl') c')) := by
  cases r with | mk a1 a2 a3 a4 a5 a6 a7 a8 =>
  exact ⟨_, _, _, .tail (.tail (.tail .head)), a6, fun hl' dy c' h => .mk a1 a2 a3 a4 a5 h a7 a8⟩
/-- one of the held ones is taken, or 7 -/
noncomputable def Took (held : List V) (v : V) (held' : List V) : Prop := (held = [] ∧ v = .int 7 ∧ held' = []) ∨ ∃ pre post, held = pre ++ v :: post ∧ held' = pre ++ post
theorem VRs.split {P : Addr → Obj → Prop} {vs : List Value} {a b : List PyData} {d : PyData} (r : VRs P vs (a ++ d :: b)) : ∃ ws x us, vs = ws ++ x :: us ∧ VRs P ws a ∧ VR P x d ∧ VRs P us b := by
  induction a generalizing vs with
  | nil => cases r with | cons x r => exact ⟨[], _, _, rfl, .nil, x, r⟩
  | cons e a ih =>
    cases r with
    | cons x r =>
      refine ctr fun hG191 => ?_; obtain ⟨ws, y, us, rfl, h1, h2, h3⟩ := ih r; refine hG191 ?_; clear hG191
      exact ⟨_ :: ws, y, us, rfl, .cons x h1, h2, h3⟩
section
variable {prog : Program} {w : World} {K : Frag} {A : Around} {E : Value → Shared → Prop} {s : Shared} {h₀ : Heap} {P : Addr → Obj → Prop} {b a c : Addr} {p : BP} {H : H} {held : List V} {wks bks : List (Addr × Obj)} {Q : Value → Shared → Prop}
theorem both_noT (W : WRep prog w a c wks) (R : BRep prog w P b p H held bks) : ∀ q ∈ wks ++ bks, ¬ IsT q.2 := fun q hq => (List.mem_append.mp hq).elim (W.noT q) (R.noT q)
theorem take_spec (C : Cx K h₀) (hk : h₀.StaysIn s.heap) (hh : A.handled = none) (hd : A.depth < 880) (hu : A.units < 7800) (hP : ∀ a o, P a o → s.heap.get? a = some o) (O : Own h₀ s.heap (wks ++ bks)) (W : WRep prog w a c wks) (R : BRep prog w P b p H held bks) (hdep : ∀ u ∈ held, u.dep ≤ 55) (hlen : held.length ≤ 1000)
    (hQ : ∀ r v held' wks' bks' h' t', Kept h₀ (wks ++ bks) s.heap h' (wks' ++ bks') → WRep prog w a c wks' → BRep prog w P b p H held' bks' → VR P r v.py → Took held v held' → Q r { s with heap := h', toks := t' }) : wpAny (model prog w) A (call (.ref 302) [.ref a, .ref b]) Q E s := by
  refine enterY (binds := [(Str.ofString "well", .ref a), (Str.ofString "book", .ref b)]) C hk hh (Nat.lt_trans hu (by decide)) O C.KF.f302 rfl (Nat.lt_trans hd (by decide)) (fun _ _ _ => BindsTo.of_eq rfl) (locs rfl) rfl rfl rfl (by decide) ?_
  intro g L h₁ tk cdv A' X m0 hX0 hX1 hX2 y h0 hL hin
  have hPg := gt_of O hin hP
  refine ex7 R.hd fun ob ot on hls ql cc c2 bh => ?_
  have hll : hls.length = held.length := by simpa using bh.hh.length
  have hS : sizeLine = 16777216 := rfl
  have i1 : ∀ {q : Addr × Obj}, q ∈ bks → q ∈ wks ++ bks := fun h => List.mem_append_right _ h
  have lay := vals_lay held 55 hdep
  cases held with
  | nil =>
    refine y_reteff (ev_ifexp false (pb_nil (P := Tp P) (op := .NotEq) false (pv_dstr (pv_loc rfl) (i1 bh.m1) bh.hob) (i1 bh.m4) (fun s' y' a o h => y'.z.old (hPg a o h.2 h.1)) (bh.hh.mono2 fun _ _ t q => ⟨q, t⟩) lay.1 (n_t lay.2 (n_b rfl)) (.inr ⟨rfl, rfl⟩)) y fun s1 y1 => ev_pv pv_int y1 fun r s2 e y2 => ?_)
    obtain ⟨t, rfl⟩ := e
    rw [y2.e]
    exact hQ _ (.int 7) [] wks bks _ _ (y2.kept h0 hin (List.Sublist.refl _) (both_noT W R)) W R (.int _ _) (.inl ⟨rfl, rfl, rfl⟩)
  | cons u0 hr =>
    refine y_reteff (ev_ifexp true (pb_nil (P := Tp P) (op := .NotEq) true (pv_dstr (pv_loc rfl) (i1 bh.m1) bh.hob) (i1 bh.m4) (fun s' y' a o h => y'.z.old (hPg a o h.2 h.1)) (bh.hh.mono2 fun _ _ t q => ⟨q, t⟩) lay.1 (n_t lay.2 (n_b rfl)) (.inr ⟨rfl, rfl⟩)) y fun s1 y1 =>
      ev_lm1 (pv_dstr (pv_loc rfl) (i1 bh.m1) bh.hob) (i1 bh.m4) PySem.F.slot_list_pop rfl y1 fun s2 y2 => ev_call y2.ok.C.g_law_draw y2.ok.C.k_law_draw (pvs2 (pv_loc rfl) (pv_len (pv_dstr (pv_loc rfl) (i1 bh.m1) bh.hob) (i1 bh.m4) (n_e hll (n_t hlen (n_b rfl))))) y2 fun vs s3 e y3 => ?_)
    refine ex2 e fun _ v2 hKK => an3 hKK fun hE9 hE10 e2 => ?_; clear e hKK; subst hE9 hE10
    rw [hll] at e2
    have y4 := y3.perm (List.perm_append_comm (l₁ := bks) (l₂ := wks))
    refine draw_spec y4.ok.C y4.st hX0 (lvA hX1 hd) (lvC hX2 hu) (y4.own W.noT) W e2 (by simp only [List.length_cons]; exact n_k2) (n_cm (n_t hlen (Nat.le_refl _)) rfl) ?_
    intro r i wks' h' t' kk W' hr' hi0 hi1
    have y5 := (y4.callK (t' := t') W.noT kk).perm (List.perm_append_comm (l₁ := wks') (l₂ := bks))
    refine ex3 R.held fun hl c3 f hJJ => an3 hJJ fun ah hhl hset => ?_; clear hJJ
    obtain ⟨pre, v, post, hsp, hpl⟩ : ∃ pre v post, u0 :: hr = pre ++ v :: post ∧ pre.length = i.toNat := by
      have hlt : i.toNat < (u0 :: hr).length := by exact n_tn hi0 hi1
      exact ⟨(u0 :: hr).take i.toNat, (u0 :: hr)[i.toNat], (u0 :: hr).drop (i.toNat + 1), by rw [List.getElem_cons_drop, List.take_append_drop], by rw [List.length_take]; lia⟩
    rw [hsp, List.map_append, List.map_cons] at hhl
    refine ctr fun hG195 => ?_; obtain ⟨ws, x, us, rfl, q1, q2, q3⟩ := hhl.split; refine hG195 ?_; clear hG195
    have hwl : ws.length = pre.length := by simpa using q1.length
    have hul : us.length = post.length := by simpa using q3.length
    obtain ⟨ti, rfl⟩ := hr'
    have htot : (u0 :: hr).length = pre.length + post.length + 1 := by rw [hsp]; simp; lia
    refine c_popAt y5 (.app ah) (by lia) (by simp; lia) fun s6 k6 y6 => ?_
    have R' := hset (ws ++ us) (pre ++ post) k6 (by rw [List.map_append]; exact q1.append q3)
    rw [y6.e]
    exact hQ x v (pre ++ post) wks' _ _ _ (y6.kept h0 hin (List.Sublist.refl _) (both_noT W' R')) W' R' q2 (.inr ⟨pre, post, hsp, rfl⟩)
end
end Mine
end
section
open PySem PySem.W PySem.Calls PyProof.Rows PySem.Spec
set_option Elab.async false
set_option maxRecDepth 100000
set_option maxHeartbeats 4000000
set_option linter.unusedVariables false
namespace Mine
theorem Took.mem {held held' : List V} {v : V} (h : Took held v held') : (∀ u ∈ held', u ∈ held) ∧ (v ∈ held ∨ v = .int 7) ∧ held'.length ≤ held.length := by
  rcases h with ⟨rfl, rfl, rfl⟩ | ⟨pre, post, rfl, rfl⟩
  · exact ⟨fun u hu => hu, .inr rfl, Nat.le_refl _⟩
  · refine ⟨fun u hu => ?_, .inl (by simp), by simp⟩
    rcases List.mem_append.mp hu with h | h
    · exact List.mem_append_left _ h
    · exact List.mem_append_right _ (.tail _ h)
noncomputable def JoinRel (held held' : List V) : Prop :=
  (∃ v1 h1 v2 h2, Took held v1 h1 ∧ Took h1 v2 h2 ∧ held' = h2 ++ [.agg v1 v2]) ∨ (∃ v h1, Took held v h1 ∧ held' = h1 ++ [.enum1 v]) ∨ (∃ v h1, Took held v h1 ∧ held' = h1 ++ [.any v]) ∨ held' = held ++ [.enum0]
section
variable {prog : Program} {w : World} {K : Frag} {A : Around} {E : Value → Shared → Prop} {s : Shared} {h₀ : Heap} {P : Addr → Obj → Prop} {b a c : Addr} {p : BP} {H : H} {held : List V} {wks bks : List (Addr × Obj)} {Q : Value → Shared → Prop}
theorem BRep.up1 {Γ : List (Addr × Obj)} {q : Addr × Obj} (R : BRep prog w (Or P Γ) b p H held bks) : BRep prog w (Or P (q :: Γ)) b p H held bks := R.mono fun _ _ _ h => h.imp id (List.mem_cons_of_mem _)
theorem BRep.upA {Γ Γ' : List (Addr × Obj)} (R : BRep prog w (Or P Γ) b p H held bks) : BRep prog w (Or P (Γ' ++ Γ)) b p H held bks := R.mono fun _ _ _ h => h.imp id (List.mem_append_right _)
/-- a value is put behind the held ones -/
theorem held_push {X : Fn} {m : Str → Option Value} {Γ : List (Addr × Obj)} {E : Value → Shared → Prop} {s : Shared} {Pq : Addr → Obj → Prop} {x : Value} {v : V} {Q : Value → Shared → Prop} {loc : List (Addr × Obj)} (y : Y X m (loc ++ bks) Γ s) (R : BRep X.prog X.w (Or Pq Γ) b p H held bks) (hv : VR (Or Pq Γ) x v.py) (hlen : held.length ≤ 1000)
    (h : ∀ s' bks', BRep X.prog X.w (Or Pq Γ) b p H (held ++ [v]) bks' → Y X m (loc ++ bks') Γ s' → Q .none s') : wpAny (model X.prog X.w) X.A (call (.builtin "list.append") [.ref p.h, x]) Q E s := by
  refine ex3 R.held fun hl c3 f hJJ => an3 hJJ fun ah hhl hset => ?_; clear hJJ
  have hll : hl.length = held.length := by simpa using hhl.length
  have hS : sizeLine = 16777216 := rfl
  refine c_append y (.app ah) (by rw [List.size_toArray]; exact n_e hll (n_t hlen (n_b rfl))) fun s' k y' => ?_
  rw [show hl.toArray.push x = (hl ++ [x]).toArray by simp] at y'
  exact h s' _ (hset _ _ k (by rw [List.map_append]; exact hhl.append (.cons hv .nil))) y'
theorem join_spec (C : Cx K h₀) (hk : h₀.StaysIn s.heap) (hh : A.handled = none) (hd : A.depth < 870) (hu : A.units < 7700) (hP : ∀ a o, P a o → s.heap.get? a = some o) (O : Own h₀ s.heap (wks ++ bks)) (W : WRep prog w a c wks) (R : BRep prog w P b p H held bks) (hdep : ∀ u ∈ held, u.dep ≤ 50) (hlen : held.length ≤ 900)
    (hQ : ∀ held' wks' bks' h' t' Γ, Kept h₀ (wks ++ bks) s.heap h' (wks' ++ bks') → TupL s.heap h' Γ → WRep prog w a c wks' → BRep prog w (Or P Γ) b p H held' bks' → JoinRel held held' → Q .none { s with heap := h', toks := t' }) : wpAny (model prog w) A (call (.ref 314) [.ref a, .ref b]) Q E s := by
  refine enterY (binds := [(Str.ofString "well", .ref a), (Str.ofString "book", .ref b)]) C hk hh (Nat.lt_trans hu (by decide)) O C.KF.f314 rfl (Nat.lt_trans hd (by decide)) (fun _ _ _ => BindsTo.of_eq rfl) (locs rfl) rfl rfl rfl (by decide) ?_
  intro g L h₁ tk cdv A' X m0 hX0 hX1 hX2 y h0 hL hin
  have hPg := gt_of O hin hP
  have done : ∀ held' m' wks' bks' Γ s', Y X m' (wks' ++ bks') Γ s' → WRep prog w a c wks' → BRep prog w (Or (Tp P) Γ) b p H held' bks' → JoinRel held held' → Q .none s' := by
    intro held' m' wks' bks' Γ s' y' W' R' hj
    rw [y'.e]
    have R2 := R'.mono (P' := Or P Γ) fun _ _ _ h => h.imp (fun h => h.1) id
    exact hQ _ _ _ _ _ _ (y'.kept h0 hin (List.Sublist.refl _) (both_noT W' R2)) (y'.z.tupL hL) W' R2 hj
  refine y_asgeff (ev_call y.ok.C.g_law_draw y.ok.C.k_law_draw (pvs2 (pv_loc rfl) pv_int) y fun vs s1 e y1 => ?_)
  refine ex2 e fun _ v2 hKK => an3 hKK fun hE11 hE12 e2 => ?_; clear e hKK; subst hE11 hE12
  have y2 := y1.perm (List.perm_append_comm (l₁ := bks) (l₂ := wks))
  refine draw_spec y2.ok.C y2.st hX0 (lvA hX1 hd) (lvC hX2 hu) (y2.own W.noT) W e2 (by decide) (by decide) ?_
  intro r i wks' h' t' kk W' hr' hi0 hi1
  have y3 := (y2.callK (t' := t') W.noT kk).perm (List.perm_append_comm (l₁ := wks') (l₂ := bks))
  refine y_store y3 fun s4 y4 => ?_
  have R0 : BRep prog w (Or (Tp P) []) b p H held bks := R.tp.mono fun _ _ _ h => .inl h
  have m1 : ∀ {v}, up (Str.ofString "way") v (fun y => List.lookup y [(Str.ofString "well", Value.ref a), (Str.ofString "book", .ref b)].reverse) (Str.ofString "book") = some (.ref b) := up_skip rfl
  have m2 : ∀ {v}, up (Str.ofString "way") v (fun y => List.lookup y [(Str.ofString "well", Value.ref a), (Str.ofString "book", .ref b)].reverse) (Str.ofString "well") = some (.ref a) := up_skip rfl
  have takeY : ∀ {wk bk Γ hd s' E'} {Q' : Value → Shared → Prop}, Y X (up (Str.ofString "way") r (fun y => List.lookup y [(Str.ofString "well", Value.ref a), (Str.ofString "book", .ref b)].reverse)) (wk ++ bk) Γ s' → WRep prog w a c wk → BRep prog w (Or (Tp P) Γ) b p H hd bk → (∀ u ∈ hd, u ∈ held) → hd.length ≤ held.length →
      (∀ r' v hd' wk' bk' s2, Y X (up (Str.ofString "way") r (fun y => List.lookup y [(Str.ofString "well", Value.ref a), (Str.ofString "book", .ref b)].reverse)) (wk' ++ bk') Γ s2 → WRep prog w a c wk' → BRep prog w (Or (Tp P) Γ) b p H hd' bk' → VR (Or (Tp P) Γ) r' v.py → Took hd v hd' → Q' r' s2) →
      wpAny (model X.prog X.w) X.A (call (.ref 302) [.ref a, .ref b]) Q' E' s' := by
    intro wk bk Γ hd s' E' Q' y' W' R' hsub hle h
    refine take_spec (P := Or (Tp P) Γ) y'.ok.C y'.st hX0 (by show A'.depth < 880; lia) (lvC hX2 hu) (y'.rd hPg) (y'.own (loc := []) (both_noT W' R')) W' R' (fun u hu => by have := hdep u (hsub u hu); exact n_t this (n_b rfl)) (n_t hle (n_t hlen (n_b rfl))) ?_
    intro r' v hd' wk' bk' h' t' kk W2 R2 hv took
    exact h r' v hd' wk' bk' _ (y'.callN (both_noT W' R') kk) W2 R2 hv took
  refine ex7 R0.hd fun ob ot on hls ql cc c2 bh => ?_
  have i1 : ∀ {q : Addr × Obj}, q ∈ bks → q ∈ wks' ++ bks := fun h => List.mem_append_right _ h
  by_cases c0 : i = 0
  · refine y_if_t (pb_eqi ((pv_loc up_hit).mono fun v e => by subst e; exact hr') pv_int (by rw [c0]; rfl)) y4 fun s5 y5 => ?_
    refine y_expr (ev_lm1 (pv_dstr (pv_loc m1) (i1 bh.m1) bh.hob) (i1 bh.m4) PySem.F.slot_list_append rfl y5 fun s6 y6 => ev_tup2E (ev_pv pv_str y6 fun v1 s7 e7 y7 => ev_tup2E (ev_call y7.ok.C.g_law_take y7.ok.C.k_law_take (pvs2 (pv_loc m2) (pv_loc m1)) y7 fun vs s8 e8 y8 => ?_)))
    obtain rfl := Va2.eq e8
    obtain ⟨u7, rfl⟩ := e7
    refine takeY y8 W' R0 (fun u h => h) (Nat.le_refl _) fun x1 v1 hd1 wk1 bk1 s9 y9 W1 R1 hv1 tk1 => ?_
    refine ev_call y9.ok.C.g_law_take y9.ok.C.k_law_take (pvs2 (pv_loc m2) (pv_loc m1)) y9 fun vs s10 e10 y10 => ?_
    obtain rfl := Va2.eq e10
    refine takeY y10 W1 R1 tk1.mem.1 tk1.mem.2.2 fun x2 v2 hd2 wk2 bk2 s11 y11 W2 R2 hv2 tk2 => ⟨_, _, _, y11, fun t1 s12 y12 => ⟨_, _, _, y12, fun t2 s13 y13 => ?_⟩⟩
    have hl2 := tk2.mem.2.2
    have hl1 := tk1.mem.2.2
    refine held_push (loc := _) (Pq := Tp P) (v := .agg v1 v2) y13 R2.up1.up1 (VR.tup (.head _) (.cons (.str _ _) (.cons (VR.tup (.tail _ (.head _)) (.cons hv1.up1.up1 (.cons hv2.up1.up1 .nil))) .nil))) (n_t hl2 (n_t hl1 (n_t hlen (n_b rfl)))) fun s14 bk3 R3 y14 => y_nil (y_nil ?_)
    exact done _ _ _ _ _ _ y14 W2 R3 (.inl ⟨v1, hd1, v2, hd2, tk1, tk2, rfl⟩)
  · refine y_if_e (pb_eqi ((pv_loc up_hit).mono fun v e => by subst e; exact hr') pv_int (by simpa using c0)) y4 fun s5 y5 => ?_
    by_cases c1 : i = 1
    · refine y_if_t (pb_eqi ((pv_loc up_hit).mono fun v e => by subst e; exact hr') pv_int (by rw [c1]; rfl)) y5 fun s5 y5 => ?_
      refine y_expr (ev_lm1 (pv_dstr (pv_loc m1) (i1 bh.m1) bh.hob) (i1 bh.m4) PySem.F.slot_list_append rfl y5 fun s6 y6 => ev_tup3E (ev_pv pv_str y6 fun v1 s7 e7 y7 => ev_pv pv_int y7 fun v0 s70 e70 y70 => ev_call y70.ok.C.g_law_take y70.ok.C.k_law_take (pvs2 (pv_loc m2) (pv_loc m1)) y70 fun vs s8 e8 y8 => ?_))
      obtain rfl := Va2.eq e8
      obtain ⟨u7, rfl⟩ := e7
      obtain ⟨u8, rfl⟩ := e70
      refine takeY y8 W' R0 (fun u h => h) (Nat.le_refl _) fun x1 v1 hd1 wk1 bk1 s9 y9 W1 R1 hv1 tk1 => ⟨_, _, _, y9, fun t2 s13 y13 => ?_⟩
      have hl1 := tk1.mem.2.2
      refine held_push (loc := _) (Pq := Tp P) (v := .enum1 v1) y13 R1.up1 (VR.tup (.head _) (.cons (.str _ _) (.cons (.int _ _) (.cons hv1.up1 .nil)))) (n_t hl1 (n_t hlen (n_b rfl))) fun s14 bk3 R3 y14 => y_nil (y_nil (y_nil ?_))
      exact done _ _ _ _ _ _ y14 W1 R3 (.inr (.inl ⟨v1, hd1, tk1, rfl⟩))
    · refine y_if_e (pb_eqi ((pv_loc up_hit).mono fun v e => by subst e; exact hr') pv_int (by simpa using c1)) y5 fun s5 y5 => ?_
      by_cases c2' : i = 2
      · refine y_if_t (pb_eqi ((pv_loc up_hit).mono fun v e => by subst e; exact hr') pv_int (by rw [c2']; rfl)) y5 fun s5 y5 => ?_
        refine y_expr (ev_lm1 (pv_dstr (pv_loc m1) (i1 bh.m1) bh.hob) (i1 bh.m4) PySem.F.slot_list_append rfl y5 fun s6 y6 => ev_tup3E (ev_pv pv_str y6 fun v1 s7 e7 y7 => ev_tup3E (ev_pv pv_str y7 fun v8 s8 e8 y8 => ev_pv pv_str y8 fun v9 s9 e9 y9 => ev_tup pvs_nil y9 (by decide) (fun vs e => by subst e; rfl) fun vs t0 s10 e10 y10 => ⟨_, _, _, y10, fun t1 s11 y11 => ev_call y11.ok.C.g_law_take y11.ok.C.k_law_take (pvs2 (pv_loc m2) (pv_loc m1)) y11 fun vs s12 e12 y12 => ?_⟩)))
        obtain rfl := Va2.eq e12
        obtain ⟨u7, rfl⟩ := e7
        obtain ⟨u8, rfl⟩ := e8
        obtain ⟨u9, rfl⟩ := e9
        subst e10
        refine takeY y12 W' R0.up1.up1 (fun u h => h) (Nat.le_refl _) fun x1 v1 hd1 wk1 bk1 s13 y13 W1 R1 hv1 tk1 => ⟨_, _, _, y13, fun t2 s14 y14 => ?_⟩
        have hl1 := tk1.mem.2.2
        refine held_push (loc := _) (Pq := Tp P) (v := .any v1) y14 R1.up1 (VR.tup (.head _) (.cons (.str _ _) (.cons (VR.tup (.tail _ (.head _)) (.cons (.str _ _) (.cons (.str _ _) (.cons (VR.tup (.tail _ (.tail _ (.head _))) .nil) .nil)))) (.cons hv1.up1 .nil)))) (n_t hl1 (n_t hlen (n_b rfl))) fun s14 bk3 R3 y14 => y_nil (y_nil (y_nil (y_nil ?_)))
        exact done _ _ _ _ _ _ y14 W1 R3 (.inr (.inr (.inl ⟨v1, hd1, tk1, rfl⟩)))
      · refine y_if_e (pb_eqi ((pv_loc up_hit).mono fun v e => by subst e; exact hr') pv_int (by simpa using c2')) y5 fun s5 y5 => ?_
        refine y_expr (ev_lm1 (pv_dstr (pv_loc m1) (i1 bh.m1) bh.hob) (i1 bh.m4) PySem.F.slot_list_append rfl y5 fun s6 y6 => ev_tup (pvs3 pv_str pv_int pv_none) y6 (by decide) (fun vs e => by obtain ⟨_, _, _, rfl, _⟩ := e; rfl) fun vs t s7 e y7 => ?_)
        refine ctr fun hG150 => ?_; obtain ⟨_, _, _, rfl, ⟨_, rfl⟩, ⟨_, rfl⟩, rfl⟩ := e; refine hG150 ?_; clear hG150
        refine held_push (loc := _) (Pq := Tp P) (v := .enum0) y7 R0.up1 (VR.tup (.head _) (.cons (.str _ _) (.cons (.int _ _) (.cons .none .nil)))) (n_t hlen (n_b rfl)) fun s14 bk3 R3 y14 => y_nil (y_nil (y_nil (y_nil ?_)))
        exact done _ _ _ _ _ _ y14 W' R3 (.inr (.inr (.inr rfl)))
end
end Mine
end
section
open PySem PySem.W PySem.Calls PyProof.Rows PySem.Spec
set_option Elab.async false
set_option maxRecDepth 100000
set_option maxHeartbeats 1000000
set_option linter.unusedVariables false
namespace Mine
theorem fl_far {y : Nat} (ts : List T) : ∀ i, (y < i ∨ i + ts.length ≤ y) → fl (some y) i ts = fl none i ts := by
  induction ts with
  | nil => intro i _; rfl
  | cons a r ih =>
    intro i h
    simp only [fl]
    rw [ih (i + 1) (by simp at h; lia)]
    congr 1
    unfold T.own
    have : ¬ (some y = some i) := by simp at h ⊢; lia
    rw [if_neg this, if_neg (by simp)]
theorem occ_out {ts : List T} {k : Nat} {t : T} (h : ts[k]? = some t) (j : Nat) : ∀ i, occ j (fl none i ts) = occ j (fl (some (i + k)) i ts) + occ j (t.fields.flatMap V.links) := by
  induction ts generalizing k with
  | nil => cases h
  | cons a r ih =>
    intro i
    cases k with
    | zero =>
      cases h
      simp only [fl, occ_app, Nat.add_zero]
      rw [fl_far r (i + 1) (.inl (Nat.lt_succ_self i))]
      unfold T.own
      rw [if_neg (by simp), if_pos rfl]
      simp [occ]; lia
    | succ k =>
      simp only [fl, occ_app]
      have := ih (k := k) h (i + 1)
      rw [show i + 1 + k = i + (k + 1) by lia] at this
      have e : a.own none i = a.own (some (i + (k + 1))) i := by
        unfold T.own
        rw [if_neg (by simp), if_neg (by simp)]
      rw [e]; lia
theorem fl_sub {x : Option Nat} {ts : List T} {l : Link} : ∀ i, l ∈ fl x i ts → l ∈ fl none i ts := by
  induction ts with
  | nil => intro i h; exact h
  | cons a r ih =>
    intro i h
    simp only [fl, List.mem_append] at h ⊢
    rcases h with h | h
    · left
      unfold T.own at h ⊢
      rw [if_neg (by simp)]
      split at h
      · cases h
      · exact h
    · exact .inr (ih _ h)
theorem fl_len (ts : List T) : ∀ i, (fl none i ts).length ≤ fsz ts := by
  induction ts with
  | nil => intro i; simp [fl]
  | cons a r ih =>
    intro i
    simp only [fl, List.length_append, fsz, List.map_cons, List.sum_cons]
    have h1 := ih (i + 1)
    have h2 := links_sum a.fields
    unfold fsz at h1
    have e : a.own none i = a.fields.flatMap V.links := by unfold T.own; rw [if_neg (by simp)]
    rw [e]; exact n_a h2 h1
theorem fl_same {ts : List T} {k : Nat} {t : T} (h : ts[k]? = some t) (hf : t.fields = []) : ∀ i, fl none i ts = fl (some (i + k)) i ts := by
  induction ts generalizing k with
  | nil => cases h
  | cons a r ih =>
    intro i
    cases k with
    | zero =>
      cases h
      simp only [fl, Nat.add_zero]
      rw [fl_far r (i + 1) (.inl (Nat.lt_succ_self i)), own_nil hf, own_nil hf]
    | succ k =>
      simp only [fl]
      have := ih (k := k) h (i + 1)
      rw [show i + 1 + k = i + (k + 1) by lia] at this
      rw [this]
      congr 1
      unfold T.own
      rw [if_neg (by simp), if_neg (by simp)]
/-- the first of the dying ones goes out of the line: its fields' links are told apart -/
theorem Inv.begin {H : Mine.H} {x : Nat} {dy : List Nat} {hl : List Link} (I : Inv none H hl) (hd : H.dying = x :: dy) : ∃ t, H.ts[x]? = some t ∧ t.st = .dying ∧ Inv (some x) { H with dying := dy } (t.fields.flatMap V.links ++ hl) := by
  obtain ⟨t, ht, hst⟩ := I.dy x (by rw [hd]; exact .head _)
  have nd := I.nd
  rw [hd, List.nodup_cons] at nd
  refine ⟨t, ht, hst, fun k u hu => ?_, fun l hl' => ?_, I.lv, fun k hk => I.dy k (by rw [hd]; exact .tail _ hk), nd.2, ?_, fun k hk => ?_⟩
  · have h1 := I.cnt k u hu
    have h2 := occ_out ht k 0
    rw [Nat.zero_add] at h2
    rw [occ_app, h2] at h1
    show u.strong = ((occ k (fl (some x) 0 H.ts ++ (t.fields.flatMap V.links ++ hl)) : Nat) : Int)
    rw [occ_app, occ_app]
    push_cast at h1 ⊢; lia
  · show l.2 < H.ts.length
    rcases List.mem_append.mp hl' with h | h
    · exact I.rng l (List.mem_append_left _ (fl_sub 0 h))
    · rcases List.mem_append.mp h with h | h
      · exact I.rng l (List.mem_append_left _ (fl_own none ht 0 (by unfold T.own; rw [if_neg (by simp)]; exact h)))
      · exact I.rng l (List.mem_append_right _ h)
  · have := I.dl
    rw [hd] at this
    simp only [List.length_cons] at this
    show dy.length + lives H.ts ≤ H.ts.length
    lia
  · cases hk; exact ⟨t, ht, hst, nd.1⟩
/-- and at last it is buried -/
theorem Inv.finish {H : Mine.H} {x : Nat} {hl : List Link} {t : T} (I : Inv (some x) H hl) (ht : H.ts[x]? = some t) : Inv none (H.bury x t) hl := by
  obtain ⟨t', ht', hst, hnd⟩ := I.xs x rfl
  rw [ht] at ht'; cases ht'
  have hnl : t.st.isLive = false := by rw [hst]; rfl
  have hs0 : ¬ 1 ≤ t.strong := fun h => by rw [(I.lv x t ht).mpr h] at hnl; cases hnl
  have key : ∀ j, occ j (fl none 0 (H.ts.set x { t with fields := [], st := .gone })) = occ j (fl (some x) 0 H.ts) := fun j => by
    have h1 := occ_out (set_get (y := { t with fields := [], st := .gone }) ht) j 0
    have h2 := flo_set (x := some x) (t' := { t with fields := [], st := .gone }) ht j
    rw [Nat.zero_add] at h1
    have e1 : t.own (some x) x = [] := by unfold T.own; rw [if_pos rfl]
    have e2 : ({ t with fields := [], st := .gone } : T).own (some x) x = [] := own_nil rfl
    rw [e1, e2] at h2
    rw [h1]
    simp [occ] at h2 ⊢
    exact h2
  have hlen : (H.ts.set x { t with fields := [], st := .gone }).length = H.ts.length := List.length_set ..
  refine ⟨fun k u hu => ?_, fun l hl' => ?_, fun k u hu => ?_, fun k hk => ?_, I.nd, ?_, fun k hk => by cases hk⟩
  · show u.strong = ((occ k (fl none 0 (H.ts.set x { t with fields := [], st := .gone }) ++ hl) : Nat) : Int)
    rw [occ_app, key]
    rcases set_at ht hu with ⟨rfl, rfl⟩ | ⟨_, hu'⟩
    · have := I.cnt _ _ ht; rw [occ_app] at this; exact this
    · have := I.cnt _ _ hu'; rw [occ_app] at this; exact this
  · show l.2 < (H.ts.set x { t with fields := [], st := .gone }).length
    rw [hlen]
    rcases List.mem_append.mp hl' with h | h
    · rcases fl_mem none 0 h with h | h
      · by_cases hh : l ∈ fl (some x) 0 H.ts
        · exact I.rng l (List.mem_append_left _ hh)
        · -- the set list holds none of x's own links
          exfalso
          have e : l ∈ fl (some x) 0 (H.ts.set x { t with fields := [], st := .gone }) := by
            have : fl none 0 (H.ts.set x { t with fields := [], st := .gone }) = fl (some x) 0 (H.ts.set x { t with fields := [], st := .gone }) := by
              have := fl_same (t := { t with fields := [], st := .gone }) (set_get ht) rfl 0
              rwa [Nat.zero_add] at this
            rw [← this]; assumption
          rcases fl_mem (some x) 0 e with e | e
          · exact hh e
          · rw [own_nil rfl] at e; cases e
      · rw [own_nil rfl] at h; cases h
    · exact I.rng l (List.mem_append_right _ h)
  · rcases set_at ht hu with ⟨rfl, rfl⟩ | ⟨_, hu'⟩
    · show Sta.isLive .gone = true ↔ 1 ≤ t.strong
      simp [Sta.isLive]; lia
    · exact I.lv _ _ hu'
  · obtain ⟨u, h1, h2⟩ := I.dy k hk
    have hne : x ≠ k := fun e => hnd (by rw [e]; exact hk)
    exact ⟨u, by show (H.ts.set x _)[k]? = _; rw [List.getElem?_set_ne hne]; exact h1, h2⟩
  · have h1 := lives_set (t' := { t with fields := [], st := .gone }) ht
    rw [hnl] at h1
    simp only [Sta.isLive, Bool.false_eq_true, if_false] at h1
    have h2 := I.dl
    show H.dying.length + lives (H.ts.set x { t with fields := [], st := .gone }) ≤ (H.ts.set x { t with fields := [], st := .gone }).length
    rw [hlen]; lia
end Mine
end
section
open PySem PySem.W PySem.Calls PyProof.Rows PySem.Spec
set_option Elab.async false
set_option maxRecDepth 100000
set_option maxHeartbeats 1000000
set_option linter.unusedVariables false
namespace Mine
/-! ### the plain model: one act -/
noncomputable def V.put5 (i : Nat) (a b : V) : V := if i = 0 then .agg (.int 5) b else .agg a (.int 5)
theorem Inv.perm {x : Option Nat} {H : Mine.H} {a b : List Link} (I : Inv x H a) (h1 : ∀ j, occ j b = occ j a) (h2 : ∀ l ∈ b, l ∈ a) : Inv x H b :=
  ⟨fun k t ht => by have := I.cnt k t ht; rw [occ_app] at this ⊢; rw [h1]; exact this, fun l hl => (List.mem_append.mp hl).elim (fun h => I.rng l (List.mem_append_left _ h)) fun h => I.rng l (List.mem_append_right _ (h2 l h)), I.lv, I.dy, I.nd, I.dl, I.xs⟩
noncomputable def vsz (vs : List V) : Nat := (vs.map V.size).sum
noncomputable abbrev lks (vs : List V) : List Link := vs.flatMap V.links
theorem vsz_app (a b : List V) : vsz (a ++ b) = vsz a + vsz b := by simp [vsz]
theorem vsz_cons (a : V) (b : List V) : vsz (a :: b) = a.size + vsz b := by simp [vsz]
theorem lks_app (a b : List V) : lks (a ++ b) = lks a ++ lks b := by simp [lks]
theorem lks_cons (a : V) (b : List V) : lks (a :: b) = a.links ++ lks b := by simp [lks]
theorem size_pos (v : V) : 1 ≤ v.size := by cases v <;> simp [V.size]
theorem dep_pos (v : V) : 1 ≤ v.dep := by cases v <;> simp [V.dep]
/-- what holds between the acts -/
structure Bnd (D M n : Nat) (H : Mine.H) (held : List V) : Prop where
  inv : Inv none H (lks held)
  bd : Bd D (fsz H.ts) H
  hd : ∀ u ∈ held, V.dep u ≤ D
  sz : fsz H.ts + vsz held ≤ M
  ts : H.ts.length ≤ n
  hl : held.length ≤ n
theorem Bnd.mono {D M n D' M' n' : Nat} {H : Mine.H} {held : List V} (b : Bnd D M n H held) (h1 : D ≤ D') (h2 : M ≤ M') (h3 : n ≤ n') : Bnd D' M' n' H held :=
  ⟨b.inv, b.bd.mono h1 (Nat.le_refl _), fun u hu => Nat.le_trans (b.hd u hu) h1, Nat.le_trans b.sz h2, Nat.le_trans b.ts h3, Nat.le_trans b.hl h3⟩
theorem Bnd.zero : Bnd 1 0 0 ⟨[], []⟩ [] := by
  refine ⟨⟨fun k t h => ?_, fun l h => ?_, fun k t h => ?_, fun k h => ?_, List.Pairwise.nil, Nat.le_refl _, fun k h => ?_⟩, ⟨fun k t h => ?_, Nat.le_refl _, fun k t h => ?_⟩, fun u h => ?_, Nat.le_refl _, Nat.le_refl _, Nat.le_refl _⟩ <;> simp [fl, lks] at h
/-- some value goes: with its run -/
theorem gone_bnd {D M n : Nat} {H : Mine.H} {g : List Link} {held' : List V} (I : Inv none H (g ++ lks held')) (bd : Bd D (fsz H.ts) H) (hd : ∀ u ∈ held', V.dep u ≤ D) (hs : fsz H.ts + vsz held' ≤ M) (ht : H.ts.length ≤ n) (hl : held'.length ≤ n) (hD : D ≤ 60) (hM : M ≤ 2 ^ 22) (hn : n ≤ 60) :
    ∃ H', Gone 61 H g H' ∧ (g.length ≤ 2 ^ 22 → ∃ N, Run N H g H') ∧ Bnd D M n H' held' := by
  have hliv : lives H.ts ≤ 60 := by have := lives_le H.ts; exact n_t this (n_t ht hn)
  refine ctr fun hG348 => ?_; obtain ⟨H', hg, I', _, h2, h3, h4⟩ := gone_exists (n := H.ts.length) (n_t ht (n_t hn (n_b rfl))) 60 g H (lks held') hliv rfl I (bd.mono hD (n_t (n_al hs) hM)); refine hG348 ?_; clear hG348
  have hb := h3 _ _ bd
  have hfl := fl_len H.ts 0
  refine ⟨H', hg, fun hgl => ?_, ⟨I', hb.mono (Nat.le_refl _) (Nat.le_refl _) |> fun b => ⟨b.dep, Nat.le_refl _, b.nm⟩, hd, by have := hb.sz; lia, by exact n_e h2 ht, hl⟩⟩
  obtain ⟨N, r⟩ := hg.run (rest := []) (by rw [List.append_nil]; exact n_t (n_a (n_t hgl (Nat.le_refl _)) (n_t hfl (n_t (n_al hs) (n_t hM (Nat.le_refl _))))) (Nat.le_refl _)) .nil
  rw [List.append_nil] at r
  exact ⟨N, r⟩
theorem occ_mid (j : Nat) (a b c : List Link) : occ j (b ++ (a ++ c)) = occ j (a ++ (b ++ c)) := by simp only [occ_app]; lia
/-- a held one goes -/
theorem Bnd.drop {D M n : Nat} {H : Mine.H} {pre post : List V} {v : V} (B : Bnd D M n H (pre ++ v :: post)) (hD : D ≤ 60) (hM : M ≤ 2 ^ 22) (hn : n ≤ 60) : ∃ H', Gone 61 H v.links H' ∧ (∃ N, Run N H v.links H') ∧ Bnd D M n H' (pre ++ post) := by
  have hs := B.sz
  rw [vsz_app, vsz_cons] at hs
  have hl := B.hl
  rw [List.length_append, List.length_cons] at hl
  have hvl := V.links_len v
  obtain ⟨H', g, r, b⟩ := gone_bnd (D := D) (M := M) (n := n) (held' := pre ++ post) (g := v.links) (B.inv.perm (fun j => by rw [lks_app, lks_app, lks_cons, occ_mid]) (fun l hl => by rw [lks_app] at hl; rw [lks_app, lks_cons]; simp only [List.mem_append] at hl ⊢; rcases hl with h | h | h <;> simp [h])) B.bd
    (fun u hu => B.hd u (by simp only [List.mem_append, List.mem_cons] at hu ⊢; rcases hu with h | h <;> simp [h])) (by rw [vsz_app]; lia) B.ts (by rw [List.length_append]; lia) hD hM hn
  exact ⟨H', g, r (by lia), b⟩
/-- one part of a held pair goes, 5 stands there -/
theorem Bnd.part {D M n i : Nat} {H : Mine.H} {pre post : List V} {a b v : V} (B : Bnd D M n H (pre ++ .agg a b :: post)) (hv : (i = 0 ∧ v = a) ∨ (i = 1 ∧ v = b)) (hD : D ≤ 60) (hM : M ≤ 2 ^ 22) (hn : n ≤ 60) : ∃ H', Gone 61 H v.links H' ∧ (∃ N, Run N H v.links H') ∧ Bnd D M n H' (pre ++ V.put5 i a b :: post) := by
  have hs := B.sz
  rw [vsz_app, vsz_cons] at hs
  have hl := B.hl
  rw [List.length_append, List.length_cons] at hl
  have hvl := V.links_len v
  have hda := B.hd (.agg a b) (by simp)
  have hsz : (V.agg a b).size = a.size + b.size + 1 := rfl
  have hdp : (V.agg a b).dep = max a.dep b.dep + 2 := rfl
  have pa := size_pos a
  have pb := size_pos b
  have qa := dep_pos a
  have qb := dep_pos b
  have key : (∀ j, occ j (v.links ++ (V.put5 i a b).links) = occ j (V.agg a b).links) ∧ (∀ l ∈ v.links ++ (V.put5 i a b).links, l ∈ (V.agg a b).links) ∧ (V.put5 i a b).size ≤ (V.agg a b).size ∧ (V.put5 i a b).dep ≤ (V.agg a b).dep ∧ v.size ≤ (V.agg a b).size := by
    rcases hv with ⟨rfl, rfl⟩ | ⟨rfl, rfl⟩
    · refine ⟨fun j => by simp [V.put5, V.links], fun l h => by simpa [V.put5, V.links] using h, ?_, ?_, ?_⟩ <;> simp [V.put5, V.size, V.dep] <;> lia
    · refine ⟨fun j => by simp [V.put5, V.links, occ_app]; lia, fun l h => by simp [V.put5, V.links] at h ⊢; exact h.symm, ?_, ?_, ?_⟩ <;> simp [V.put5, V.size, V.dep] <;> lia
  refine ctr fun hG349 => ?_; obtain ⟨k1, k2, k3, k4, k5⟩ := key; refine hG349 ?_; clear hG349
  obtain ⟨H', g, r, b'⟩ := gone_bnd (D := D) (M := M) (n := n) (held' := pre ++ V.put5 i a b :: post) (g := v.links) (B.inv.perm (fun j => by
      have := k1 j
      rw [lks_app, lks_app, lks_cons, lks_cons]
      simp only [occ_app] at this ⊢
      lia) (fun l hl => by
      have := k2 l
      rw [lks_app, lks_cons] at hl
      rw [lks_app, lks_cons]
      simp only [List.mem_append] at hl this ⊢
      rcases hl with h | h | h | h
      · exact .inr (.inl (this (.inl h)))
      · exact .inl h
      · exact .inr (.inl (this (.inr h)))
      · exact .inr (.inr h))) B.bd
    (fun u hu => by
      simp only [List.mem_append, List.mem_cons] at hu
      rcases hu with h | rfl | h
      · exact B.hd u (by simp [h])
      · exact Nat.le_trans k4 hda
      · exact B.hd u (by simp [h])) (by rw [vsz_app, vsz_cons]; lia) B.ts (by rw [List.length_append, List.length_cons]; exact hl) hD hM hn
  exact ⟨H', g, r (by lia), b'⟩
end Mine
end
section
open PySem PySem.W PySem.Calls PyProof.Rows PySem.Spec
set_option Elab.async false
set_option maxRecDepth 100000
set_option maxHeartbeats 2000000
set_option rowWalk.seconds 0
set_option linter.unusedVariables false
namespace Mine
noncomputable abbrev Fn.comp (X : Fn) (scope : Scope) (cl : List (Str × Addr)) (b : Shared) (g : Heap) (C : Addr) : Fn := ⟨X.prog, X.w, X.K, X.A, compEnvC scope cl C X.env, b, g, C⟩
noncomputable abbrev testsOf (ifs : List Expr) (env : Env) : Sem Bool := forIn ifs true fun c r => if r = true then do let ok ← isTrue c env (eval c env); pure (ForInStep.yield ok) else pure (ForInStep.yield r)
theorem compLoop_gen {prog : Program} {w : World} {A : Around} {s : Shared} {R : Result → Shared → Prop} {elt target iter : Expr} {ifs : List Expr} {scope : Scope} {pos : Pos} {it acc : Value} {env : Env} (I : Nat → Shared → Prop)
    (turn : ∀ n s, I n s → wpAny (model prog w) A (pyNext it) (fun r s₁ => match r with
      | none => R (.ok .next) s₁
      | some v => wpAny (model prog w) A (letOwnedTupleGo target it v) (fun _ s₁' => wpAny (model prog w) A (assign target env v) (fun _ s₂ =>
          wpAny (model prog w) A (testsOf ifs env) (fun ok s₃ =>
            if ok = true then wpAny (model prog w) A (eval elt env) (fun x s₄ =>
              wpAny (model prog w) A (call (.builtin "list.append") [acc, x]) (fun _ s₅ => ∃ m, m < n ∧ I m s₅) (notedBy (model prog w) A env fun e s' => R (.error e) s') s₄) (notedBy (model prog w) A env fun e s' => R (.error e) s') s₃
            else ∃ m, m < n ∧ I m s₃) (notedBy (model prog w) A env fun e s' => R (.error e) s') s₂) (notedBy (model prog w) A env fun e s' => R (.error e) s') s₁') (notedBy (model prog w) A env fun e s' => R (.error e) s') s₁) (notedBy (model prog w) A env fun e s' => R (.error e) s') s)
    (n : Nat) (h : I n s) : codeAny (model prog w) A (.compLoop (.ListComp elt [⟨target, iter, ifs, 0⟩] scope pos) 0 it acc env) R s := by
  refine codeAny_loop rfl I (fun n s hI => ?_) n h
  show wpAny _ A ((compTurn (.ListComp elt [⟨target, iter, ifs, 0⟩] scope pos) 0 it acc env).onRaise (fun x => do noteFrame x env; theTreesLotGoes x)) _ _ s
  refine wpAny_noted ?_
  rw [compTurn_list]
  refine wpAny_bind (wpAny_standAt (wpAny_bind (wpAny_mono (turn n s hI) (fun r s₁ h₁ => ?_) fun _ _ h' => h')))
  cases r with
  | none => exact wpAny_pure h₁
  | some v =>
    refine wpAny_bind (wpAny_mono h₁ (fun _ s₁' h₁' => ?_) fun _ _ h' => h')
    refine wpAny_bind (wpAny_mono h₁' (fun _ s₂ h₂ => wpAny_bind (wpAny_mono h₂ (fun ok s₃ h₃ => ?_) fun _ _ h' => h')) fun _ _ h' => h')
    cases ok with
    | false => exact wpAny_pure ⟨rfl, h₃⟩
    | true =>
      exact wpAny_bind (wpAny_bind (wpAny_mono h₃ (fun x s₄ h₄ => wpAny_bind (wpAny_mono h₄ (fun _ s₅ h₅ => wpAny_pure (wpAny_pure ⟨rfl, h₅⟩)) fun _ _ h' => h')) fun _ _ h' => h'))
/-- a comprehension's run: its iterator I, its turns -/
noncomputable def CompFin (X : Fn) (use : Option (Value → Sem Unit)) (Q : Value → Shared → Prop) (m : Str → Option Value) (Γ : List (Addr × Obj)) (n : Nat) (J : Nat → List Value → List (Addr × Obj) → List (Addr × Obj) → Prop) : Prop := match use with
  | none => ∀ ys nw Γ' D c s, J n ys nw Γ' → Y X m ((D, listOf ys.toArray c) :: nw) (Γ' ++ Γ) s → Q (.ref D) s
  | some u => ∀ ys nw Γ' D c p s E', J n ys nw Γ' → Y X m (p :: (D, listOf ys.toArray c) :: nw) (Γ' ++ Γ) s → wpAny (model X.prog X.w) X.A (u (.ref D)) (fun _ s'' => ∃ m2 nw2 Γ2, Y X m2 (p :: nw2) Γ2 s'' ∧ ∀ s3, Y X m2 nw2 Γ2 s3 → Q .none s3) E' s
structure Comp (X : Fn) (use : Option (Value → Sem Unit)) (elt target : Expr) (ifs : List Expr) (scope : Scope) (cl : List (Str × Addr)) (Q : Value → Shared → Prop) (m : Str → Option Value) (news Γ : List (Addr × Obj)) (I : Addr) (n : Nat) (It : Nat → Obj → Prop)
    (J : Nat → List Value → List (Addr × Obj) → List (Addr × Obj) → Prop) (Jf : List Value → List (Addr × Obj) → List (Addr × Obj) → Prop) : Prop where
  noI : ∀ i o, It i o → ¬ IsT o
  self : ∀ (s : Shared) o (E : Value → Shared → Prop) (Q : Value → Shared → Prop), It 0 o → s.heap.get? I = some o → Q (.ref I) s → wpAny (model X.prog X.w) X.A (pyIter (.ref I)) Q E s
  noT : ∀ p ∈ news, ¬ IsT p.2
  J0 : J 0 [] news []
  JT : ∀ i ys nw Γ', J i ys nw Γ' → (∀ p ∈ nw, ¬ IsT p.2) ∧ ys.length ≤ 1000
  turn : ∀ b g C i ys nw Γ' o D c m' s E', (∀ a ob, IsT ob → Or (Gt X.g) Γ a ob → Gt g a ob) → J i ys nw Γ' → It i o → i < n → Y (X.comp scope cl b g C) m' ((I, o) :: (D, listOf ys.toArray c) :: nw) Γ' s →
    wpAny (model X.prog X.w) X.A (pyNext (.ref I)) (fun r s₁ => ∃ v, r = some v ∧ wpAny (model X.prog X.w) X.A (letOwnedTupleGo target (.ref I) v) (fun _ s₁' => wpAny (model X.prog X.w) X.A (assign target (compEnvC scope cl C X.env) v) (fun _ s₂ =>
      wpAny (model X.prog X.w) X.A (testsOf ifs (compEnvC scope cl C X.env)) (fun ok s₃ =>
        if ok = true then wpAny (model X.prog X.w) X.A (eval elt (compEnvC scope cl C X.env)) (fun r s₄ => ∃ o' nw' Γ'' m'', It (i + 1) o' ∧ Y (X.comp scope cl b g C) m'' ((I, o') :: (D, listOf ys.toArray c) :: nw') Γ'' s₄ ∧ J (i + 1) (ys ++ [r]) nw' Γ'') E' s₃
        else ∃ o' nw' Γ'' m'', It (i + 1) o' ∧ Y (X.comp scope cl b g C) m'' ((I, o') :: (D, listOf ys.toArray c) :: nw') Γ'' s₃ ∧ J (i + 1) ys nw' Γ'') E' s₂) E' s₁') E' s₁) E' s
  done : ∀ b g C ys nw Γ' o D c m' s E', J n ys nw Γ' → It n o → Y (X.comp scope cl b g C) m' ((I, o) :: (D, listOf ys.toArray c) :: nw) Γ' s →
    wpAny (model X.prog X.w) X.A (pyNext (.ref I)) (fun r s₁ => r = none ∧ ∃ nw', Jf ys nw' Γ' ∧ Y (X.comp scope cl b g C) m' ((D, listOf ys.toArray c) :: nw') Γ' s₁) E' s
  JF : ∀ ys nw Γ', Jf ys nw Γ' → ∀ p ∈ nw, ¬ IsT p.2
  fin : CompFin X use Q m Γ n (fun _ => Jf)
section
variable {X : Fn} {m : Str → Option Value} {news Γ : List (Addr × Obj)} {E : Value → Shared → Prop} {s : Shared}
theorem comp_core {use : Option (Value → Sem Unit)} {elt target iter : Expr} {pos : Pos} {ifs : List Expr} {scope : Scope} {cl : List (Str × Addr)} {Q : Value → Shared → Prop}
    (h : wpAny (model X.prog X.w) X.A (eval iter X.env) (fun xv s₁ => wpAny (model X.prog X.w) X.A (pyIter xv) (fun it s₂ => ∃ m news Γ I o n It J Jf, it = .ref I ∧ Y X m ((I, o) :: news) Γ s₂ ∧ It 0 o ∧ Comp X use elt target ifs scope cl Q m news Γ I n It J Jf) E s₁) E s)
    (hclos : closureFor scope X.env = pure cl) (hkind : scope.kind = .function) (hcell : ∀ y ∈ scope.names, y.2 ≠ .cell)
    (hnames : ∀ y ∈ scope.names, y.2 = .local → scope.names.lookup y.1 = some .local) (hs : ∀ x, foldedSetIterable iter X.env x = pure x) {pos2 : Pos} :
    wpAny (model X.prog X.w) X.A (comprehension (.ListComp elt [⟨target, iter, ifs, 0⟩] scope pos) scope X.env pos2 (newList []) false (eval iter X.env) use) Q E s := by
  refine wpAny_comprehension_free (use := use) rfl hs hclos hkind hnames (wpAny_mono h (fun xv s₁ h₁ => wpAny_mono h₁ (fun it s₂ h₂ => ?_) fun _ _ e => e) fun _ _ e => e)
  refine ctr fun hG261 => ?_; obtain ⟨m, news, Γ, I, o, n, It, J, Jf, rfl, y, hI0, K⟩ := h₂; refine hG261 ?_; clear hG261
  refine wpAny_newObj_type (wpAny_newFunctionEnv hcell (by intro y hy; simp at hy) (fun h₁ hns₁ hsb₁ => ?_) hkind)
  dsimp only at hns₁ hsb₁ ⊢
  generalize hH2 : s₂.heap.push { cls := .type "list", dict := none, data := .seq ([] : List Value).toArray } = H2 at hns₁ hsb₁ ⊢
  have hC : H2.objs.size = s₂.heap.objs.size + 1 := by rw [← hH2, Heap.size_push]
  have ks : ∀ p ∈ (I, o) :: news, ¬ IsT p.2 := fun p hp => by
    rcases List.mem_cons.mp hp with rfl | hp
    · exact K.noI _ _ hI0
    · exact K.noT p hp
  have hlt : ∀ b ob, s₂.heap.get? b = some ob → b < s₂.heap.objs.size := fun b ob e => Heap.lt_size e
  have old : ∀ b ob, s₂.heap.get? b = some ob → h₁.get? b = some ob := fun b ob e => hsb₁.extBut b ob (by have := hlt b ob e; rw [hC]; exact Nat.ne_of_lt (Nat.lt_succ_of_lt this)) (Heap.get?_push_of_some _ (hH2 ▸ Heap.get?_push_of_some _ e))
  have hD : h₁.get? s₂.heap.objs.size = some (listOf #[] 0) := hsb₁.extBut _ _ (by rw [hC]; exact Nat.ne_of_lt (Nat.lt_succ_self _)) (Heap.get?_push_of_some _ (hH2 ▸ Heap.get?_push_size _ rfl))
  let g' : Heap := hideAll s₂.heap (((I, o) :: news).map (·.1))
  have hgs : g'.objs.size = s₂.heap.objs.size := hideAll_size _ _
  have hgD : ∀ a, s₂.heap.objs.size ≤ a → g'.get? a = none := fun a ha => by
    cases e : g'.get? a with
    | none => rfl
    | some ob => exact absurd (Heap.lt_size e) (by rw [hgs]; exact Nat.not_lt.mpr ha)
  have hgX : X.g.StaysIn g' := fun a ob e => hideAll_get _ (y.z.F.keep a ob e) fun q => by
    obtain ⟨p, hp, rfl⟩ := List.mem_map.mp q
    rw [(y.z.N p (List.mem_append_left _ hp)).2.2] at e; cases e
  have hgT : ∀ a ob, IsT ob → Or (Gt X.g) Γ a ob → Gt g' a ob := fun a ob t h => hideAll_get _ (y.z.has a ob h) fun q => by
    obtain ⟨p, hp, rfl⟩ := List.mem_map.mp q
    have := y.z.get hp
    rw [y.z.has _ _ h] at this; cases this; exact ks p hp t
  have hin : ∀ a ob, s₂.heap.get? a = some ob → a ∉ ((I, o) :: news).map (·.1) → g'.get? a = some ob := fun a ob e n => hideAll_get _ e n
  let X' : Fn := X.comp scope cl s₂ g' H2.objs.size
  have y' : Y X' (fun z => ([] : List (Str × Value)).reverse.lookup z) ((I, o) :: (s₂.heap.objs.size, listOf ([] : List Value).toArray 0) :: news) [] { s₂ with heap := h₁, toks := s₂.toks + ([] : List (Str × Value)).length } := by
    refine ⟨⟨⟨hns₁, fun b ob e => old b ob (of_hideAll _ e), by show g'.objs.size ≤ H2.objs.size; rw [hgs, hC]; exact Nat.le_succ _⟩, ?_, ?_, fun _ h => nomatch h⟩, rfl, ⟨hkind, rfl, y.ok.hG, y.ok.hB, y.ok.hh, y.ok.C.keeps hgX, y.ok.hu⟩⟩
    · intro p hp
      rw [List.append_nil] at hp
      have old1 : ∀ q ∈ (I, o) :: news, h₁.get? q.1 = some q.2 ∧ q.1 ≠ H2.objs.size ∧ g'.get? q.1 = none := fun q hq =>
        ⟨old _ _ (y.z.get hq), by have := hlt _ _ (y.z.get hq); rw [hC]; exact Nat.ne_of_lt (Nat.lt_succ_of_lt this), hideAll_none _ (List.mem_map_of_mem hq)⟩
      rcases List.mem_cons.mp hp with rfl | hp
      · exact old1 _ (.head _)
      · rcases List.mem_cons.mp hp with rfl | hp
        · exact ⟨hD, by show s₂.heap.objs.size ≠ H2.objs.size; rw [hC]; exact Nat.ne_of_lt (Nat.lt_succ_self _), hgD _ (Nat.le_refl _)⟩
        · exact old1 _ (.tail _ hp)
    · have nd := y.z.nd
      rw [List.map_cons, List.nodup_cons] at nd
      rw [List.map_cons, List.map_cons, List.nodup_cons, List.nodup_cons]
      refine ⟨fun q => ?_, fun q => ?_, nd.2⟩
      · rcases List.mem_cons.mp q with q | q
        · have := hlt _ _ (y.z.get (.head _))
          have q' : I = s₂.heap.objs.size := q
          exact absurd this (by rw [q']; exact Nat.lt_irrefl _)
        · exact nd.1 q
      · obtain ⟨p, hp, e⟩ := List.mem_map.mp q
        have := hlt _ _ (y.z.get (.tail _ hp))
        have e' : p.1 = s₂.heap.objs.size := e
        exact absurd this (by rw [e']; exact Nat.lt_irrefl _)
  have loop : codeAny (model X.prog X.w) X.A (.compLoop (.ListComp elt [⟨target, iter, ifs, 0⟩] scope pos) 0 (.ref I) (.ref s₂.heap.objs.size) (compEnvC scope cl H2.objs.size X.env))
      (compPost (model X.prog X.w) X.A E use Q (.ref s₂.heap.objs.size) H2.objs.size) { s₂ with heap := h₁, toks := s₂.toks + ([] : List (Str × Value)).length } := by
    refine compLoop_gen
      (fun k s' => ∃ i ys nw Γ' oi c m', i ≤ n ∧ k = n - i ∧ It i oi ∧ J i ys nw Γ' ∧ Y X' m' ((I, oi) :: (s₂.heap.objs.size, listOf ys.toArray c) :: nw) Γ' s') ?_ n
      ⟨0, [], news, [], o, 0, _, Nat.zero_le _, rfl, hI0, K.J0, y'⟩
    intro k s' hJJ; refine ctr fun hG262 => ?_; obtain ⟨i, ys, nw, Γ', oi, c, m', hi, rfl, hIt, hJ, yi⟩ := hJJ; refine hG262 ?_; clear hG262
    by_cases hlt' : i < n
    · refine wpAny_mono (K.turn s₂ g' _ i ys nw Γ' oi _ c m' s' _ hgT hJ hIt hlt' yi) (fun r s₃ q => ?_) fun _ _ e => e
      obtain ⟨v, rfl, q⟩ := q
      refine wpAny_mono q (fun _ s₄ q => wpAny_mono q (fun _ s₄' q => wpAny_mono q (fun ok s₅ q => ?_) fun _ _ e => e) fun _ _ e => e) fun _ _ e => e
      cases ok with
      | false =>
        rw [if_neg Bool.false_ne_true] at q ⊢
        refine ctr fun hG263 => ?_; obtain ⟨o', nw', Γ'', m'', hIt', y5, hJ'⟩ := q; refine hG263 ?_; clear hG263
        exact ⟨n - (i + 1), by exact n_sb hlt', i + 1, ys, nw', Γ'', o', c, m'', hlt', rfl, hIt', hJ', y5⟩
      | true =>
        rw [if_pos rfl] at q ⊢
        refine wpAny_mono q (fun r s₆ q => ?_) fun _ _ e => e
        refine ctr fun hG264 => ?_; obtain ⟨o', nw', Γ'', m'', hIt', y5, hJ'⟩ := q; refine hG264 ?_; clear hG264
        have hyl := (K.JT _ _ _ _ hJ').2
        have hS : sizeLine = 16777216 := rfl
        refine c_append (X := X') y5 (.tail .head) (by rw [List.size_toArray]; rw [List.length_append] at hyl; exact n_t (n_al hyl) (n_b rfl)) fun s₇ k7 y7 => ?_
        rw [show ys.toArray.push r = (ys ++ [r]).toArray by simp] at y7
        exact ⟨n - (i + 1), by exact n_sb hlt', i + 1, ys ++ [r], nw', Γ'', o', k7, m'', hlt', rfl, hIt', hJ', y7⟩
    · obtain rfl : i = n := by exact n_bx hi hlt'
      refine wpAny_mono (K.done s₂ g' _ ys nw Γ' oi _ c m' s' _ hJ hIt yi) (fun r s₃ q => ?_) fun _ _ e => e
      obtain ⟨rfl, nw, hJ, y3⟩ := q
      have nC : ∀ b, b < s₂.heap.objs.size → b ≠ H2.objs.size := fun b hb => by rw [hC]; exact Nat.ne_of_lt (Nat.lt_succ_of_lt hb)
      have no3 : ∀ p ∈ (s₂.heap.objs.size, listOf ys.toArray c) :: nw, ¬ IsT p.2 := fun p hp => by
        rcases List.mem_cons.mp hp with rfl | hp
        · exact notT_list
        · exact K.JF _ _ _ hJ p hp
      obtain ⟨oC, hoC, hnC⟩ := ns_notT y3.z.F.ns
      have nXC : X.g.get? H2.objs.size = none := by
        cases e : X.g.get? H2.objs.size with
        | none => rfl
        | some ob => exact absurd (Heap.lt_size (y.z.F.keep _ _ e)) (by rw [hC]; exact Nat.not_lt.mpr (Nat.le_succ _))
      have kk : Kept X.g ((I, o) :: news) s₂.heap s₃.heap ((H2.objs.size, oC) :: (s₂.heap.objs.size, listOf ys.toArray c) :: nw) := by
        refine ⟨fun a ob e nn => y3.z.F.keep _ _ (hin a ob e nn), ⟨fun p hp => ?_, fun p hp => ?_, fun p hp => ?_, ?_⟩, fun p hp => ?_⟩
        · rcases List.mem_cons.mp hp with rfl | hp
          · exact hoC
          · exact y3.z.get hp
        · rcases List.mem_cons.mp hp with rfl | hp
          · exact nXC
          · cases e : X.g.get? p.1 with
            | none => rfl
            | some ob =>
              have := (y3.z.N p (List.mem_append_left _ hp)).2.2
              rw [show X'.g.get? p.1 = some ob from hgX _ _ e] at this; cases this
        · rcases List.mem_cons.mp hp with rfl | hp
          · exact hnC
          · exact no3 p hp
        · rw [List.map_cons, List.nodup_cons]
          refine ⟨fun q => ?_, y3.z.nd⟩
          obtain ⟨p, hp, e⟩ := List.mem_map.mp q
          exact (y3.z.N p (List.mem_append_left _ hp)).2.1 e
        · by_cases q : p.1 ∈ ((I, o) :: news).map (·.1)
          · exact .inl q
          · refine .inr ?_
            rcases List.mem_cons.mp hp with rfl | hp
            · cases e : s₂.heap.get? H2.objs.size with
              | none => rfl
              | some ob => exact absurd (Heap.lt_size e) (by rw [hC]; exact Nat.not_lt.mpr (Nat.le_succ _))
            · cases e : s₂.heap.get? p.1 with
              | none => rfl
              | some ob =>
                have := (y3.z.N p (List.mem_append_left _ hp)).2.2
                rw [show X'.g.get? p.1 = some ob from hin _ _ e q] at this; cases this
      have tl : TupL s₂.heap s₃.heap Γ' := fun p hp => by
        have hT := y3.z.T p hp
        have hgt : H2.objs.size < p.1 := hT.2
        exact ⟨y3.z.tup hp, hT.1, by rw [hC] at hgt; exact Nat.le_of_lt (Nat.lt_of_succ_lt hgt)⟩
      have z5 := Z.call (loc := []) y.z (y.own (loc := []) ks) kk tl
      have y5 : Y X m ((H2.objs.size, oC) :: (s₂.heap.objs.size, listOf ys.toArray c) :: nw) (Γ' ++ Γ) s₃ := by
        refine ⟨z5, ?_, y.ok⟩
        have e3 := y3.e
        have e2 := y.e
        rw [e3]
        show { s₂ with heap := s₃.heap, toks := s₃.toks } = { X.b with heap := s₃.heap, toks := s₃.toks }
        rw [e2]
      have nsC : ∀ h : Heap, h.get? H2.objs.size = some oC → h.Ns H2.objs.size m' := fun h e => by
        refine ctr fun hG265 => ?_; obtain ⟨oL, es, ep, hL, r⟩ := y3.z.F.ns; refine hG265 ?_; clear hG265
        have : s₃.heap.get? H2.objs.size = some oL := hL
        rw [hoC] at this; cases this
        exact ⟨oC, es, ep, e, r⟩
      have drop : ∀ {m2 nw2 Γ2 s4}, Y X m2 ((H2.objs.size, oC) :: nw2) Γ2 s4 → ∀ h'', Heap.SameBut H2.objs.size s4.heap h'' → Y X m2 nw2 Γ2 { s4 with heap := h'' } := fun {m2 nw2 Γ2 s4} y4 h'' hs'' => by
        have nd := y4.z.nd
        rw [List.map_cons, List.nodup_cons] at nd
        have hI := y4.z.N (H2.objs.size, oC) (.head _)
        refine ⟨⟨⟨?_, (fun b ob e' => hs''.extBut b ob (fun q => by subst q; rw [hI.2.2] at e'; cases e') (y4.z.F.keep b ob e')), y4.z.F.above⟩, fun p hp => ?_, nd.2, y4.z.T⟩, by rw [y4.e], y4.ok⟩
        · refine ctr fun hG266 => ?_; obtain ⟨oL, es, ep, hL, r⟩ := id y4.z.F.ns; refine hG266 ?_; clear hG266
          exact ⟨oL, es, ep, hs''.extBut _ _ (Ne.symm hI.2.1) hL, r⟩
        · have q := y4.z.N p (.tail _ hp)
          refine ⟨hs''.extBut _ _ (fun e' => ?_) q.1, q.2⟩
          rcases List.mem_append.mp hp with hp | hp
          · exact nd.1 (List.mem_map.mpr ⟨p, hp, e'⟩)
          · have q1 := q.1
            rw [e', hI.1] at q1
            cases q1
            exact hnC (y4.z.T p hp).1
      have hfin := K.fin
      cases use with
      | none => exact ⟨m', nsC _ hoC, fun h'' hs'' => hfin ys nw Γ' _ c _ hJ (drop y5 h'' hs'')⟩
      | some u =>
        refine wpAny_mono (hfin ys nw Γ' _ c _ _ _ hJ y5) (fun _ s4 q => ?_) fun _ _ e => e
        refine ctr fun hG267 => ?_; obtain ⟨m2, nw2, Γ2, y4, hq⟩ := q; refine hG267 ?_; clear hG267
        exact ⟨m', nsC _ (y4.z.get (.head _)), fun h'' hs'' => hq _ (drop y4 h'' hs'')⟩
  exact codeAny_compStart_list loop (K.self _ o _ _ hI0 (y'.z.get (.head _)) loop)
theorem ev_comp {elt target iter : Expr} {pos : Pos} {ifs : List Expr} {scope : Scope} {cl : List (Str × Addr)} {Q : Value → Shared → Prop}
    (h : wpAny (model X.prog X.w) X.A (eval iter X.env) (fun xv s₁ => wpAny (model X.prog X.w) X.A (pyIter xv) (fun it s₂ => ∃ m news Γ I o n It J Jf, it = .ref I ∧ Y X m ((I, o) :: news) Γ s₂ ∧ It 0 o ∧ Comp X none elt target ifs scope cl Q m news Γ I n It J Jf) E s₁) E s)
    (hclos : closureFor scope X.env = pure cl) (hkind : scope.kind = .function := by rfl) (hcell : ∀ y ∈ scope.names, y.2 ≠ .cell := by decide)
    (hnames : ∀ y ∈ scope.names, y.2 = .local → scope.names.lookup y.1 = some .local := by decide) (hs : ∀ x, foldedSetIterable iter X.env x = pure x := by intro _; rfl) :
    wpAny (model X.prog X.w) X.A (eval (.ListComp elt [⟨target, iter, ifs, 0⟩] scope pos) X.env) Q E s := by
  rw [eval_ListComp]
  exact comp_core h hclos hkind hcell hnames hs
/-- x = [..] -/
theorem y_asgcomp {x : Str} {px pos pos2 : Pos} {rest : List Stmt} {elt target iter : Expr} {ifs : List Expr} {scope : Scope} {cl : List (Str × Addr)} {Q : Flow → Shared → Prop}
    (h : wpAny (model X.prog X.w) X.A (eval iter X.env) (fun xv s₁ => wpAny (model X.prog X.w) X.A (pyIter xv) (fun it s₂ => ∃ m news Γ I o n It J Jf, it = .ref I ∧ Y X m ((I, o) :: news) Γ s₂ ∧ It 0 o ∧ Comp X (some (assign (.Name x px) X.env)) elt target ifs scope cl (fun _ s' => wpAny (model X.prog X.w) X.A (execs rest X.env) Q E s') m news Γ I n It J Jf) E s₁) E s)
    (hclos : closureFor scope X.env = pure cl) (hkind : scope.kind = .function := by rfl) (hcell : ∀ y ∈ scope.names, y.2 ≠ .cell := by decide)
    (hnames : ∀ y ∈ scope.names, y.2 = .local → scope.names.lookup y.1 = some .local := by decide) (hs : ∀ x, foldedSetIterable iter X.env x = pure x := by intro _; rfl)
    (hsw : swapsWith (.ListComp elt [⟨target, iter, ifs, 0⟩] scope pos) (some (.Name x px)) pos2.line X.env = pure true := by rfl) :
    wpAny (model X.prog X.w) X.A (execs (.Assign [.Name x px] (.ListComp elt [⟨target, iter, ifs, 0⟩] scope pos) pos2 :: rest) X.env) Q E s := by
  walk1
  rw [exec_Assign_Name_used _ _ _ _ hsw]
  refine wpAny_bind (wpAny_standAt (wpAny_bind ?_))
  show wpAny _ _ (do let _ ← comprehension (.ListComp elt [⟨target, iter, ifs, 0⟩] scope pos) scope X.env (firstIterPos [⟨target, iter, ifs, 0⟩] pos) (newList []) false (eval iter X.env) (some (assign (.Name x px) X.env))) _ _ _
  exact wpAny_bind (wpAny_mono (comp_core h hclos hkind hcell hnames hs) (fun _ s' q => wpAny_pure (wpAny_pure q)) fun _ _ e => e)
/-- the end of x = [..] -/
theorem fin_asg {x : Str} {px : Pos} {Q : Value → Shared → Prop} {n : Nat} {J : Nat → List Value → List (Addr × Obj) → List (Addr × Obj) → Prop} (hl : X.env.kindOf x = some .local) (h : ∀ ys nw Γ' D c s, J n ys nw Γ' → Y X (up x (.ref D) m) ((D, listOf ys.toArray c) :: nw) (Γ' ++ Γ) s → Q .none s) :
    CompFin X (some (assign (.Name x px) X.env)) Q m Γ n J := fun ys nw Γ' D c p s E' hJ y =>
  wpAny_assign_Name (y_store y (fun s' y' => ⟨_, _, _, y', fun s3 y3 => h ys nw Γ' D c s3 hJ y3⟩) hl)
theorem Z.dropIt {g h h' : Heap} {L I : Addr} {o : Obj} (z : Z g L h m ((I, o) :: news) Γ) (hn : ¬ IsT o) (hx : ∀ b ob, b ≠ I → h.get? b = some ob → h'.get? b = some ob) : Z g L h' m news Γ := by
  have nd := z.nd
  rw [List.map_cons, List.nodup_cons] at nd
  have hI := z.N (I, o) (.head _)
  refine ⟨⟨?_, (fun b ob e' => hx b ob (fun q => by subst q; rw [hI.2.2] at e'; cases e') (z.F.keep b ob e')), z.F.above⟩, fun p hp => ?_, nd.2, z.T⟩
  · refine ctr fun hG268 => ?_; obtain ⟨oL, es, ep, hL, r⟩ := id z.F.ns; refine hG268 ?_; clear hG268
    exact ⟨oL, es, ep, hx _ _ (Ne.symm hI.2.1) hL, r⟩
  · have q := z.N p (.tail _ hp)
    refine ⟨hx _ _ (fun e' => ?_) q.1, q.2⟩
    rcases List.mem_append.mp hp with hp | hp
    · exact nd.1 (List.mem_map.mpr ⟨p, hp, e'⟩)
    · have q1 := q.1
      rw [e', hI.1] at q1
      cases q1
      exact hn (z.T p hp).1
/-- over a list of the ledger -/
theorem comp_list {use : Option (Value → Sem Unit)} {elt : Expr} {x : Str} {px : Pos} {ifs : List Expr} {scope : Scope} {cl : List (Str × Addr)} {Q : Value → Shared → Prop} {l : Addr} {n : Nat} {J : Nat → List Value → List (Addr × Obj) → List (Addr × Obj) → Prop} (y : Y X m news Γ s)
    (noT : ∀ p ∈ news, ¬ IsT p.2) (J0 : J 0 [] news []) (JT : ∀ i ys nw Γ', J i ys nw Γ' → (∀ p ∈ nw, ¬ IsT p.2) ∧ ys.length ≤ 1000)
    (step : ∀ i ys nw Γ', J i ys nw Γ' → ∃ its k, (l, listOf its k) ∈ nw ∧ its.size = n ∧ ∀ b g C I o D c m' v s₂ E2, (∀ a ob, IsT ob → Or (Gt X.g) Γ a ob → Gt g a ob) → i < n → its[i]? = some v → Y (X.comp scope cl b g C) (up x v m') ((I, o) :: (D, listOf ys.toArray c) :: nw) Γ' s₂ →
        wpAny (model X.prog X.w) X.A (testsOf ifs (compEnvC scope cl C X.env)) (fun ok s₃ =>
        if ok = true then wpAny (model X.prog X.w) X.A (eval elt (compEnvC scope cl C X.env)) (fun r s₄ => ∃ nw' Γ'' m'', Y (X.comp scope cl b g C) m'' ((I, o) :: (D, listOf ys.toArray c) :: nw') Γ'' s₄ ∧ J (i + 1) (ys ++ [r]) nw' Γ'') E2 s₃
        else ∃ nw' Γ'' m'', Y (X.comp scope cl b g C) m'' ((I, o) :: (D, listOf ys.toArray c) :: nw') Γ'' s₃ ∧ J (i + 1) ys nw' Γ'') E2 s₂)
    (fin : CompFin X use Q m Γ n J) (hx' : scope.names.lookup x = some .local := by rfl) :
    wpAny (model X.prog X.w) X.A (pyIter (.ref l)) (fun it s₂ => ∃ m news Γ I o n It J Jf, it = .ref I ∧ Y X m ((I, o) :: news) Γ s₂ ∧ It 0 o ∧ Comp X use elt (.Name x px) ifs scope cl Q m news Γ I n It J Jf) E s := by
  refine ctr fun hG269 => ?_; obtain ⟨its, k, hm, hn, _⟩ := step _ _ _ _ J0; refine hG269 ?_; clear hG269
  refine wpAny_pyIter_list (y.z.isList hm) ⟨m, news, Γ, s.heap.objs.size, _, n, fun i o => IsLit o l i, J, J n, rfl, y.to (t := s.toks) (y.z.push _), ⟨rfl, rfl⟩, ?_⟩
  refine ⟨fun i o h => h.notT, fun s o E Q h hg hq => wpAny_pyIter_listiter (l := l) (i := 0) ⟨o, hg, h.1, h.2⟩ hq, noT, J0, JT, ?_, ?_, fun ys nw Γ' h => (JT _ _ _ _ h).1, fin⟩
  · intro b g C i ys nw Γ' o D c m' s1 E' hgT hJ hIt hlt y3
    refine ctr fun hG270 => ?_; obtain ⟨its, k, hm, hn, hst⟩ := step _ _ _ _ hJ; refine hG270 ?_; clear hG270
    have hit : s1.heap.IsListIter s.heap.objs.size l i := ⟨o, y3.z.get (.head _), hIt.1, hIt.2⟩
    have hl : s1.heap.IsList l its := y3.z.isList (.tail _ (.tail _ hm))
    have hx : its[i]? = some (its[i]'(n_ls hlt (Nat.le_of_eq hn.symm))) := by simp
    refine wpAny_pyNext_list_item hit hl hx fun h' hit' hs' => ?_
    obtain ⟨o', ho', hc', hd'⟩ := hit'
    refine ⟨_, rfl, wpAny_pure ?_⟩
    refine wpAny_assign_Name (y_store (X := X.comp scope cl b g C) (y3.to (t := s1.toks) (y3.z.setHead hIt.notT hs' ho')) (fun s₄ y4 => ?_) (lookup_relabel_local hx'))
    refine wpAny_mono (hst b g C _ o' D c m' _ s₄ _ hgT hlt hx y4) (fun ok s₅ q => ?_) fun _ _ e => e
    cases ok with
    | false =>
      rw [if_neg Bool.false_ne_true] at q ⊢
      refine ctr fun hG271 => ?_; obtain ⟨nw', Γ'', m'', y5, hJ'⟩ := q; refine hG271 ?_; clear hG271
      exact ⟨o', nw', Γ'', m'', ⟨hc', hd'⟩, y5, hJ'⟩
    | true =>
      rw [if_pos rfl] at q ⊢
      refine wpAny_mono q (fun r s₆ q => ?_) fun _ _ e => e
      refine ctr fun hG272 => ?_; obtain ⟨nw', Γ'', m'', y5, hJ'⟩ := q; refine hG272 ?_; clear hG272
      exact ⟨o', nw', Γ'', m'', ⟨hc', hd'⟩, y5, hJ'⟩
  · intro b g C ys nw Γ' o D c m' s1 E' hJ hIt y3
    refine ctr fun hG273 => ?_; obtain ⟨its, k, hm, hn, hst⟩ := step _ _ _ _ hJ; refine hG273 ?_; clear hG273
    have hit : s1.heap.IsListIter s.heap.objs.size l n := ⟨o, y3.z.get (.head _), hIt.1, hIt.2⟩
    have hl : s1.heap.IsList l its := y3.z.isList (.tail _ (.tail _ hm))
    refine wpAny_pyNext_list_end y3.ok.hh hit hl (by simp; exact Nat.le_of_eq hn) fun h' he' => ⟨rfl, _, hJ, ?_⟩
    exact y3.to (t := s1.toks) (y3.z.dropIt hIt.notT he')
theorem tests_nil {env : Env} {Q : Bool → Shared → Prop} (h : Q true s) : wpAny (model X.prog X.w) X.A (testsOf [] env) Q E s := wpAny_tests_nil h
end
end Mine
end
section
open PySem PySem.W PySem.Calls PyProof.Rows PySem.Spec
set_option Elab.async false
set_option maxRecDepth 100000
set_option maxHeartbeats 2000000
set_option linter.unusedVariables false
namespace Mine
/-- an entry with names that a comprehension shares: cells stand at L + 1, .. -/
theorem enterK {prog : Program} {w : World} {K : Frag} {A : Around} {s : Shared} {h₀ : Heap} {ks : List (Addr × Obj)} {E Q : Value → Shared → Prop}
    {name bind qual : Str} {params : Arguments} {body : List Stmt} {deco : List Expr} {ret : Option Expr} {tps : List TypeParam} {tscope : Option Scope} {spos : Pos} {scope : Scope} {st : Stmt} {f : Addr} {pos : List Value} {binds : List (Str × Value)} {cns : List (Str × Value)}
    (C : Cx K h₀) (hk : h₀.StaysIn s.heap) (hh : A.handled = none) (hu : A.units < 9800) (O : Own h₀ s.heap ks) (hf : FnAt K f qual st) (hst : st = .FunctionDef name params body deco ret tps scope tscope bind spos) (hroom : A.depth < recursionLimit)
    (hbind : ∀ cdv doc pm, bindArgs (fnOf name qual params body scope .none .none doc pm none cdv .none) ⟨pos, []⟩ = pure binds)
    (hkind' : ∀ L, ∀ x ∈ binds, scope.names.lookup x.1 = some .local ∨ (scope.names.lookup x.1 = some .cell ∧ ((cellsFrom (L + 1) scope.names []).lookup x.1).isSome = true))
    (hco : scope.isCoroutine = false) (hgen : scope.isGenerator = false) (hkk : scope.kind = .function)
    (hcs : ∀ L : Nat, ∀ i x v, cns[i]? = some (x, v) → (cellsFrom (L + 1) scope.names []).lookup x = some (L + 1 + i) ∧ ∀ cdv, bindC (envOfC qual scope L f cdv).kindOf binds (fun _ => none) x = some v)
    (h : ∀ g L h₁ tk cdv A' (cs : List (Addr × Obj)), let X : Fn := ⟨prog, w, K, A', envOfC qual scope L f cdv, s, g, L⟩; let m0 : Str → Option Value := bindL (envOfC qual scope L f cdv).kindOf binds fun _ => none;
      A'.handled = none → A'.depth = A.depth + 1 → A'.units = A.units + 3 → cs.length = cns.length → (∀ (i : Nat) (x : Str) (v : Value), cns[i]? = some (x, v) → ∃ o, cs[i]? = some (L + 1 + i, o) ∧ o.data = .cell (some v)) → (∀ p ∈ cs, ∃ v, p.2.data = .cell v) →
      Y X m0 (cs ++ ks) [] { s with heap := h₁, toks := tk } → h₀.StaysIn g → L = s.heap.objs.size → (∀ a o, s.heap.get? a = some o → a ∉ ks.map (·.1) → g.get? a = some o) →
      wpAny (model X.prog X.w) X.A (execs body X.env) (KRet Q) (fun _ _ => False) { s with heap := h₁, toks := tk }) :
    wpAny (model prog w) A (call (.ref f) pos) Q E s := by
  subst hst
  refine ctr fun hG329 => ?_; obtain ⟨oc, od, pm, cdv, doc, osl, ho, hcd⟩ := hf; refine hG329 ?_; clear hG329
  refine wpAny_call ?_
  refine codeAny_call_cells (fd := fnOf name qual params body scope .none .none doc pm none cdv .none) (body := body) (binds := binds) hroom (hk _ _ (C.X _ _ ho)) rfl (C.nolimit.keeps hk) (codeRec_of (C.X.keeps hk) hcd) rfl (hbind _ _ _) rfl (hkind' _) (fun s₁ X1 => ?_) hco hgen hkk
  obtain ⟨h₁, tk, rfl, _⟩ := X1.done
  have hin : ∀ a o, h₀.get? a = some o → a ∉ ks.map (·.1) := fun a o e q => by
    obtain ⟨p, hp, rfl⟩ := List.mem_map.mp q
    rw [O.off p hp] at e; cases e
  have hgs : (hideAll s.heap (ks.map (·.1))).objs.size = s.heap.objs.size := hideAll_size _ _
  have cell : ∀ i x v, cns[i]? = some (x, v) → ∃ o, h₁.get? (s.heap.objs.size + 1 + i) = some o ∧ o.data = .cell (some v) := fun i x v hi => by
    obtain ⟨e1, e2⟩ := hcs s.heap.objs.size i x v hi
    have := X1.cell x _ e1
    obtain ⟨o, ho, hd⟩ := this
    exact ⟨o, ho, by rw [hd]; exact congrArg Data.cell (e2 cdv)⟩
  let csO : List (Addr × Obj) := (List.range cns.length).map fun i => (s.heap.objs.size + 1 + i, (h₁.get? (s.heap.objs.size + 1 + i)).getD default)
  have hcsO : ∀ i x v, cns[i]? = some (x, v) → ∃ o, csO[i]? = some (s.heap.objs.size + 1 + i, o) ∧ o.data = .cell (some v) := fun i x v hi => by
    obtain ⟨o, ho, hd⟩ := cell i x v hi
    have hlt : i < cns.length := (List.getElem?_eq_some_iff.mp hi).1
    refine ⟨o, ?_, hd⟩
    show ((List.range cns.length).map _)[i]? = _
    rw [List.getElem?_map, List.getElem?_range hlt]
    show some (_, _) = _
    rw [ho]; rfl
  have mem : ∀ p ∈ csO, ∃ i x v o, cns[i]? = some (x, v) ∧ p = (s.heap.objs.size + 1 + i, o) ∧ h₁.get? (s.heap.objs.size + 1 + i) = some o ∧ o.data = .cell (some v) := fun p hp => by
    obtain ⟨i, hi, rfl⟩ := List.mem_map.mp hp
    have hlt := List.mem_range.mp hi
    have hxv : cns[i]? = some ((cns[i]'hlt).1, (cns[i]'hlt).2) := by rw [List.getElem?_eq_getElem hlt]
    obtain ⟨o, ho, hd⟩ := cell i _ _ hxv
    exact ⟨i, _, _, o, hxv, by rw [ho]; rfl, ho, hd⟩
  refine wpAny_mono (h (hideAll s.heap (ks.map (·.1))) s.heap.objs.size h₁ tk cdv (A.deeper (envOfC qual scope s.heap.objs.size f cdv)) csO hh rfl rfl (by simp [csO]) hcsO (fun p hp => by obtain ⟨i, x, v, o, _, rfl, _, hd⟩ := mem p hp; exact ⟨_, hd⟩)
    ⟨⟨⟨X1.toInCall.ns, fun b o e => X1.toInCall.keep b o (of_hideAll _ e), Nat.le_of_eq hgs⟩, ?_, ?_, fun _ h => nomatch h⟩, rfl, ⟨hkk, rfl, rfl, rfl, hh, C.keeps fun a o e => hideAll_get _ (hk a o e) (hin a o e), by show A.units + 3 + 64 < cLine; simp only [cLine]; exact n_lt (n_t (n_a (n_t (n_a (n_s hu (Nat.le_refl _)) (Nat.le_refl _)) (Nat.le_refl _)) (Nat.le_refl _)) (Nat.le_refl _)) (n_bl rfl)⟩⟩
    (fun a o e => hideAll_get _ (hk a o e) (hin a o e)) rfl (fun a o e n => hideAll_get _ e n)) (fun fl s' q => q) fun _ _ x => x.elim
  · rw [List.append_nil]
    intro p hp
    rcases List.mem_append.mp hp with hp | hp
    · refine ctr fun hG330 => ?_; obtain ⟨i, x, v, o, _, rfl, ho, hd⟩ := mem p hp; refine hG330 ?_; clear hG330
      refine ⟨ho, by show s.heap.objs.size + 1 + i ≠ s.heap.objs.size; lia, ?_⟩
      cases e : (hideAll s.heap (ks.map (·.1))).get? (s.heap.objs.size + 1 + i) with
      | none => rfl
      | some o' =>
        have := Heap.lt_size e
        rw [hgs] at this
        exact absurd this (by show ¬ (s.heap.objs.size + 1 + i < s.heap.objs.size); lia)
    · exact ⟨X1.toInCall.keep _ _ (O.at_ p hp), Nat.ne_of_lt (Heap.lt_size (O.at_ p hp)), hideAll_none _ (List.mem_map_of_mem hp)⟩
  · rw [List.map_append, List.nodup_append]
    refine ⟨?_, O.nd, fun a ha b hb e => ?_⟩
    · show (((List.range cns.length).map _).map _).Nodup
      rw [List.map_map]
      exact List.pairwise_map.mpr (List.pairwise_lt_range.imp fun {a b} hab e => by
        have e' : s.heap.objs.size + 1 + a = s.heap.objs.size + 1 + b := e
        lia)
    · obtain ⟨p, hp, rfl⟩ := List.mem_map.mp ha
      obtain ⟨q, hq, rfl⟩ := List.mem_map.mp hb
      refine ctr fun hG331 => ?_; obtain ⟨i, x, v, o, _, rfl, ho, hd⟩ := mem p hp; refine hG331 ?_; clear hG331
      have := Heap.lt_size (O.at_ q hq)
      rw [← e] at this
      exact absurd this (by show ¬ (s.heap.objs.size + 1 + i < s.heap.objs.size); lia)
section
variable {X : Fn} {m : Str → Option Value} {news Γ : List (Addr × Obj)}
theorem pv_cellN {x : Str} {pos : Pos} {ca : Addr} {o : Obj} {v : Value} (hm : (ca, o) ∈ news) (ho : o.data = .cell (some v)) (hc : X.env.cells.lookup x = some ca := by rfl) (hl : X.env.kindOf x = some .cell := by rfl) (hd : (x == ("__debug__" : Str)) = false := by decide) : PV X m news Γ (.Name x pos) (· = v) :=
  fun E s y => wpAny_Name (wpAny_loadName_cell y.ok.hk hl hc ⟨o, y.z.get hm, ho⟩ ⟨rfl, y⟩) hd
end
end Mine
end
section
open PySem PySem.W PySem.Calls PyProof.Rows PySem.Spec
set_option Elab.async false
set_option maxRecDepth 100000
set_option maxHeartbeats 4000000
set_option linter.unusedVariables false
namespace Mine
section
variable {X : Fn} {m : Str → Option Value} {news Γ : List (Addr × Obj)} {E : Value → Shared → Prop} {s : Shared}
theorem y_ret0 {rest : List Stmt} {pos : Pos} {Q : Flow → Shared → Prop} (h : Q (.ret .none) s) : wpAny (model X.prog X.w) X.A (execs (.Return none pos :: rest) X.env) Q E s := by
  repeat' walk1
  exact h
theorem Y.mid {a b c : List (Addr × Obj)} (y : Y X m (a ++ (b ++ c)) Γ s) : Y X m ((a ++ c) ++ b) Γ s := y.perm (by
  rw [List.append_assoc]
  exact List.Perm.append_left a List.perm_append_comm)
theorem Y.unmid {a b c : List (Addr × Obj)} (y : Y X m ((a ++ c) ++ b) Γ s) : Y X m (a ++ (b ++ c)) Γ s := y.perm (by
  rw [List.append_assoc]
  exact List.Perm.append_left a List.perm_append_comm)
end
section
variable {prog : Program} {w : World} {K : Frag} {A : Around} {E : Value → Shared → Prop} {s : Shared} {h₀ : Heap} {P : Addr → Obj → Prop} {o b : Addr} {ph : HP} {pb : BP} {H : H} {held : List V} {hks bks : List (Addr × Obj)} {Q : Value → Shared → Prop}
theorem two_noT (R : HRep prog w P o ph H hks) (B : BRep prog w P b pb H held bks) : ∀ q ∈ hks ++ bks, ¬ IsT q.2 := fun q hq => (List.mem_append.mp hq).elim (R.noT q) (B.noT q)
theorem dyings_lay (l : List Nat) : PyData.canLayAll0 ((l.map fun n : Nat => (n : Int) + 1).map .int) = true ∧ PyData.depthAll ((l.map fun n : Nat => (n : Int) + 1).map .int) ≤ 60 := ⟨PyProof.Rows.canLayAll_ints _, by rw [PyProof.Rows.depthAll_ints]; exact n_b rfl⟩
theorem vrs_ints {P : Addr → Obj → Prop} {vs : List Value} {ns : List Int} (h : IntsAre vs ns) : VRs P vs (ns.map .int) := by
  induction h with
  | nil => exact .nil
  | cons i t _ ih => exact .cons (.int i t) ih
theorem BRep.split2 (r : BRep prog w P b pb H held bks) {k : Nat} {t : T} {tp : BTP} (ht : H.ts[k]? = some t) (htp : pb.tps[k]? = some tp) : ∃ hd pre post ob ot kd s w' u st n fls c, bks = hd ++ (pre ++ ([(tp.a, listOf #[kd, .ref tp.f, s, w', u, st] n), (tp.f, listOf (List.toArray fls) c)] ++ post)) ∧
    (b, ob) ∈ hd ∧ (pb.t, ot) ∈ hd ∧ ob.IsDictOf (PySem.strKind prog w) (bkv pb) ∧ ot.IsDictOf (PySem.intKind prog w) (keyed 1 (pb.tps.map fun t => .ref t.a)) ∧
    IsS t.kind.word kd ∧ IsI t.strong s ∧ IsI t.weak w' ∧ IsI t.unowned u ∧ IsS t.st.word st ∧ VRs P fls (t.fields.map V.py) ∧
    (∀ tp' t' l', BTRep P tp' t' l' → tp'.a = tp.a → t'.name = t.name → BRep prog w P b { pb with tps := pb.tps.set k tp' } (H.set k t') held (hd ++ (pre ++ (l' ++ post)))) := by
  cases r with | mk a1 a2 a3 a4 a5 a6 a7 a8 =>
  refine ctr fun hG151 => ?_; obtain ⟨pre, l, post, rfl, q, g⟩ := a8.focus htp ht; refine hG151 ?_; clear hG151
  cases q with | @mk n c fls _ _ _ _ _ q1 q2 q3 q4 q5 q6 =>
  refine ⟨[_, _, _, _, _], pre, post, _, _, _, _, _, _, _, n, fls, c, rfl, .head _, .tail _ (.head _), a1, a2, q1, q2, q3, q4, q5, q6, ?_⟩
  intro tp' t' l' q e' e2
  have e1 : ((pb.tps.set k tp').map fun t => Value.ref t.a) = (pb.tps.map fun t => Value.ref t.a) := by
    rw [List.map_set, e']
    have : (pb.tps.map fun t => Value.ref t.a)[k]? = some (Value.ref tp.a) := by rw [List.getElem?_map, htp]; rfl
    exact set_self this
  exact .mk (p := { pb with tps := pb.tps.set k tp' }) a1 (by show Obj.IsDictOf _ _ (keyed 1 ((pb.tps.set k tp').map fun t => Value.ref t.a)); rw [e1]; exact a2) a3 a4 (by show Strs _ ((H.ts.set k t').map T.name); rw [names_set ht e2]; exact a5) a6 a7 (g tp' t' l' q)
theorem down_spec {D S : Nat} (C : Cx K h₀) (hk : h₀.StaysIn s.heap) (hh : A.handled = none) (hd : A.depth < 700) (hu : A.units < 6000) (hP : ∀ a o, P a o → s.heap.get? a = some o) (O : Own h₀ s.heap (hks ++ bks)) (R : HRep prog w P o ph H hks) (B : BRep prog w P b pb H held bks)
    (I : Inv none H (held.flatMap V.links)) (hB : Bd D S H) (hD : D ≤ 60) (hS : S ≤ 2 ^ 22) (hn : H.ts.length ≤ 60)
    (hQ : ∀ ph' pb' H' hks' bks' h' t' Γ, Kept h₀ (hks ++ bks) s.heap h' (hks' ++ bks') → TupL s.heap h' Γ → HRep prog w P o ph' H' hks' → BRep prog w P b pb' H' held bks' → Inv none H' (held.flatMap V.links) → Bd D S H' → H'.ts.length = H.ts.length → Q .none { s with heap := h', toks := t' }) :
    wpAny (model prog w) A (call (.ref 341) [.ref o, .ref b]) Q E s := by
  refine enterY (binds := [(Str.ofString "heap", .ref o), (Str.ofString "book", .ref b)]) C hk hh (Nat.lt_trans hu (by decide)) O C.KF.f341 rfl (Nat.lt_trans hd (by decide)) (fun _ _ _ => BindsTo.of_eq rfl) (locs rfl) rfl rfl rfl (by decide) ?_
  intro g L h₁ tk cdv A' X m0 hX0 hX1 hX2 y h0 hL hin
  have hPg := gt_of O hin hP
  refine ex7 B.hd fun ob ot on hls ql cc c2 bh => ?_
  have lay := dyings_lay H.dying
  have i1 : ∀ {q : Addr × Obj}, q ∈ bks → q ∈ hks ++ bks := fun h => List.mem_append_right _ h
  cases hdy : H.dying with
  | nil =>
    refine y_if_t (pb_nil (P := No) (op := .Eq) true (pv_dstr (pv_loc rfl) (i1 bh.m1) bh.hob) (i1 bh.m5) (fun _ _ _ _ h => h.elim) (vrs_ints bh.hq) lay.1 lay.2 (.inl ⟨rfl, by rw [hdy]; rfl⟩)) y fun s1 y1 => y_ret0 ?_
    rw [y1.e]
    exact hQ ph pb H hks bks _ _ [] (y1.kept h0 hin (List.Sublist.refl _) (two_noT R B)) (y1.z.tupL hL) R B I hB rfl
  | cons x dy =>
    obtain ⟨tx, htx, hstx, I1⟩ := I.begin hdy
    refine y_if_f (pb_nil (P := No) (op := .Eq) false (pv_dstr (pv_loc rfl) (i1 bh.m1) bh.hob) (i1 bh.m5) (fun _ _ _ _ h => h.elim) (vrs_ints bh.hq) lay.1 lay.2 (.inl ⟨rfl, by rw [hdy]; rfl⟩)) y fun s1 y1 => ?_
    -- book['dying'].pop(0)
    refine ex3 B.queue fun qb qbc qbf hJJ => an3 hJJ fun qba qbi qbs => ?_; clear hJJ
    rw [hdy] at qbi
    cases qbi with | @cons _ qt qb' _ qbi =>
    have hdl : dy.length ≤ 60 := by have := I.dl; rw [hdy] at this; simp at this; lia
    have hql : qb'.length = dy.length := by simpa using qbi.length
    refine y_asgeff (ev_lm1 (pv_dstr (pv_loc rfl) (i1 bh.m1) bh.hob) (i1 qba.mem) PySem.F.slot_list_pop rfl y1 fun s2 y2 => ev_pv pv_int y2 fun zv s3 e3 y3 => ?_)
    obtain ⟨u3, rfl⟩ := e3
    refine c_popAt (pre := []) (post := qb') y3 (.app qba) rfl (by simp; exact n_e hql (n_t hdl (n_b rfl))) fun s4 k4 y4 => y_store y4 fun s5 y5 => ?_
    have B1 := qbs qb' dy k4 qbi
    replace y5 : Y X _ (hks ++ qbf (listOf qb'.toArray k4)) [] s5 := y5
    generalize qbf _ = bks1 at B1 y5
    -- heap.dying.pop(0)
    refine ex3 R.queue fun qh qhc qhf hJJ => an3 hJJ fun qha qhi qhs => ?_; clear hJJ
    rw [hdy] at qhi
    cases qhi with | @cons _ qt2 qh' _ qhi =>
    have hql2 : qh'.length = dy.length := by simpa using qhi.length
    refine ex4 R.hd fun es n od lv hd0 => ?_
    refine y_expr (ev_lm1 (pv_attr (pv_loc (up_skip rfl)) (List.mem_append_left _ hd0.m1) (List.mem_append_left _ hd0.m2) hd0.er (.inr rfl) (fun ok => ok.C.a_dying)) (List.mem_append_left _ qha.mem) PySem.F.slot_list_pop rfl y5 fun s6 y6 => ev_pv pv_int y6 fun zv s7 e7 y7 => ?_)
    obtain ⟨u7, rfl⟩ := e7
    refine c_popAt (pre := []) (post := qh') y7 (.appl qha) rfl (by simp; exact n_e hql2 (n_t hdl (n_b rfl))) fun s8 k8 y8 => ?_
    have R1 := qhs qh' dy k8 qhi
    replace y8 : Y X _ (qhf (listOf qh'.toArray k8) ++ bks1) [] s8 := y8
    generalize qhf _ = hks1 at R1 y8
    clear i1 bh hd0
    -- inner = list(book['things'][number][1])
    refine ex7 B1.hd fun ob ot on hls ql cc c2 bh => ?_
    obtain ⟨tp, htp⟩ := B1.place (k := x) htx
    refine ctr fun hG157 => ?_; obtain ⟨kd, sv, wv, uv, stv, n5, c5, fls, f5, th⟩ := B1.th (k := x) htx htp; refine hG157 ?_; clear hG157
    have i1 : ∀ {q : Addr × Obj}, q ∈ bks1 → q ∈ hks1 ++ bks1 := fun h => List.mem_append_right _ h
    have hfl : fls.length = tx.fields.length := by simpa using th.k7.length
    have hfz := fsz_at htx
    have hfs := hB.sz
    have hfll := sizes_len tx.fields
    have hSS : sizeLine = 16777216 := rfl
    have hx1 : IsI ((x : Int) + 1) (.int ((x : Int) + 1) qt) := ⟨_, rfl⟩
    refine y_asgeff (ev_listL (pv_litem (its := [kd, .ref tp.f, sv, wv, uv, stv]) (n := n5) (vp := fun _ => True) (pv_ditem (pv_dstr (pv_loc (up_skip rfl)) (i1 bh.m1) bh.hob) (pv_loc up_hit) (i1 bh.m2) bh.hot (fun x e => by subst e; exact isI_is (X := X) hx1) (keyed_atB htp)) pv_int (i1 th.at_.mem) rfl (by decide) (by decide)) (fun s' y' => y'.z.isList (i1 th.t3)) y8 (n_e hfl (n_t hfll (n_t hfz (n_t hfs (n_t hS (n_b rfl)))))) fun il ic s9 y9 => y_store y9 fun s10 y10 => ?_)
    have hfv : VRs (Tp P) fls (tx.fields.map V.py) := th.k7.mono2 fun _ _ t q => ⟨q, t⟩
    refine y_for (ev_pvq (pv_loc up_hit) y10 fun s11 y11 => ?_)
    let J5 : Nat → (Str → Option Value) → List (Addr × Obj) → List (Addr × Obj) → Prop := fun i m news Γ => ∃ hk bk ph pb Hi, news = (il, listOf fls.toArray ic) :: (hk ++ bk) ∧ m "heap" = some (.ref o) ∧ m "book" = some (.ref b) ∧ m "number" = some (.int ((x : Int) + 1) qt) ∧ HRep prog w (Tp P) o ph Hi hk ∧ BRep prog w (Tp P) b pb Hi held bk ∧ Inv (some x) Hi ((tx.fields.drop i).flatMap V.links ++ held.flatMap V.links) ∧ Bd D S Hi ∧ Hi.ts.length = H.ts.length
    refine ⟨il, fls.length, J5,
      _, _, _, rfl, y11, ⟨_, _, _, _, _, rfl, up_skip (up_skip rfl), up_skip (up_skip rfl), up_skip up_hit, R1.tp, B1.tp, by simpa using I1, ⟨hB.dep, hB.sz, hB.nm⟩, rfl⟩, ?_, ?_⟩
    · intro i m news Γ hJJ; refine ex5 hJJ fun hk bk ph1 pb1 Hi hKK => an9 hKK fun hE13 mh mb mn Ri Bi Ii hBi hni => ?_; clear hJJ hKK; subst hE13
      refine ⟨_, _, .head _, by simp, fun hlt I0 oI u s12 E' ho hx y12 => as_name y12 fun s13 y13 => ?_⟩
      have hx' : fls[i]? = some u := by simpa using hx
      have hpi : i < tx.fields.length := by exact n_ls hlt (Nat.le_of_eq hfl)
      obtain ⟨u', hu1, hu2⟩ := hfv.get (i := i) (d := (tx.fields[i]).py) (by simp [hpi])
      rw [hx'] at hu1; cases hu1
      have hmem : tx.fields[i] ∈ tx.fields := List.getElem_mem _
      have hsp := sizes_mem hmem
      have hdp := hB.dep x tx htx _ hmem
      rw [List.drop_eq_getElem_cons hpi, List.flatMap_cons, List.append_assoc] at Ii
      refine ctr fun hG159 => ?_; obtain ⟨Hn, hg, In, hlv, hnn, hbd, hfn⟩ := gone_exists (x := some x) (n := H.ts.length) (n_t hn (n_b rfl)) (lives Hi.ts) _ Hi _ (Nat.le_refl _) hni Ii (hBi.mono hD hS); refine hG159 ?_; clear hG159
      have hlv2 := lives_le Hi.ts
      have hll := V.links_len (tx.fields[i])
      have hfl2 := fl_len Hi.ts 0
      have hfz2 := hBi.sz
      obtain ⟨N, hrun⟩ := hg.run (n := 0) (rest := []) (by simp only [List.append_nil]; exact n_t (n_a (n_t hll (n_t hsp (n_t hfz (n_t hfs (n_t hS (Nat.le_refl _)))))) (n_t hfl2 (n_t hfz2 (n_t hS (Nat.le_refl _))))) (Nat.le_refl _)) .nil
      rw [List.append_nil] at hrun
      refine ex4 Ri.hd fun es n od lv hd0 => ?_
      have i2 : ∀ {q : Addr × Obj}, q ∈ hk → q ∈ (I0, oI) :: (il, listOf fls.toArray ic) :: (hk ++ bk) := fun h => .tail _ (.tail _ (List.mem_append_left _ h))
      refine y_expr (ev_meth (pv_loc (up_skip mh)) (i2 hd0.m1) (i2 hd0.m2) hd0.er y13.ok.C.m_destroyed y13.ok.C.n_destroyed y13.ok.C.km_destroyed (pvs1 (pv_loc up_hit)) y13 fun vs s14 e y14 => ?_)
      obtain rfl := Va1.eq e
      have y15 := Y.mid (a := [(I0, oI), (il, listOf fls.toArray ic)]) (b := hk) (c := bk) y14
      refine destroyed_spec (P := Tp P) (v := tx.fields[i]) y15.ok.C y15.st hX0 (lvA hX1 hd) (lvC hX2 hu) (fun a o h => y15.z.old (hPg a o h.2 h.1)) hu2 (n_t hdp hD) (n_t hsp (n_t hfz (n_t hfs hS))) (y15.own Ri.noT) Ri hrun ?_
      intro ph2 hk2 h' t' Γ2 kk tl R2
      have y16 := Y.unmid (a := [(I0, oI), (il, listOf fls.toArray ic)]) (b := hk2) (c := bk) (y15.calls (t' := t') (y15.own Ri.noT) kk tl)
      refine ex7 Bi.hd fun ob ot on hls ql cc c2 bh2 => ?_
      refine y_expr (ev_call y16.ok.C.g_law_gone y16.ok.C.k_law_gone (pvs2 (pv_loc (up_skip mb)) (pv_loc up_hit)) y16 fun vs s17 e y17 => ?_)
      obtain rfl := Va2.eq e
      have y18 : Y X _ (((I0, oI) :: (il, listOf fls.toArray ic) :: hk2) ++ bk) _ s17 := y17
      refine gone_spec (lives Hi.ts + 1) (P := Tp P) (P1 := Tp P) y18.ok.C y18.st hX0 (by show A'.depth + _ < 780; exact n_lt (n_t (n_a (n_e hX1 (n_t (n_a (n_s hd (Nat.le_refl _)) (Nat.le_refl _)) (Nat.le_refl _))) (n_t (n_a (n_t hlv2 (n_e hni (n_t hn (Nat.le_refl _)))) (Nat.le_refl _)) (Nat.le_refl _))) (Nat.le_refl _)) (n_bl rfl)) (by show A'.units + _ < 6900; exact n_lt (n_t (n_a (n_e hX2 (n_t (n_a (n_s hu (Nat.le_refl _)) (Nat.le_refl _)) (Nat.le_refl _))) (n_t (n_m 4 (n_t (n_a (n_t hlv2 (n_e hni (n_t hn (Nat.le_refl _)))) (Nat.le_refl _)) (Nat.le_refl _))) (Nat.le_refl _))) (Nat.le_refl _)) (n_bl rfl)) (fun a o h => y18.z.old (hPg a o h.2 h.1)) (fun a o h => y18.z.old (hPg a o h.2 h.1)) hu2 (n_t hdp hD) (n_t hsp (n_t hfz (n_t hfs hS))) (y18.own Bi.noT) Bi hg ?_
      intro pb2 bk2 h'' t'' Γ3 kk3 tl3 B2
      have y19 := y18.calls (t' := t'') (y18.own Bi.noT) kk3 tl3
      exact y_nil ⟨_, _, _, y19, hk2, bk2, ph2, pb2, Hn, rfl, up_skip mh, up_skip mb, up_skip mn, R2, B2, In, hbd _ _ hBi, hnn⟩
    · intro m news Γ s12 hJJ; refine ex5 hJJ fun hk bk ph1 pb1 Hi hKK => an9 hKK fun hE14 mh mb mn Ri Bi Ii hBi hni => ?_; clear hJJ hKK; subst hE14; intro y12
      rw [hfl, List.drop_length] at Ii
      simp only [List.flatMap_nil, List.nil_append] at Ii
      obtain ⟨tz, htz, hstz, hndz⟩ := Ii.xs x rfl
      refine ex4 Ri.hd fun es n od lv hd0 => ?_
      have i2 : ∀ {q : Addr × Obj}, q ∈ hk → q ∈ (il, listOf fls.toArray ic) :: (hk ++ bk) := fun h => .tail _ (List.mem_append_left _ h)
      refine y_expr (ev_meth (pv_loc mh) (i2 hd0.m1) (i2 hd0.m2) hd0.er y12.ok.C.m_buried y12.ok.C.n_buried y12.ok.C.km_buried (pvs1 (pv_loc mn)) y12 fun vs s13 e y13 => ?_)
      obtain rfl := Va1.eq e
      have y15 := Y.mid (a := [(il, listOf fls.toArray ic)]) (b := hk) (c := bk) y13
      refine buried_spec (P := Tp P) y15.ok.C y15.st hX0 (lvA hX1 hd) (lvC hX2 hu) (y15.own Ri.noT) Ri htz hx1 (by rw [hstz]; exact Sta.noConfusion) ?_
      intro ph2 hk2 h' t' kk R2
      have y16 := Y.unmid (a := [(il, listOf fls.toArray ic)]) (b := hk2) (c := bk) (y15.callK (t' := t') Ri.noT kk)
      obtain ⟨tp, htp⟩ := Bi.place htz
      refine ctr fun hG165 => ?_; obtain ⟨hdl2, pre, post, ob, ot, kd, sv, wv, uv, stv, n6, fls6, cf, rfl, hm1, hm2, hob, hot, k1, k3, k4, k5, k6, k7, hset⟩ := Bi.split2 htz htp; refine hG165 ?_; clear hG165
      have y17 : Y X m ((il, listOf fls.toArray ic) :: (hk2 ++ (hdl2 ++ (pre ++ ([(tp.a, listOf #[kd, .ref tp.f, sv, wv, uv, stv] n6), (tp.f, listOf fls6.toArray cf)] ++ post))))) Γ { s13 with heap := h', toks := t' } := y16
      have i3 : ∀ {q z : Addr × Obj} {r : List (Addr × Obj)}, q ∈ hdl2 → q ∈ z :: (il, listOf fls.toArray ic) :: (hk2 ++ (hdl2 ++ r)) := fun h => .tail _ (.tail _ (List.mem_append_right _ (List.mem_append_left _ h)))
      refine y_asgTup (ev_tup2E (ev_list pvs_nil y17 (by decide) (fun vs e => by subst e; rfl) fun vs nl s19 e19 y19 => ev_pv pv_str y19 fun nv2 s20 e20 y20 => ⟨_, _, _, y20, fun tq s21 y21 => as_tup2 y21 (TT.mk (.inr (.head _)) rfl rfl) fun s22 y22 => ?_⟩))
      subst e19
      refine as_sub (ev_pvq (pv_ditem (pv_dstr (pv_loc mb) (i3 hm1) hob) (pv_loc mn) (i3 hm2) hot (fun x e => by subst e; exact isI_is (X := X) hx1) (keyed_atB htp)) y22 fun s24 y24 => ev_pv pv_int y24 fun iv s25 e25 y25 => ?_)
      obtain ⟨u5, rfl⟩ := e25
      refine c_lset (its := #[kd, .ref tp.f, sv, wv, uv, stv]) (n := n6) y25 (.tail (.tail (.app (.app (.app (.appl .head)))))) (by decide) (by show (1 : Int) < 6; decide) (by decide) fun s26 c26 y26 => ?_
      refine as_sub (ev_pvq (pv_ditem (pv_dstr (pv_loc mb) (i3 hm1) hob) (pv_loc mn) (i3 hm2) hot (fun x e => by subst e; exact isI_is (X := X) hx1) (keyed_atB htp)) y26 fun s27 y27 => ev_pv pv_int y27 fun iv s28 e28 y28 => ?_)
      obtain ⟨u6, rfl⟩ := e28
      refine c_lset (its := #[kd, .ref nl, sv, wv, uv, stv]) (n := c26) y28 (.tail (.tail (.app (.app (.app (.appl .head)))))) (by decide) (by show (5 : Int) < 6; decide) (by decide) fun s29 c29 y29 => ?_
      have B2 := hset { tp with f := nl } { tz with fields := [], st := .gone } _ (.mk (n := c29) (c := 0) (fl := []) k1 k3 k4 k5 e20 .nil) rfl rfl
      have e30 : ((il, listOf fls.toArray ic) :: (hk2 ++ hdl2)) ++ (pre ++ ([(tp.a, listOf #[kd, .ref nl, sv, wv, uv, nv2] c29), (tp.f, listOf fls6.toArray cf)] ++ post)) = (il, listOf fls.toArray ic) :: (hk2 ++ (hdl2 ++ (pre ++ ([(tp.a, listOf #[kd, .ref nl, sv, wv, uv, nv2] c29), (tp.f, listOf fls6.toArray cf)] ++ post)))) := by simp
      obtain ⟨Γ9, y30⟩ : ∃ Γ9, Y X m ((nl, listOf #[] 0) :: (((il, listOf fls.toArray ic) :: (hk2 ++ hdl2)) ++ (pre ++ ([(tp.a, listOf #[kd, .ref nl, sv, wv, uv, nv2] c29), (tp.f, listOf fls6.toArray cf)] ++ post)))) Γ9 s29 := by
        rw [e30]; exact ⟨_, y29⟩
      have y31 := (y30.perm (perm_in3 ((il, listOf fls.toArray ic) :: (hk2 ++ hdl2)) pre post (tp.a, listOf #[kd, .ref nl, sv, wv, uv, nv2] c29) (tp.f, listOf fls6.toArray cf) (nl, listOf #[] 0)).symm).sub (List.sublist_cons_self _ _)
      rw [show ((il, listOf fls.toArray ic) :: (hk2 ++ hdl2)) ++ (pre ++ ([(tp.a, listOf #[kd, .ref nl, sv, wv, uv, nv2] c29), (nl, listOf #[] 0)] ++ post)) = (il, listOf fls.toArray ic) :: (hk2 ++ (hdl2 ++ (pre ++ ([(tp.a, listOf #[kd, .ref nl, sv, wv, uv, nv2] c29), (nl, listOf #[] 0)] ++ post)))) by simp] at y31
      have y32 := y31.sub (List.sublist_cons_self _ _)
      refine y_nil ?_
      rw [y32.e]
      have Bf : BRep prog w (Tp P) b { pb1 with tps := pb1.tps.set x { tp with f := nl } } (Hi.bury x tz) held _ := B2
      exact hQ _ _ _ _ _ _ _ _ (y32.kept h0 hin (List.Sublist.refl _) (two_noT R2 Bf)) (y32.z.tupL hL) R2.pt Bf.pt (Ii.finish htz) (hBi.put (t' := { tz with fields := [], st := .gone }) htz (.inr rfl)) (by show (Hi.ts.set x _).length = _; rw [List.length_set]; exact hni)
end
end Mine
end
section
open PySem PySem.W PySem.Calls PyProof.Rows PySem.Spec
set_option Elab.async false
set_option maxRecDepth 100000
set_option maxHeartbeats 4000000
set_option linter.unusedVariables false
set_option rowWalk.seconds 0
namespace Mine
section
variable {X : Fn} {m : Str → Option Value} {news Γ : List (Addr × Obj)} {E : Value → Shared → Prop} {s : Shared} {D : Addr} {its : Array Value} {n : Nat} {f : Obj → List (Addr × Obj)}
theorem ev_listS {es : List Expr} {pos : Pos} {Q : Value → Shared → Prop} (h : ∀ pos, wpAny (model X.prog X.w) X.A (spliced (backTo pos (starEach es X.env))) (fun vs s1 => ∃ m news Γ, Y X m news Γ s1 ∧ vs.length ≤ 1000 ∧ ∀ t s2, Y X m ((t, listOf vs.toArray 0) :: news) Γ s2 → Q (.ref t) s2) E s) : wpAny (model X.prog X.w) X.A (eval (.List es pos) X.env) Q E s := by
  repeat' walk1
  exact wpAny_mono (h _) (fun vs s' q => by
    refine ctr fun hG131 => ?_; obtain ⟨m, news, Γ, y, hl, hq⟩ := q; refine hG131 ?_; clear hG131
    exact z_list y.z (fun t h' z' => hq t _ (y.to z')) (Nat.le_trans hl (Nat.le_of_ble_eq_true rfl))) fun _ _ x => x
/-- sorted(d1) != sorted(d2), the keys alike -/
theorem pb_sorted {e1 e2 : Expr} {d1 d2 : Addr} {o1 o2 : Obj} {v1 v2 : List Value} {p1 p2 p3 p4 p5 : Pos} (h1 : PV X m news Γ e1 (· = .ref d1)) (hm1 : (d1, o1) ∈ news) (hd1 : o1.IsDictOf (PySem.intKind X.prog X.w) (keyed 1 v1)) (lo1 : (d1 == sysModules) = false) (h64 : v1.length < 64)
    (h2 : ∀ q, PV X m (q :: news) Γ e2 (· = .ref d2)) (hm2 : (d2, o2) ∈ news) (hd2 : o2.IsDictOf (PySem.intKind X.prog X.w) (keyed 1 v2)) (lo2 : (d2 == sysModules) = false) (hl : v2.length = v1.length)
    (h0 : X.env.kindOf "sorted" = some .globalImplicit := by rfl) (he1 : starEach [e1] X.env = (false, eval e1 X.env) :: starEach [] X.env := by rfl) (he2 : starEach [e2] X.env = (false, eval e2 X.env) :: starEach [] X.env := by rfl) (hmk : behindInMarks .NotEq (.Call (.Name (Str.ofString "sorted") p3) [e2] [] p4) = false := by with_unfolding_all rfl) :
    PB X m news Γ (.Compare (.Call (.Name (Str.ofString "sorted") p1) [e1] [] p2) [.NotEq] [.Call (.Name (Str.ofString "sorted") p3) [e2] [] p4] p5) false := by
  intro E s y
  refine wpAny_isTrue_Compare1 (ev_sortedD h1 hm1 hd1 lo1 h64 y (fun D vs c s1 hv y1 => ev_sortedD (h2 _) (.tail _ hm2) hd2 lo2 (n_le hl h64) y1 (fun D2 vs2 c2 s2 hv2 y2 => ?_) h0 he2) h0 he1) hmk
  rw [hl] at hv2
  obtain ⟨as, q1⟩ := reads_list (P := No) (fun _ _ h => h.elim) (y2.z.get (.tail _ (.head _))) (vrs_ints hv)
  obtain ⟨bs, q2⟩ := reads_list (P := No) (fun _ _ h => h.elim) (y2.z.get (.head _)) (vrs_ints hv2)
  have sh : PySem.SeqAt.shaped (.list ((nums v1.length).map .int)) = true := lay_list (PyProof.Rows.canLayAll_ints _) (by rw [PyProof.Rows.depthAll_ints]; exact n_b rfl)
  refine ne_dataH q1 q2 sh sh y.ok.hu ?_
  rw [eqv_refl0 _ (by rw [canLay_list]; exact PyProof.Rows.canLayAll_ints _)]
  exact wpAny_truthy_bool ⟨rfl, y2.sub (.cons _ (.cons _ (List.Sublist.refl _)))⟩
end
theorem Strs.get {vs : List Value} {xs : List Str} (h : Strs vs xs) {i : Nat} {x : Str} (hx : xs[i]? = some x) : ∃ t, vs[i]? = some (.str x t) := by
  induction h generalizing i with
  | nil => cases hx
  | cons _ ih =>
    cases i with
    | zero => cases hx; exact ⟨_, rfl⟩
    | succ i => exact ih hx
theorem Strs.length {vs : List Value} {xs : List Str} (h : Strs vs xs) : vs.length = xs.length := by
  induction h with
  | nil => rfl
  | cons _ ih => simp [ih]
section
variable {prog : Program} {w : World} {K : Frag} {A : Around} {E : Value → Shared → Prop} {s : Shared} {h₀ : Heap} {P : Addr → Obj → Prop} {o b : Addr} {ph : HP} {pb : BP} {H : H} {held : List V} {hks bks : List (Addr × Obj)} {Q : Value → Shared → Prop}
theorem BRep.nms (B : BRep prog w P b pb H held bks) : ∃ on nms, (pb.n, on) ∈ bks ∧ on.IsDictOf (PySem.intKind prog w) (keyed 1 nms) ∧ Strs nms (H.ts.map T.name) := by
  cases B with | mk a1 a2 a3 a4 a5 a6 a7 a8 => exact ⟨_, _, .tail _ (.tail _ (.head _)), a3, a5⟩
theorem told_lay (ts : List T) (h : ∀ t ∈ ts, PyData.canLay0 (.str t.name) = true) : PyData.canLayAll0 (toldOf ts) = true ∧ PyData.depthAll (toldOf ts) ≤ 1 := by
  have key : ∀ l : List T, (∀ t ∈ l, PyData.canLay0 (.str t.name) = true) → PyData.canLayAll0 (l.map T.told) = true ∧ PyData.depthAll (l.map T.told) ≤ 1 := by
    intro l hl
    induction l with
    | nil => simp [PyData.canLayAll0, PyData.depthAll]
    | cons t r ih =>
      have h1 := hl t (.head _)
      have h2 := ih fun u hu => hl u (.tail _ hu)
      have h3 : PyData.canLay0 (.str t.kind.word) = true := by cases t.kind <;> decide +kernel
      simp only [List.map_cons, PyData.canLayAll0, T.told, PyData.canLay0, PyData.depthAll, PyData.depth] at h1 h2 h3 ⊢
      refine ⟨by rw [h1, h2.1, h3]; rfl, by have := h2.2; lia⟩
  exact key _ fun t ht => h t (List.mem_filter.mp ht).1
theorem agrees_spec (C : Cx K h₀) (hk : h₀.StaysIn s.heap) (hh : A.handled = none) (hd : A.depth < 880) (hu : A.units < 7800) (hP : ∀ a o, P a o → s.heap.get? a = some o) (O : Own h₀ s.heap (hks ++ bks)) (R : HRep prog w P o ph H hks) (B : BRep prog w P b pb H held bks)
    (hn : H.ts.length < 64) (hdep : ∀ (k : Nat) (t : T), H.ts[k]? = some t → ∀ u ∈ t.fields, V.dep u ≤ 50) (hsz : fsz H.ts ≤ 2 ^ 22) (hnm : ∀ t ∈ H.ts, PyData.canLay0 (.str t.name) = true) (hdl : H.dying.length ≤ 1000)
    (hQ : ∀ h' t' Γ, Kept h₀ (hks ++ bks) s.heap h' (hks ++ bks) → TupL s.heap h' Γ → Q (.bool true) { s with heap := h', toks := t' }) :
    wpAny (model prog w) A (call (.ref 288) [.ref o, .ref b]) Q E s := by
  refine enterY (binds := [(Str.ofString "heap", .ref o), (Str.ofString "book", .ref b)]) C hk hh (Nat.lt_trans hu (by decide)) O C.KF.f288 rfl (Nat.lt_trans hd (by decide)) (fun _ _ _ => BindsTo.of_eq rfl) (locs rfl) rfl rfl rfl (by decide) ?_
  intro g L h₁ tk cdv A' X m0 hX0 hX1 hX2 y h0 hL hin
  have hPg := gt_of O hin hP
  refine ex7 B.hd fun ob ot on hls ql cc c2 bh => ?_
  refine ex4 R.hd fun es n od lv hd0 => ?_
  refine ex3 R.queue fun qh qhc qhf hJJ => an3 hJJ fun qha qhi qhs => ?_; clear hJJ
  have iH : ∀ {q : Addr × Obj}, q ∈ hks → q ∈ hks ++ bks := fun h => List.mem_append_left _ h
  have iB : ∀ {q : Addr × Obj}, q ∈ bks → q ∈ hks ++ bks := fun h => List.mem_append_right _ h
  have hbl := bh.hlen
  have hhl := hd0.hlen
  have eqd : ∀ x z s1 E1, x = Value.ref ph.q → z = Value.ref pb.q → Y X (fun y => List.lookup y [(Str.ofString "heap", Value.ref o), (Str.ofString "book", Value.ref b)].reverse) (hks ++ bks) [] s1 → wpAny (model X.prog X.w) X.A (compareOp .NotEq x z) (fun v s' => v = .bool false ∧ Y X (fun y => List.lookup y [(Str.ofString "heap", Value.ref o), (Str.ofString "book", Value.ref b)].reverse) (hks ++ bks) [] s') E1 s1 := by
    intro x z s1 E1 e1 e2 y1
    subst e1 e2
    obtain ⟨as, q1⟩ := reads_list (P := No) (fun _ _ h => h.elim) (y1.z.get (iH qha.mem)) (vrs_ints qhi)
    obtain ⟨bs, q2⟩ := reads_list (P := No) (fun _ _ h => h.elim) (y1.z.get (iB bh.m5)) (vrs_ints bh.hq)
    have lay := dyings_lay H.dying
    have sh := lay_list lay.1 lay.2
    refine ne_dataH q1 q2 sh sh y1.ok.hu ?_
    rw [eqv_refl0 _ (by rw [canLay_list]; exact lay.1)]
    exact ⟨rfl, y1⟩
  have hS : sizeLine = 16777216 := rfl
  refine y_if_f (pb_or2_fr (pb_cmp (pv_attr (pv_loc rfl) (iH hd0.m1) (iH hd0.m2) hd0.er (.inr rfl) (fun ok => ok.C.a_dying)) (pv_dstr (pv_loc rfl) (iB bh.m1) bh.hob) eqd)
    (pb_sorted (pv_attr (pv_loc rfl) (iH hd0.m1) (iH hd0.m2) hd0.er (.inr rfl) (fun ok => ok.C.a_things)) (iH hd0.m3) hd0.hod hd0.lo (by rw [List.length_map]; exact n_le hhl hn) (fun q => pv_dstr (pv_loc rfl) (.tail _ (iB bh.m1)) bh.hob) (iB bh.m2) bh.hot bh.lo (by rw [List.length_map, List.length_map]; exact hbl.trans hhl.symm))) y fun s1 y1 => ?_
  -- each thing
  refine y_for (ev_sortedD (pv_dstr (pv_loc rfl) (iB bh.m1) bh.hob) (iB bh.m2) bh.hot bh.lo (by rw [List.length_map]; exact n_le hbl hn) y1 fun sl svs sc s3 hsv y3 => ?_)
  rw [List.length_map, hbl] at hsv
  have hsl : svs.length = H.ts.length := by rw [hsv.length, nums_length]
  let J6 : Nat → (Str → Option Value) → List (Addr × Obj) → List (Addr × Obj) → Prop := fun i m news Γ => news = (sl, listOf svs.toArray sc) :: (hks ++ bks) ∧ m "heap" = some (.ref o) ∧ m "book" = some (.ref b)
  refine ⟨sl, svs.length, J6, _, _, _, rfl, y3, ⟨rfl, rfl, rfl⟩, ?_, ?_⟩
  · rintro i m news Γ ⟨rfl, mh, mb⟩
    refine ⟨_, _, .head _, by simp, fun hlt I oI u s7 E' ho hx y7 => as_name y7 fun s8 y8 => ?_⟩
    have hpi : i < H.ts.length := by exact n_ls hlt (Nat.le_of_eq hsl)
    obtain ⟨ut, hu'⟩ := hsv.get i _ (nums_get hpi)
    have hx' : svs[i]? = some u := by simpa using hx
    rw [hx'] at hu'; cases hu'
    have ht : H.ts[i]? = some H.ts[i] := by simp [hpi]
    obtain ⟨tp, htp⟩ := R.place ht
    obtain ⟨bp, hbp⟩ := B.place ht
    refine ex8 (R.th ht htp) fun es2 n2 kd nm sv wv uv stv th => ?_
    refine ex2 (R.flds ht htp) fun fl fc hJJ => an2 hJJ fun hfm hfv => ?_; clear hJJ
    refine ctr fun hG136 => ?_; obtain ⟨kd2, sv2, wv2, uv2, stv2, n3, c3, fls, f3, bt⟩ := B.th ht hbp; refine hG136 ?_; clear hG136
    have jH : ∀ {q : Addr × Obj}, q ∈ hks → q ∈ (I, oI) :: (sl, listOf svs.toArray sc) :: (hks ++ bks) := fun h => .tail _ (.tail _ (iH h))
    have jB : ∀ {q : Addr × Obj}, q ∈ bks → q ∈ (I, oI) :: (sl, listOf svs.toArray sc) :: (hks ++ bks) := fun h => .tail _ (.tail _ (iB h))
    refine y_asgT2 (ev_tup (pvs2 (pv_ditem (pv_attr (pv_loc (up_skip mh)) (jH hd0.m1) (jH hd0.m2) hd0.er (.inr rfl) fun ok => ok.C.a_things) (pv_loc up_hit) (jH hd0.m3) hd0.hod (fun x e => by subst e; exact isI_is (X := X) ⟨_, rfl⟩) (keyed_at htp))
      (pv_ditem (pv_dstr (pv_loc (up_skip mb)) (jB bh.m1) bh.hob) (pv_loc up_hit) (jB bh.m2) bh.hot (fun x e => by subst e; exact isI_is (X := X) ⟨_, rfl⟩) (keyed_atB hbp))) y8 (by decide) (fun vs e => by obtain ⟨_, _, rfl, _⟩ := e; rfl) fun vs t s9 e y9 => ?_)
    refine ctr fun hG137 => ?_; obtain ⟨_, _, rfl, rfl, rfl⟩ := e; refine hG137 ?_; clear hG137
    refine ⟨t, _, _, _, _, _, rfl, TT.mk (.inr (.head _)) rfl rfl, y9, fun s10 y10 => ?_⟩
    have hfll : fl.length = (H.ts[i]).fields.length := by simpa using hfv.length
    have hfz := fsz_at ht
    have hfl2 := sizes_len (H.ts[i]).fields
    have lay := vals_lay (H.ts[i]).fields 50 (hdep i _ ht)
    refine y_if_f (fun E2 s2 y2 => wpAny_isTrue_Compare1 (ev_listS fun pos =>
      spliced_more (ev_pv (pv_attrS (pv_loc up_hit) (jH th.t1) (jH th.t2) th.er (.inl rfl) (fun ok => ok.C.a_kind) th.k1) y2 fun x1 s11 e11 y11 =>
      spliced_more (ev_listL (pv_attr (pv_loc up_hit) (jH th.t1) (jH th.t2) th.er (.inl rfl) (fun ok => ok.C.a_fields)) (fun s' y' => y'.z.isList (jH hfm)) y11 (n_e hfll (n_t hfl2 (n_t hfz (n_t hsz (n_b rfl))))) fun l2 c2 s12 y12 =>
      spliced_more (ev_pv (pv_attrI (pv_loc up_hit) (.tail _ (jH th.t1)) (.tail _ (jH th.t2)) th.er (.inl rfl) (fun ok => ok.C.a_strong) th.k3) y12 fun x3 s13 e13 y13 =>
      spliced_more (ev_pv (pv_attrI (pv_loc up_hit) (.tail _ (jH th.t1)) (.tail _ (jH th.t2)) th.er (.inl rfl) (fun ok => ok.C.a_weak) th.k4) y13 fun x4 s14 e14 y14 =>
      spliced_more (ev_pv (pv_attrI (pv_loc up_hit) (.tail _ (jH th.t1)) (.tail _ (jH th.t2)) th.er (.inl rfl) (fun ok => ok.C.a_unowned) th.k5) y14 fun x5 s15 e15 y15 =>
      spliced_more (ev_pv (pv_attrS (pv_loc up_hit) (.tail _ (jH th.t1)) (.tail _ (jH th.t2)) th.er (.inl rfl) (fun ok => ok.C.a_state) th.k6) y15 fun x6 s16 e16 y16 => spliced_none ⟨_, _, _, y16, Nat.le_of_ble_eq_true rfl, fun l6 s17 y17 => ev_pv (pv_loc (up_skip up_hit)) y17 fun _ s18 e18 y18 => ?_⟩)))))))) y10 fun s19 y19 => y_nil ?_
    · subst e18
      obtain ⟨a1, rfl⟩ := e11
      obtain ⟨a3, rfl⟩ := e13
      obtain ⟨a4, rfl⟩ := e14
      obtain ⟨a5, rfl⟩ := e15
      obtain ⟨a6, rfl⟩ := e16
      obtain ⟨b1, rfl⟩ := bt.k1
      obtain ⟨b3, rfl⟩ := bt.k3
      obtain ⟨b4, rfl⟩ := bt.k4
      obtain ⟨b5, rfl⟩ := bt.k5
      obtain ⟨b6, rfl⟩ := bt.k6
      have hPr : ∀ a o, Tp P a o → s18.heap.get? a = some o := fun a o h => y18.z.old (hPg a o h.2 h.1)
      obtain ⟨as, q1⟩ := reads_list hPr (y18.z.get (.tail _ (.head _))) (hfv.mono2 fun _ _ t q => ⟨q, t⟩)
      obtain ⟨bs, q2⟩ := reads_list hPr (y18.z.get (.tail _ (.tail _ (jB bt.t3)))) (bt.k7.mono2 fun _ _ t q => ⟨q, t⟩)
      have r1 : ∃ as, Reads s18.heap (.ref l6) (.list [.str (H.ts[i]).kind.word, .list ((H.ts[i]).fields.map V.py), .int (H.ts[i]).strong, .int (H.ts[i]).weak, .int (H.ts[i]).unowned, .str (H.ts[i]).st.word]) as :=
        ⟨_, .list (y18.z.get (.head _)) rfl rfl (.cons (.str _ _) (.cons q1 (.cons (.int _ _) (.cons (.int _ _) (.cons (.int _ _) (.cons (.str _ _) .nil))))))⟩
      have r2 : ∃ as, Reads s18.heap (.ref bp.a) (.list [.str (H.ts[i]).kind.word, .list ((H.ts[i]).fields.map V.py), .int (H.ts[i]).strong, .int (H.ts[i]).weak, .int (H.ts[i]).unowned, .str (H.ts[i]).st.word]) as :=
        ⟨_, .list (y18.z.get (.tail _ (.tail _ (jB bt.at_.mem)))) rfl rfl (.cons (.str _ _) (.cons q2 (.cons (.int _ _) (.cons (.int _ _) (.cons (.int _ _) (.cons (.str _ _) .nil))))))⟩
      obtain ⟨as1, q3⟩ := r1
      obtain ⟨as2, q4⟩ := r2
      have k1 : PyData.canLay0 (.str (H.ts[i]).kind.word) = true := by cases (H.ts[i]).kind <;> decide +kernel
      have k6 : PyData.canLay0 (.str (H.ts[i]).st.word) = true := by cases (H.ts[i]).st <;> decide +kernel
      have hall : PyData.canLayAll0 [.str (H.ts[i]).kind.word, .list ((H.ts[i]).fields.map V.py), .int (H.ts[i]).strong, .int (H.ts[i]).weak, .int (H.ts[i]).unowned, .str (H.ts[i]).st.word] = true := by
        simp only [PyData.canLayAll0, Bool.and_eq_true]
        exact ⟨k1, by rw [canLay_list]; exact lay.1, rfl, rfl, rfl, k6, trivial⟩
      have sh := lay_list hall (by
        simp only [PyData.depthAll, PyData.depth]
        have := lay.2
        lia)
      refine ne_dataH q3 q4 sh sh y18.ok.hu ?_
      rw [eqv_refl0 _ (by rw [canLay_list]; exact hall)]
      exact wpAny_truthy_bool ⟨rfl, y18.sub (.cons _ (.cons _ (List.Sublist.refl _)))⟩
    · exact ⟨_, _, _, y19, rfl, up_skip (up_skip (up_skip mh)), up_skip (up_skip (up_skip mb))⟩
  · rintro m news Γ s7 ⟨rfl, mh, mb⟩ y7
    refine ex2 B.nms fun on nms hJJ => an3 hJJ fun hnm1 hon hns => ?_; clear hJJ
    have hnl : nms.length = H.ts.length := by simpa using hns.length
    have y7' := y7.sub (List.sublist_cons_self _ _)
    refine y_asgeff (ev_list pvs_nil y7' (by decide) (fun vs e => by subst e; rfl) fun vs fl s8 e y8 => y_store y8 fun s9 y9 => ?_)
    subst e
    refine y_for (ev_sortedD (pv_dstr (pv_loc (up_skip mb)) (.tail _ (iB bh.m1)) bh.hob) (.tail _ (iB bh.m2)) bh.hot bh.lo (by rw [List.length_map]; exact n_le hbl hn) y9 fun sl svs sc s10 hsv y10 => ?_)
    rw [List.length_map, hbl] at hsv
    have hsl : svs.length = H.ts.length := by rw [hsv.length, nums_length]
    let J7 : Nat → (Str → Option Value) → List (Addr × Obj) → List (Addr × Obj) → Prop := fun i m news Γ => ∃ its c1, news = (sl, listOf svs.toArray sc) :: (fl, listOf its c1) :: (hks ++ bks) ∧ m "heap" = some (.ref o) ∧ m "book" = some (.ref b) ∧ m "left" = some (.ref fl) ∧ VRs (Or No Γ) its.toList (toldOf (H.ts.take i))
    refine ⟨sl, svs.length, J7,
      _, _, _, rfl, y10, ⟨#[], 0, rfl, up_skip mh, up_skip mb, up_hit, .nil⟩, ?_, ?_⟩
    · intro i m news Γ hJJ; refine ex2 hJJ fun its c1 hKK => an5 hKK fun hE15 mh mb mf hi => ?_; clear hJJ hKK; subst hE15
      refine ⟨_, _, .head _, by simp, fun hlt I oI u s7 E' ho hx y7 => as_name y7 fun s8 y8 => ?_⟩
      have hpi : i < H.ts.length := by exact n_ls hlt (Nat.le_of_eq hsl)
      obtain ⟨ut, hu'⟩ := hsv.get i _ (nums_get hpi)
      have hx' : svs[i]? = some u := by simpa using hx
      rw [hx'] at hu'; cases hu'
      have ht : H.ts[i]? = some H.ts[i] := by simp [hpi]
      obtain ⟨bp, hbp⟩ := B.place ht
      refine ctr fun hG140 => ?_; obtain ⟨kd2, sv2, wv2, uv2, stv2, n3, c3, fls, f3, bt⟩ := B.th ht hbp; refine hG140 ?_; clear hG140
      obtain ⟨nt, hnt⟩ := hns.get (i := i) (x := (H.ts[i]).name) (by rw [List.getElem?_map, ht]; rfl)
      have hnk : valueAt (keyed 1 nms) ((i : Int) + 1) = some (.str (H.ts[i]).name nt) := by
        have := keyed_get nms 1 i
        rw [hnt] at this
        exact this
      have i3 : ∀ {q : Addr × Obj}, q ∈ bks → q ∈ (I, oI) :: (sl, listOf svs.toArray sc) :: (fl, listOf its c1) :: (hks ++ bks) := fun h => .tail _ (.tail _ (.tail _ (iB h)))
      have hsn : toldOf (H.ts.take (i + 1)) = toldOf (H.ts.take i) ++ (if H.ts[i].st.isGone then [] else [H.ts[i].told]) := by
        rw [List.take_succ_eq_append_getElem hpi, toldOf_snoc]
      have hil := hi.length
      have h5 := toldOf_length (H.ts.take i)
      rw [List.length_take] at h5
      cases hG : H.ts[i].st.isGone with
      | true =>
        refine y_if_f (pb_nes ((pv_litem (its := [kd2, .ref bp.f, sv2, wv2, uv2, stv2]) (n := n3) (vp := fun _ => True) (pv_ditem (pv_dstr (pv_loc (up_skip mb)) (i3 bh.m1) bh.hob) (pv_loc up_hit) (i3 bh.m2) bh.hot (fun x e => by subst e; exact isI_is (X := X) ⟨_, rfl⟩) (keyed_atB hbp)) pv_int (i3 bt.at_.mem) rfl (by decide) (by decide)).mono fun v e => by subst e; exact bt.k6) pv_str (by rw [gone_word, hG]; rfl)) y8 fun s9 y9 => y_nil ?_
        exact ⟨_, _, _, y9, its, c1, rfl, up_skip mh, up_skip mb, up_skip mf, by rw [hsn, hG]; simpa using hi⟩
      | false =>
        refine y_if_t (pb_nes ((pv_litem (its := [kd2, .ref bp.f, sv2, wv2, uv2, stv2]) (n := n3) (vp := fun _ => True) (pv_ditem (pv_dstr (pv_loc (up_skip mb)) (i3 bh.m1) bh.hob) (pv_loc up_hit) (i3 bh.m2) bh.hot (fun x e => by subst e; exact isI_is (X := X) ⟨_, rfl⟩) (keyed_atB hbp)) pv_int (i3 bt.at_.mem) rfl (by decide) (by decide)).mono fun v e => by subst e; exact bt.k6) pv_str (by rw [gone_word, hG]; rfl)) y8 fun s9 y9 => ?_
        refine y_expr (ev_lmeth1 (pv_loc (up_skip mf)) (.tail (.tail .head)) PySem.F.slot_list_append rfl y9 fun s10 y10 => ev_tup (pvs2
          ((pv_litem (its := [kd2, .ref bp.f, sv2, wv2, uv2, stv2]) (n := n3) (vp := fun _ => True) (pv_ditem (pv_dstr (pv_loc (up_skip mb)) (i3 bh.m1) bh.hob) (pv_loc up_hit) (i3 bh.m2) bh.hot (fun x e => by subst e; exact isI_is (X := X) ⟨_, rfl⟩) (keyed_atB hbp)) pv_int (i3 bt.at_.mem) rfl (by decide) (by decide)).mono fun v e => by subst e; exact bt.k1)
          (pv_ditem (pv_dstr (pv_loc (up_skip mb)) (i3 bh.m1) bh.hob) (pv_loc up_hit) (i3 hnm1) hon (fun x e => by subst e; exact isI_is (X := X) ⟨_, rfl⟩) hnk))
          y10 (by decide) (fun vs e => by obtain ⟨_, _, rfl, _⟩ := e; rfl) fun vs t s11 e y11 => ?_)
        refine ctr fun hG141 => ?_; obtain ⟨_, _, rfl, ⟨_, rfl⟩, rfl⟩ := e; refine hG141 ?_; clear hG141
        have hil' : its.size = (toldOf (H.ts.take i)).length := by simpa using hil
        refine c_append y11 (.tail (.tail .head)) (by lia) fun s12 k12 y12 => y_nil (y_nil ?_)
        refine ⟨_, _, _, y12, _, _, rfl, up_skip mh, up_skip mb, up_skip mf, ?_⟩
        rw [hsn, hG]
        exact VRs.push hi.up1 (VR.tup (.head _) (.cons (.str _ _) (.cons (.str _ _) .nil)))
    · intro m news Γ s7 hJJ; refine ex2 hJJ fun its c1 hKK => an5 hKK fun hE16 mh mb mf hi => ?_; clear hJJ hKK; subst hE16; intro y7
      rw [hsl, List.take_length] at hi
      have y8 := (y7.sub (List.sublist_cons_self _ _))
      refine y_reteff (ev_cmpE (ev_meth0 (pv_loc mh) (.tail _ (iH hd0.m1)) (.tail _ (iH hd0.m2)) hd0.er y8.ok.C.m_live y8.ok.C.n_live y8.ok.C.km_live y8 fun s9 y9 => ?_))
      have y10 := Y.mid (a := [(fl, listOf its c1)]) (b := hks) (c := bks) y9
      refine live_spec (P := P) y10.ok.C y10.st hX0 (lvA hX1 hd) (lvC hX2 hu) (y10.own R.noT) R hn ?_
      intro ll lvs lc h' t' Γ2 kk tl hlv
      have y11 := y10.calls (t' := t') (y10.own R.noT) kk tl
      have y12 : Y X m (((fl, listOf its c1) :: bks) ++ ([(ll, listOf lvs.toArray lc)] ++ hks)) (Γ2 ++ Γ) { s9 with heap := h', toks := t' } := y11
      have y13 := y12.perm (news' := (fl, listOf its c1) :: (ll, listOf lvs.toArray lc) :: (hks ++ bks)) (by
        refine List.Perm.cons _ ?_
        exact (List.perm_append_comm (l₁ := (ll, listOf lvs.toArray lc) :: hks) (l₂ := bks)))
      refine ev_pvq (pv_loc mf) y13 fun s14 y14 => ?_
      obtain ⟨as, q1⟩ := reads_list (P := Or No _) (fun a o h => h.elim False.elim fun h => y14.z.tup (List.mem_append_left _ h)) (y14.z.get (.tail _ (.head _))) hlv
      obtain ⟨bs, q2⟩ := reads_list (vs := its.toList) (c := c1) (P := Or No Γ) (fun a o h => h.elim False.elim fun h => y14.z.tup (List.mem_append_right _ h)) (by rw [Array.toArray_toList]; exact y14.z.get (.head _)) hi
      have lay := told_lay H.ts hnm
      have sh := lay_list lay.1 (n_t lay.2 (n_b rfl))
      refine eq_dataH q1 q2 sh sh y14.ok.hu ?_
      rw [eqv_refl0 _ (by rw [canLay_list]; exact lay.1)]
      rw [y14.e]
      exact hQ _ _ _ (y14.kept h0 hin (.cons _ (.cons _ (List.Sublist.refl _))) (two_noT R B)) (y14.z.tupL hL)
end
end Mine
end
section
open PySem PySem.W PySem.Calls PyProof.Rows PySem.Spec
set_option Elab.async false
set_option maxRecDepth 100000
set_option maxHeartbeats 2000000
set_option rowWalk.seconds 0
set_option linter.unusedVariables false
namespace Mine
noncomputable def V.hdw : V → Str
  | .hold k _ => k.word
  | .fn _ => Str.ofString "fn"
  | .weak0 => Str.ofString "weak"
  | .soft u _ => softWord u
  | .agg _ _ => Str.ofString "agg"
  | .enum0 | .enum1 _ => Str.ofString "enum"
  | .any _ => Str.ofString "any"
  | .int _ => Str.ofString ""
noncomputable def V.isInt : V → Bool
  | .int _ => true
  | _ => false
theorem V.two (v : V) : (∃ i, v = .int i) ∨ (v.isInt = false ∧ ∃ d rest, v.py = .tuple (.str v.hdw :: d :: rest)) := by
  cases v <;> first | exact .inl ⟨_, rfl⟩ | exact .inr ⟨rfl, _, _, rfl⟩
theorem hdw_lay (v : V) : PyData.canLay0 (.str v.hdw) = true := by
  cases v with
  | hold k n => cases k <;> (dsimp only [V.hdw]; decide +kernel)
  | soft u n => cases u <;> (dsimp only [V.hdw]; decide +kernel)
  | _ => dsimp only [V.hdw]; decide +kernel
section
variable {X : Fn} {m : Str → Option Value} {news Γ : List (Addr × Obj)} {E : Value → Shared → Prop} {s : Shared}
/-- nx[:1] of a value that is a tuple -/
theorem ev_head {nx : Str} {k : Nat} {p0 p1 p2 p3 : Pos} {t : Addr} {a b : Value} {r : List Value} {Q : Value → Shared → Prop} (hx : m nx = some (.ref t)) (ht : TT X.g Γ t (a :: b :: r)) (y : Y X m news Γ s) (h : ∀ t' s', Y X m news ((t', tupO [a]) :: Γ) s' → Q (.ref t') s')
    (h0 : X.env.kindOf nx = some .local := by rfl) (hdb : (nx == ("__debug__" : Str)) = false := by decide) :
    wpAny (model X.prog X.w) X.A (eval (.Subscript (.Name nx p0) (.Slice none (some (.Constant (.int 1) k p1)) none p2) p3) X.env) Q E s := by
  repeat' walk1
  refine wpAny_mono (pv_loc hx h0 hdb _ s y) (fun v s' q => ?_) fun _ _ x => x
  obtain ⟨rfl, y'⟩ := q
  repeat' (first | (with_reducible show wpAny _ _ (subscriptTail _ _ _ _) _ _ _; fail) | walk1)
  exact z_headT (s := { s' with toks := _ }) y'.z (z_tupO y'.z ht) (.int _ _) (fun t' h' z' => h t' _ (y'.to z'))
/-- isinstance(nx, tuple) and nx[:1] == (W,) -/
theorem pb_tag {nx W : Str} {k k2 k3 : Nat} {p0 p1 p2 p3 p4 p5 p6 p7 p8 p9 p10 p11 : Pos} {x : Value} {v : V} (hx : m nx = some x) (hv : VR (Or (Gt X.g) Γ) x v.py) (b : Bool) (hb : (!v.isInt && (v.hdw == W)) = b) (hW : PyData.canLay0 (.str W) = true)
    (h0 : X.env.kindOf nx = some .local := by rfl) (hdb : (nx == ("__debug__" : Str)) = false := by decide) (h1 : X.env.kindOf "isinstance" = some .globalImplicit := by rfl) (h2 : X.env.kindOf "tuple" = some .globalImplicit := by rfl) :
    PB X m news Γ (.BoolOp .And [.Call (.Name (Str.ofString "isinstance") p1) [.Name nx p0, .Name (Str.ofString "tuple") p2] [] p3,
      .Compare (.Subscript (.Name nx p4) (.Slice none (some (.Constant (.int 1) k p5)) none p6) p7) [.Eq] [.Tuple [.Constant (.str W) k2 p8] k3 p9] p10] p11) b := by
  rcases v.two with ⟨i, rfl⟩ | ⟨hi, d, rest, e⟩
  · refine (VR.iI hv).elim fun u ex => ?_
    rw [ex] at hx
    rw [show b = false from hb.symm]
    exact pb_and2_f (pb_isi_f (pv_loc hx h0 hdb) h1 h2)
  · rw [hi] at hb
    replace hb : _ = b := hb
    refine ex5 (VR.hdp (e ▸ hv)) fun t o n u vs k => an5 k fun ex q1 q2 q3 r => ex2 r.cI fun d0 ys l => ?_
    rw [l.1] at q3
    rw [ex] at hx
    have tt : TT X.g Γ _ _ := TT.mk q1 q2 q3
    clear k l
    refine pb_and2_tr (pb_isi_t (pv_loc hx h0 hdb) tt h1 h2) (fun E s y => ?_)
    refine wpAny_isTrue_Compare1 (ev_head hx tt y (fun t1 s1 y1 => ev_tup (pvs1 pv_str) y1 (Nat.le_of_ble_eq_true rfl) (fun vs e => by obtain ⟨_, rfl, _⟩ := e; rfl) fun vs t2 s2 e2 y2 => ?_) h0 hdb)
    obtain ⟨_, rfl, ⟨_, rfl⟩⟩ := e2
    have hsh : ∀ z : Str, PyData.canLay0 (.str z) = true → PySem.SeqAt.shaped (.tuple [.str z]) = true := fun z hz => by
      unfold PySem.SeqAt.shaped
      have : PyData.canLay0 (.tuple [.str z]) = true := by simp only [PyData.canLay0, PyData.canLayAll0, Bool.and_true] at hz ⊢; exact hz
      rw [this, Bool.true_and]
      exact decide_eq_true (by simp [PyData.depth, PyData.depthAll])
    refine z_eq b y2.z (VR.tup (.tail _ (.head _)) (.cons (.str _ _) .nil)) (VR.tup (.head _) (.cons (.str _ _) .nil)) (hsh _ (hdw_lay v)) (hsh _ hW) y2.ok.hu ?_ ?_
    · simp only [PyData.eqv, PyData.eqvAll, Bool.and_true]; exact hb
    · exact wpAny_truthy_bool ⟨rfl, y2.to (t := s2.toks) (y2.z.pushG_drop.pushG_drop)⟩
/-- the one test of a comprehension -/
theorem tests1 {e : Expr} {b : Bool} {Q : Bool → Shared → Prop} (y : Y X m news Γ s) (pb : PB X m news Γ e b) (h : ∀ s', Y X m news Γ s' → Q b s') : wpAny (model X.prog X.w) X.A (testsOf [e] X.env) Q E s :=
  wpAny_tests_one (wpAny_mono (pb E s y) (fun ok s3 q => by obtain ⟨rfl, y3⟩ := q; exact h _ y3) fun _ _ x => x)
end
end Mine
end
section
open PySem PySem.W PySem.Calls PyProof.Rows PySem.Spec
set_option Elab.async false
set_option maxRecDepth 100000
set_option maxHeartbeats 4000000
set_option linter.unusedVariables false
namespace Mine
theorem tag_ref {v : V} (h : (!v.isInt && (v.hdw == Str.ofString "ref")) = true) : ∃ n, v = .hold .ref n := by
  cases v with
  | hold k n => cases k with
    | ref => exact ⟨n, rfl⟩
    | buf => exact absurd h (by dsimp only [V.hdw, V.isInt]; decide +kernel)
    | box => exact absurd h (by dsimp only [V.hdw, V.isInt]; decide +kernel)
  | soft u n => cases u <;> exact absurd h (by dsimp only [V.hdw, V.isInt]; decide +kernel)
  | _ => exact absurd h (by dsimp only [V.hdw, V.isInt]; decide +kernel)
theorem cs_one {cs : List (Addr × Obj)} {p : Addr × Obj} (h : cs.length = 1) (h0 : cs[0]? = some p) : cs = [p] := by
  obtain ⟨z, rfl⟩ := List.length_eq_one_iff.mp h
  rw [Option.some.inj h0]
theorem cell_notT {o : Obj} {v : Option Value} (h : o.data = .cell v) : ¬ IsT o := fun q => by obtain ⟨_, vs, k, q⟩ := q; rw [h] at q; cases q
/-- a list of numbers of things -/
noncomputable def Menu (Φ : Nat → Prop) (ys : List Value) : Prop := ∃ ns : List Nat, IntsAre ys (ns.map fun n : Nat => (n : Int) + 1) ∧ ∀ n ∈ ns, Φ n
theorem Menu.nil {Φ : Nat → Prop} : Menu Φ [] := ⟨[], .nil, fun _ h => nomatch h⟩
theorem Menu.push {Φ : Nat → Prop} {ys : List Value} (h : Menu Φ ys) (n : Nat) (hn : Φ n) (t : Tok) : Menu Φ (ys ++ [.int ((n : Int) + 1) t]) := by
  obtain ⟨ns, h1, h2⟩ := h
  refine ⟨ns ++ [n], by rw [List.map_append]; exact IntsAre.snoc h1 _ _, fun k hk => ?_⟩
  rcases List.mem_append.mp hk with hk | hk
  · exact h2 k hk
  · rw [List.mem_singleton.mp hk]; exact hn
theorem Menu.get {Φ : Nat → Prop} {ys : List Value} (h : Menu Φ ys) {i : Nat} {v : Value} (hv : ys[i]? = some v) : ∃ (n : Nat) (t : Tok), v = .int ((n : Int) + 1) t ∧ Φ n := by
  obtain ⟨ns, h1, h2⟩ := h
  have hl := h1.length
  have hlt := (List.getElem?_eq_some_iff.mp hv).1
  rw [List.length_map] at hl
  obtain ⟨t, ht⟩ := h1.get i ((ns[i]'(n_ls hlt (Nat.le_of_eq hl)) : Nat) + 1) (by rw [List.getElem?_map, List.getElem?_eq_getElem (n_ls hlt (Nat.le_of_eq hl))]; rfl)
  rw [hv] at ht; cases ht
  exact ⟨_, t, rfl, h2 _ (List.getElem_mem _)⟩
section
variable {prog : Program} {w : World} {K : Frag} {A : Around} {E : Value → Shared → Prop} {s : Shared} {h₀ : Heap} {P : Addr → Obj → Prop} {b a c : Addr} {p : BP} {H : H} {held : List V} {wks bks : List (Addr × Obj)} {Q : Value → Shared → Prop}
theorem live_ref_spec (C : Cx K h₀) (hk : h₀.StaysIn s.heap) (hh : A.handled = none) (hd : A.depth < 880) (hu : A.units < 7800) (hP : ∀ a o, P a o → s.heap.get? a = some o) (O : Own h₀ s.heap (wks ++ bks)) (W : WRep prog w a c wks) (R : BRep prog w P b p H held bks) (hlen : held.length ≤ 900) (hrng : ∀ n, V.hold .ref n ∈ held → n < H.ts.length)
    (hQ : ∀ r wks' h' t' Γ, Kept h₀ (wks ++ bks) s.heap h' (wks' ++ bks) → TupL s.heap h' Γ → WRep prog w a c wks' → (IsI 0 r ∨ ∃ (k : Nat) (t : T), IsI ((k : Int) + 1) r ∧ V.hold .ref k ∈ held ∧ H.ts[k]? = some t ∧ t.st.isLive = true) → Q r { s with heap := h', toks := t' }) : wpAny (model prog w) A (call (.ref 319) [.ref a, .ref b]) Q E s := by
  refine enterK (binds := [(Str.ofString "well", .ref a), (Str.ofString "book", .ref b)]) (cns := [(Str.ofString "book", .ref b)]) C hk hh (Nat.lt_trans hu (by decide)) O C.KF.f319 rfl (Nat.lt_trans hd (by decide)) (fun _ _ _ => rfl) (fun L x hx => ?_) rfl rfl rfl (fun L i x v hi => ?_) ?_
  · rcases List.mem_cons.mp hx with rfl | hx
    · exact .inl rfl
    · rcases List.mem_cons.mp hx with rfl | hx
      · exact .inr ⟨rfl, rfl⟩
      · cases hx
  · cases i with
    | zero => cases hi; exact ⟨rfl, fun cdv => rfl⟩
    | succ i => cases hi
  intro g L h₁ tk cdv A' cs X m0 hX0 hX1 hX2 hcl hcs hcd y h0 hL hin
  have hPg := gt_of O hin hP
  obtain ⟨oc, hoc, hod⟩ := hcs 0 _ _ rfl
  have hce := cs_one (p := (L + 1, oc)) hcl hoc
  subst hce
  refine ex7 R.hd fun ob ot on hls ql cc c2 bh => ?_
  have hll : hls.length = held.length := by simpa using bh.hh.length
  have hS : sizeLine = 16777216 := rfl
  have hcT : ¬ IsT oc := cell_notT hod
  have noT : ∀ q ∈ [(L + 1, oc)] ++ (wks ++ bks), ¬ IsT q.2 := fun q hq => by
    rcases List.mem_append.mp hq with hq | hq
    · rw [List.mem_singleton.mp hq]; exact hcT
    · exact both_noT W R q hq
  have iB : ∀ {q : Addr × Obj}, q ∈ bks → q ∈ [(L + 1, oc)] ++ (wks ++ bks) := fun h => List.mem_append_right _ (List.mem_append_right _ h)
  have hmb : X.env.cells.lookup (Str.ofString "book") = some (L + 1) := rfl
  refine y_asgcomp (cl := []) (ev_pvq (pv_dstr (pv_cellN (.head _) hod) (iB bh.m1) bh.hob) y fun s1 y1 => ?_) rfl
  let J8 : Nat → List Value → List (Addr × Obj) → List (Addr × Obj) → Prop := fun i ys nw Γ' => nw = [(L + 1, oc)] ++ (wks ++ bks) ∧ ys.length ≤ i ∧ i ≤ hls.length ∧ Menu (fun n => V.hold .ref n ∈ held) ys
  refine comp_list (l := p.h) (n := hls.length) (J := J8) y1 noT ⟨rfl, Nat.zero_le _, Nat.zero_le _, Menu.nil⟩ (fun i ys nw Γ' h => ⟨by rw [h.1]; exact noT, by have := h.2.1; have := h.2.2.1; exact n_t h.2.1 (n_t h.2.2.1 (n_e hll (n_t hlen (n_b rfl))))⟩) ?_ (fin_asg rfl ?_)
  · rintro i ys nw Γ' ⟨rfl, hy1, hy2, hme⟩
    refine ⟨_, _, iB bh.m4, by simp, fun b' g' C' I oI D dc m' v s2 E2 hgT hlt hv y2 => ?_⟩
    have hv' : hls[i]? = some v := by simpa using hv
    obtain ⟨u', hu1, hu2⟩ := bh.hh.get (i := i) (d := (held[i]'(n_ls hlt (Nat.le_of_eq hll))).py) (by simp [show i < held.length by exact n_ls hlt (Nat.le_of_eq hll)])
    rw [hv'] at hu1; cases hu1
    have hug : VR (Gt g') v (held[i]'(n_ls hlt (Nat.le_of_eq hll))).py := hu2.mono2 fun a o t h => hgT a o t (.inl (hPg a o t h))
    refine tests1 y2 (pb_tag up_hit hug.inl _ rfl (by decide +kernel)) fun s3 y3 => ?_
    cases hT : (!(held[i]'(n_ls hlt (Nat.le_of_eq hll))).isInt && ((held[i]'(n_ls hlt (Nat.le_of_eq hll))).hdw == Str.ofString "ref")) with
    | false =>
      rw [if_neg Bool.false_ne_true]
      exact ⟨_, _, _, y3, rfl, by exact n_r hy1, by exact n_suc hlt, hme⟩
    | true =>
      rw [if_pos rfl]
      obtain ⟨n, hn⟩ := tag_ref hT
      have hmem : V.hold .ref n ∈ held := hn ▸ List.getElem_mem _
      rw [hn] at hug
      refine ctr fun hG64 => ?_; obtain ⟨_, _, _, _, _, rfl, q1, q2, q3⟩ := VR.two hug; refine hG64 ?_; clear hG64
      have tt : TT g' Γ' _ _ := TT.mk (.inl q1) q2 q3
      refine ev_pvq (X := X.comp _ _ b' g' C') (pv_item' (pv_loc up_hit) tt) y3 fun s4 y4 => ?_
      exact ⟨_, _, _, y4, rfl, by simp; exact hy1, by exact n_suc hlt, hme.push n hmem _⟩
  · rintro ys nw Γ' D dc s2 ⟨rfl, hy1, hy2, hme⟩ y2
    have noT2 : ∀ q ∈ (D, listOf ys.toArray dc) :: ([(L + 1, oc)] ++ (wks ++ bks)), ¬ IsT q.2 := fun q hq => by
      rcases List.mem_cons.mp hq with rfl | hq
      · exact notT_list
      · exact noT q hq
    have iB2 : ∀ {q : Addr × Obj}, q ∈ bks → q ∈ (D, listOf ys.toArray dc) :: ([(L + 1, oc)] ++ (wks ++ bks)) := fun h => .tail _ (iB h)
    refine y_asgcomp (cl := [(Str.ofString "book", L + 1)]) (ev_pvq (pv_loc up_hit) y2 fun s3 y3 => ?_) rfl
    refine comp_list (l := D) (n := ys.length) (J := fun i zs nw Γ' => nw = (D, listOf ys.toArray dc) :: ([(L + 1, oc)] ++ (wks ++ bks)) ∧ zs.length ≤ i ∧ i ≤ ys.length ∧ Menu (fun n => V.hold .ref n ∈ held ∧ ∃ t, H.ts[n]? = some t ∧ t.st.isLive = true) zs) y3 noT2 ⟨rfl, Nat.zero_le _, Nat.zero_le _, Menu.nil⟩ (fun i ys nw Γ' h => ⟨by rw [h.1]; exact noT2, by have := h.2.1; have := h.2.2.1; exact n_t h.2.1 (n_t h.2.2.1 (n_t hy1 (n_e hll (n_t hlen (n_b rfl)))))⟩) ?_ (fin_asg rfl ?_)
    · rintro i zs nw Γ2 ⟨rfl, hz1, hz2, hmz⟩
      refine ⟨_, _, .head _, by simp, fun b' g' C' I oI D2 dc2 m' v s4 E2 hgT hlt hv y4 => ?_⟩
      have hv' : ys[i]? = some v := by simpa using hv
      obtain ⟨n, tn, rfl, hnm⟩ := hme.get hv'
      have hnl := hrng n hnm
      have ht : H.ts[n]? = some H.ts[n] := by simp [hnl]
      obtain ⟨tp, htp⟩ := R.place ht
      refine ctr fun hG65 => ?_; obtain ⟨kd, sv, wv, uv, stv, n3, c3, fls, f3, bt⟩ := R.th ht htp; refine hG65 ?_; clear hG65
      have i4 : ∀ {q z1 z2 : Addr × Obj}, q ∈ bks → q ∈ z1 :: z2 :: (D, listOf ys.toArray dc) :: ([(L + 1, oc)] ++ (wks ++ bks)) := fun h => .tail _ (.tail _ (iB2 h))
      refine tests1 y4 (pb_eqs ((pv_litem (its := [kd, .ref tp.f, sv, wv, uv, stv]) (n := n3) (vp := fun _ => True) (pv_ditem (pv_dstr (pv_cellN (.tail _ (.tail _ (.tail _ (.head _)))) hod) (i4 bh.m1) bh.hob) (pv_loc up_hit) (i4 bh.m2) bh.hot (fun x e => by subst e; exact isI_is (X := X) ⟨_, rfl⟩) (keyed_atB htp)) pv_int (i4 bt.at_.mem) rfl (by decide) (by decide)).mono fun v e => by subst e; exact bt.k6) pv_str (live_word _)) fun s5 y5 => ?_
      cases hT : H.ts[n].st.isLive with
      | false =>
        rw [if_neg Bool.false_ne_true]
        exact ⟨_, _, _, y5, rfl, by exact n_r hz1, by exact n_suc hlt, hmz⟩
      | true =>
        rw [if_pos rfl]
        refine ev_pvq (X := X.comp _ _ b' g' C') (pv_loc up_hit) y5 fun s6 y6 => ?_
        exact ⟨_, _, _, y6, rfl, by simp; exact hz1, by exact n_suc hlt, hmz.push n ⟨hnm, _, ht, hT⟩ _⟩
    · rintro zs nw Γ2 D2 dc2 s4 ⟨rfl, hz1, hz2, hmz⟩ y4
      obtain ⟨ns, hzi, hns⟩ := id hmz
      have hzl := hzi.length
      rw [List.length_map] at hzl
      have y5 := y4.sub (news' := (D2, listOf zs.toArray dc2) :: ([(L + 1, oc)] ++ (wks ++ bks))) (.cons_cons _ (List.sublist_cons_self _ _))
      have lay := dyings_lay ns
      cases zs with
      | nil =>
        refine y_reteff (ev_ifexp false (pb_nil (P := No) (ds := []) (op := .NotEq) false (pv_loc up_hit) (.head _) (fun _ _ _ _ h => h.elim) .nil (by simp [PyData.canLayAll0]) (by simp [PyData.depthAll]) (.inr ⟨rfl, rfl⟩)) y5 fun s6 y6 => ev_pv pv_int y6 fun r s7 e7 y7 => ?_)
        rw [y7.e]
        exact hQ _ wks _ _ _ (y7.kept h0 hin (.cons _ (.cons _ (List.Sublist.refl _))) (both_noT W R)) (y7.z.tupL hL) W (.inl e7)
      | cons z0 zr =>
        have hne : ((ns.map fun n : Nat => (n : Int) + 1).map PyData.int).isEmpty = !true := by
          cases ns with
          | nil => simp at hzl
          | cons a b => rfl
        refine y_reteff (ev_ifexp true (pb_nil (P := No) (op := .NotEq) true (pv_loc up_hit) (.head _) (fun _ _ _ _ h => h.elim) (vrs_ints hzi) lay.1 lay.2 (.inr ⟨rfl, hne⟩)) y5 fun s6 y6 => ?_)
        refine ev_itemE (ev_pvq (pv_loc up_hit) y6 fun s7 y7 => ev_call y7.ok.C.g_law_draw y7.ok.C.k_law_draw (pvs2 (pv_loc (up_skip (up_skip rfl))) (pv_len (pv_loc up_hit) (.head _) (n_t hz1 (n_t hy1 (n_e hll (n_t hlen (n_b rfl))))))) y7 fun vs s8 e8 y8 => ?_)
        refine ex2 e8 fun _ v2 hKK => an3 hKK fun hE17 hE18 e2 => ?_; clear e8 hKK; subst hE17 hE18
        have y9 := Y.mid (a := [(D2, listOf (z0 :: zr).toArray dc2), (L + 1, oc)]) (b := wks) (c := bks) y8
        refine draw_spec y9.ok.C y9.st hX0 (lvA hX1 hd) (lvC hX2 hu) (y9.own W.noT) W e2 (by simp only [List.length_cons]; exact n_k2) (n_cm (n_t hz1 (n_t hy1 (n_e hll (n_t hlen (Nat.le_refl _))))) rfl) ?_
        intro r i wks' h' t' kk W' hr' hi0 hi1
        have y10 := Y.unmid (a := [(D2, listOf (z0 :: zr).toArray dc2), (L + 1, oc)]) (b := wks') (c := bks) (y9.callK (t' := t') W.noT kk)
        have hlt : i.toNat < (z0 :: zr).length := by exact n_tn hi0 hi1
        refine ctr fun hG67 => ?_; obtain ⟨n, tn, hvn, hΦ, t9, ht9, hl9⟩ := hmz.get (List.getElem?_eq_getElem hlt); refine hG67 ?_; clear hG67
        refine ⟨D2, z0 :: zr, dc2, i, _, _, _, _, rfl, hr', y10, .head _, List.getElem?_eq_getElem hlt, hi0, by exact n_cs hi1 (n_t hz1 (n_t hy1 (n_e hll (n_t hlen (Nat.le_refl _))))) rfl, fun s11 y11 => ?_⟩
        rw [y11.e]
        exact hQ _ wks' _ _ _ (y11.kept h0 hin (.cons _ (.cons _ (List.Sublist.refl _))) (both_noT W' R)) (y11.z.tupL hL) W' (.inr ⟨n, t9, ⟨tn, hvn⟩, hΦ, ht9, hl9⟩)
end
end Mine
end
section
open PySem PySem.W PySem.Calls PyProof.Rows PySem.Spec
set_option Elab.async false
set_option maxRecDepth 100000
set_option maxHeartbeats 4000000
set_option linter.unusedVariables false
namespace Mine
theorem H.links_links (H : Mine.H) (a b : List Link) (d : Int) : (H.links a d).links b d = H.links (a ++ b) d := by simp [Mine.H.links]
section
variable {prog : Program} {w : World} {K : Frag} {A : Around} {E : Value → Shared → Prop} {s : Shared} {h₀ : Heap} {P : Addr → Obj → Prop} {o : Addr} {p : HP} {H : H} {ks : List (Addr × Obj)} {Q : Value → Shared → Prop}
theorem own_buffer_spec {N k : Nat} {t : T} {H' : Mine.H} {v : Value} (C : Cx K h₀) (hk : h₀.StaysIn s.heap) (hh : A.handled = none) (hd : A.depth < 850) (hu : A.units < 7500) (hP : ∀ a o, P a o → s.heap.get? a = some o) (O : Own h₀ s.heap ks) (R : HRep prog w P o p H ks) (ht : H.ts[k]? = some t) (hv : IsI ((k : Int) + 1) v) (hst : t.st ≠ .gone)
    (hdep : ∀ u ∈ t.fields, u.dep ≤ 60) (hsz : (t.fields.map V.size).sum ≤ 2 ^ 22) (hfl : t.fields.length ≤ 1000) (hts : H.ts.length ≤ 900) (hl : ∀ u ∈ t.fields, ∀ l ∈ u.links, ∃ t, H.ts[l.2]? = some t ∧ (l.1 = .strong → t.st ≠ .gone))
    (h1 : t.strong = 1 → ∀ h' t', Kept h₀ ks s.heap h' ks → Q v { s with heap := h', toks := t' })
    (run : t.strong ≠ 1 → Run N ((H.links (t.fields.flatMap V.links) 1).grow (T.fresh .buffer (Str.ofString "") t.fields)) [(.strong, k)] H')
    (h2 : t.strong ≠ 1 → ∀ p' r ks' h' t' Γ, Kept h₀ ks s.heap h' ks' → TupL s.heap h' Γ → HRep prog w P o p' H' ks' → IsI ((H.ts.length : Int) + 1) r → Q r { s with heap := h', toks := t' }) : wpAny (model prog w) A (call (.ref 225) [.ref o, v]) Q E s := by
  refine enterK (binds := [(Str.ofString "self", .ref o), (Str.ofString "number", v)]) (cns := [(Str.ofString "self", .ref o)]) C hk hh (Nat.lt_trans hu (by decide)) O C.KF.f225 rfl (Nat.lt_trans hd (by decide)) (fun _ _ _ => rfl) (fun L x hx => ?_) rfl rfl rfl (fun L i x v hi => ?_) ?_
  · rcases List.mem_cons.mp hx with rfl | hx
    · exact .inr ⟨rfl, rfl⟩
    · rcases List.mem_cons.mp hx with rfl | hx
      · exact .inl rfl
      · cases hx
  · cases i with
    | zero => cases hi; exact ⟨rfl, fun cdv => rfl⟩
    | succ i => cases hi
  intro g L h₁ tk cdv A' cs X m0 hX0 hX1 hX2 hcl hcs hcd y h0 hL hin
  have hPg := gt_of O hin hP
  obtain ⟨oc, hoc, hod⟩ := hcs 0 _ _ rfl
  have hce := cs_one (p := (L + 1, oc)) hcl hoc
  subst hce
  have hcT : ¬ IsT oc := cell_notT hod
  have noT : ∀ q ∈ [(L + 1, oc)] ++ ks, ¬ IsT q.2 := fun q hq => by
    rcases List.mem_append.mp hq with hq | hq
    · rw [List.mem_singleton.mp hq]; exact hcT
    · exact R.noT q hq
  have iB : ∀ {q : Addr × Obj}, q ∈ ks → q ∈ [(L + 1, oc)] ++ ks := fun h => List.mem_append_right _ h
  refine ex4 R.hd fun es n od lv hd1 => ?_
  obtain ⟨tp, htp⟩ := R.place ht
  refine ex8 (R.th ht htp) fun es2 n2 kd nm sv wv uv stv hth => ?_
  refine y_asgeff (ev_meth (pv_cellN (.head _) hod) (iB hd1.m1) (iB hd1.m2) hd1.er y.ok.C.m_thing y.ok.C.n_thing y.ok.C.km_thing (pvs1 (pv_loc rfl)) y fun vs s1 e y1 => ?_)
  obtain rfl := Va1.eq e
  refine thing_spec y1.ok.C y1.st hX0 (lvA hX1 hd) (lvC hX2 hu) (y1.own (loc := [_]) R.noT) R ht htp hv hst fun h' t' kk => y_store (y1.callK (loc := [_]) R.noT kk) fun s2 y2 => ?_
  by_cases hE : t.strong = 1
  · refine y_if_t (pb_eqi (pv_attrI (pv_loc up_hit) (iB hth.t1) (iB hth.t2) hth.er (.inl rfl) (fun ok => ok.C.a_strong) hth.k3) pv_int (by rw [hE]; rfl)) y2 fun s3 y3 => ?_
    refine y_ret (pv_loc (up_skip rfl)) y3 fun r s4 e y4 => ?_
    subst e
    rw [y4.e]
    exact h1 hE _ _ (y4.kept h0 hin (List.sublist_cons_self _ _) R.noT)
  · refine y_if_f (pb_eqi (pv_attrI (pv_loc up_hit) (iB hth.t1) (iB hth.t2) hth.er (.inl rfl) (fun ok => ok.C.a_strong) hth.k3) pv_int (by simpa using hE)) y2 fun s3 y3 => ?_
    refine ex2 (R.flds ht htp) fun fl0 c0 hJJ => an2 hJJ fun hm0 hr0 => ?_; clear hJJ
    have hfl0 : fl0.length = t.fields.length := by simpa using hr0.length
    refine y_asgeff (ev_methE (pv_cellN (.head _) hod) (iB hd1.m1) (iB hd1.m2) hd1.er y.ok.C.m_made y.ok.C.n_made y.ok.C.km_made y3 fun s4 y4 => spliced_more (ev_pv pv_str y4 fun v1 s5 e1 y5 => spliced_more (ev_pv pv_str y5 fun v2 s6 e2 y6 => spliced_more (ev_comp (cl := [(Str.ofString "self", L + 1)]) (ev_pvq (pv_attr (pv_loc up_hit) (iB hth.t1) (iB hth.t2) hth.er (.inl rfl) (fun ok => ok.C.a_fields)) y6 fun s7 y7 => ?_) rfl) rfl) rfl) rfl)
    let J9 : Nat → List Value → List (Addr × Obj) → List (Addr × Obj) → Prop := fun i ys nw Γ' => i ≤ t.fields.length ∧ ys.length = i ∧ ∃ ksi, nw = [(L + 1, oc)] ++ ksi ∧ VRs (Tp P) ys ((t.fields.take i).map V.py) ∧ HRep prog w (Tp P) o p (H.links ((t.fields.take i).flatMap V.links) 1) ksi
    refine comp_list (l := tp.f) (n := t.fields.length) (J := J9)
      y7 noT ⟨Nat.zero_le _, rfl, ks, rfl, .nil, by simpa [Mine.H.links] using R.tp⟩ (fun i ys nw Γ' h => ?_) ?_ ?_
    · refine ctr fun hG12 => ?_; obtain ⟨h1, h2, ksi, rfl, h3, h4⟩ := h; refine hG12 ?_; clear hG12
      refine ⟨fun q hq => ?_, by exact n_e h2 (n_t h1 hfl)⟩
      rcases List.mem_append.mp hq with hq | hq
      · rw [List.mem_singleton.mp hq]; exact hcT
      · exact h4.noT q hq
    · intro i ys nw Γ' hJJ; refine ctr fun hG13 => ?_; obtain ⟨hi, hyl, ksi, rfl, hys, Ri⟩ := hJJ; refine hG13 ?_; clear hG13
      refine ctr fun hG14 => ?_; obtain ⟨T1, hT1, hst1, _, _, hf1⟩ := Mine.H.links_get ((t.fields.take i).flatMap V.links) 1 _ ht; refine hG14 ?_; clear hG14
      refine ex2 (Ri.flds hT1 htp) fun fli ci hJJ => an2 hJJ fun hmi hri => ?_; clear hJJ
      rw [hf1] at hri
      have hfli : fli.length = t.fields.length := by simpa using hri.length
      refine ⟨fli.toArray, ci, List.mem_append_right _ hmi, by simpa using hfli, fun b' g' C' I oI D dc m' v s8 E2 hgT hlt hv8 y8 => ?_⟩
      have hv' : fli[i]? = some v := by simpa using hv8
      obtain ⟨u', hu1, hu2⟩ := hri.get (i := i) (d := (t.fields[i]).py) (by simp [hlt])
      rw [hv'] at hu1; cases hu1
      have hPc : ∀ a o, Tp P a o → s8.heap.get? a = some o := fun a o q => y8.z.has a o (.inl (hgT a o q.2 (.inl (hPg a o q.2 q.1))))
      refine tests_nil ?_
      rw [if_pos rfl]
      refine ex4 Ri.hd fun es3 n3 od3 lv3 hd3 => ?_
      have i3 : ∀ {q z1 z2 : Addr × Obj}, q ∈ ksi → q ∈ z1 :: z2 :: ([(L + 1, oc)] ++ ksi) := fun h => .tail _ (.tail _ (.tail _ h))
      have hmem := List.getElem_mem hlt
      refine ev_meth (X := X.comp _ _ b' g' C') (pv_cellN (.tail _ (.tail _ (.head _))) hod) (i3 hd3.m1) (i3 hd3.m2) hd3.er y8.ok.C.m_copied y8.ok.C.n_copied y8.ok.C.km_copied (pvs1 (pv_loc up_hit)) y8 fun vs s9 e9 y9 => ?_
      obtain rfl := Va1.eq e9
      have y9' : Y (X.comp _ _ b' g' C') _ ([(I, oI), (D, listOf ys.toArray dc), (L + 1, oc)] ++ ksi) Γ' s9 := y9
      have hszi : (t.fields[i]).size ≤ (t.fields.map V.size).sum := by
        have h := congrArg (fun l => (l.map V.size).sum) (List.take_append_drop i t.fields)
        rw [List.drop_eq_getElem_cons hlt] at h
        simp only [List.map_append, List.sum_append_nat, List.map_cons, List.sum_cons] at h
        lia
      refine copied_spec (P := Tp P) (v := t.fields[i]) y9'.ok.C y9'.st hX0 (lvA hX1 hd) (lvC hX2 hu) (fun a o q => y9'.z.has a o (.inl (hgT a o q.2 (.inl (hPg a o q.2 q.1))))) hu2 (hdep _ hmem) (n_t hszi hsz) (y9'.own (loc := [(I, oI), (D, listOf ys.toArray dc), (L + 1, oc)]) Ri.noT) Ri (fun l hl0 => ?_) ?_
      · obtain ⟨T0, hT0, hstr⟩ := hl _ hmem l hl0
        obtain ⟨T2, hT2, hst2, _⟩ := Mine.H.links_get ((t.fields.take i).flatMap V.links) 1 _ hT0
        exact ⟨T2, hT2, fun e => by rw [hst2]; exact hstr e⟩
      intro ks2 h2 t2 Γ2 kk2 tl2 R2
      have y10 := y9'.calls (t' := t2) (loc := [(I, oI), (D, listOf ys.toArray dc), (L + 1, oc)]) (y9'.own (loc := [(I, oI), (D, listOf ys.toArray dc), (L + 1, oc)]) Ri.noT) kk2 tl2
      refine ⟨_, _, _, y10, hlt, by simp [hyl], ks2, rfl, ?_, ?_⟩
      · rw [List.take_succ_eq_append_getElem hlt, List.map_append]
        exact hys.append (.cons hu2 .nil)
      · rw [List.take_succ_eq_append_getElem hlt, List.flatMap_append, ← Mine.H.links_links]
        simpa using R2
    · intro ys nw Γ' D dc s8 hJJ; refine ctr fun hG16 => ?_; obtain ⟨_, hyl, ksi, rfl, hys, Ri⟩ := hJJ; refine hG16 ?_; clear hG16; intro y8
      rw [List.take_length] at hys Ri
      refine spliced_none ⟨z_kin y8.z y8.ok.C, ?_⟩
      have hll : (H.links (t.fields.flatMap V.links) 1).ts.length = H.ts.length := by
        have : ∀ (ls : List Link) (H : Mine.H), (H.links ls 1).ts.length = H.ts.length := fun ls => by
          induction ls with
          | nil => intro H; rfl
          | cons a l ih => intro H; show ((H.link a 1).links l 1).ts.length = _; rw [ih]; simp [Mine.H.link]
        exact this _ _
      have y8' : Y X _ ([(D, listOf ys.toArray dc), (L + 1, oc)] ++ ksi) (Γ' ++ []) s8 := y8
      have hDk : D ∉ ksi.map (·.1) := fun q => by
        have := y8'.headOut
        exact this (by obtain ⟨z, hz, e⟩ := List.mem_map.mp q; exact List.mem_map.mpr ⟨z, List.mem_append_right _ hz, e⟩)
      refine made_spec (kd := .buffer) (us := t.fields) y8'.ok.C y8'.st hX0 (lvA hX1 hd) (lvC hX2 hu) (y8'.own (loc := [(D, listOf ys.toArray dc), (L + 1, oc)]) Ri.noT) Ri e1 e2 (y8'.z.get (.head _)) hDk hys (hfl) (n_e hll hts) ?_
      intro p3 r ks3 h3 t3 kk3 hr R3
      rw [hll] at hr
      refine y_store (y8'.callK (t' := t3) (loc := [(D, listOf ys.toArray dc), (L + 1, oc)]) Ri.noT kk3) fun s9 y9 => ?_
      refine ex4 R3.hd fun es4 n4 od4 lv4 hd4 => ?_
      have i4 : ∀ {q : Addr × Obj}, q ∈ ks3 → q ∈ [(D, listOf ys.toArray dc), (L + 1, oc)] ++ ks3 := fun h => List.mem_append_right _ h
      refine y_expr (ev_meth (pv_cellN (.tail _ (.head _)) hod) (i4 hd4.m1) (i4 hd4.m2) hd4.er y9.ok.C.m_release y9.ok.C.n_release y9.ok.C.km_release (pvs1 (pv_loc (up_skip (up_skip rfl)))) y9 fun vs s10 e y10 => ?_)
      obtain rfl := Va1.eq e
      refine release_spec (P := Tp P) y10.ok.C y10.st hX0 (lvA hX1 hd) (lvC hX2 hu) (fun a o q => y10.z.has a o (.inl (hPg a o q.2 q.1))) (y10.own (loc := [(D, listOf ys.toArray dc), (L + 1, oc)]) R3.noT) R3 hv (run hE) ?_
      intro p5 ks5 h5 t5 Γ5 kk5 tl5 R5
      have y11 := y10.calls (t' := t5) (loc := [(D, listOf ys.toArray dc), (L + 1, oc)]) (y10.own (loc := [(D, listOf ys.toArray dc), (L + 1, oc)]) R3.noT) kk5 tl5
      refine y_ret (pv_loc up_hit) y11 fun r2 s12 e12 y12 => ?_
      subst e12
      rw [y12.e]
      exact h2 hE _ _ _ _ _ _ (y12.kept h0 hin (List.Sublist.trans (List.sublist_cons_self _ _) (List.sublist_cons_self _ _)) R5.noT) (y12.z.tupL hL) R5.pt hr
end
end Mine
end
section
open PySem PySem.W PySem.Calls PyProof.Rows PySem.Spec
set_option Elab.async false
set_option maxRecDepth 100000
set_option maxHeartbeats 2000000
set_option rowWalk.seconds 0
set_option linter.unusedVariables false
namespace Mine
noncomputable abbrev rngIt (x left : Int) : Obj := { cls := .type "range_iterator", dict := none, data := .fields #[rawInt x, rawInt left, rawInt 1], slots := #[] }
noncomputable abbrev enumO (it : Addr) (i : Int) (old : Value) : Obj := { cls := .type "enumerate", dict := none, data := .fields #[.none, .bool false, .ref it, rawInt i, .none, old], slots := #[] }
theorem notT_cls {o : Obj} {c : String} (h : o.cls = .type c) (hc : c ≠ "tuple") : ¬ IsT o := fun q => by have := q.1; rw [h] at this; exact hc (by injection this)
theorem notT_rng {x l : Int} : ¬ IsT (rngIt x l) := notT_cls rfl (by decide)
theorem notT_enum {it : Addr} {i : Int} {old : Value} : ¬ IsT (enumO it i old) := notT_cls rfl (by decide)
section
variable {X : Fn} {m : Str → Option Value} {news Γ : List (Addr × Obj)} {E : Value → Shared → Prop} {s : Shared}
theorem letGo_name {x : Str} {px : Pos} {I : Addr} {v : Value} {Q : Unit → Shared → Prop} (hQ : Q () s) : wpAny (model X.prog X.w) X.A (letOwnedTupleGo (.Name x px) (.ref I) v) Q E s := wpAny_pure hQ
/-- over range(n) -/
theorem comp_range {use : Option (Value → Sem Unit)} {elt : Expr} {x : Str} {px : Pos} {ifs : List Expr} {scope : Scope} {cl : List (Str × Addr)} {Q : Value → Shared → Prop} {r : Addr} {n : Nat} {t u v : Tok} {J : Nat → List Value → List (Addr × Obj) → List (Addr × Obj) → Prop} (y : Y X m news Γ s)
    (hr : IsRange s.heap r 0 (n : Int) 1 t u v) (hn : n ≤ 1000) (noT : ∀ p ∈ news, ¬ IsT p.2) (J0 : J 0 [] news []) (JT : ∀ i ys nw Γ', J i ys nw Γ' → (∀ p ∈ nw, ¬ IsT p.2) ∧ ys.length ≤ 1000)
    (step : ∀ i ys nw Γ', J i ys nw Γ' → ∀ b g C I o D c m' v s₂ E2, (∀ a ob, IsT ob → Or (Gt X.g) Γ a ob → Gt g a ob) → i < n → IsI i v → Y (X.comp scope cl b g C) (up x v m') ((I, o) :: (D, listOf ys.toArray c) :: nw) Γ' s₂ →
        wpAny (model X.prog X.w) X.A (testsOf ifs (compEnvC scope cl C X.env)) (fun ok s₃ =>
        if ok = true then wpAny (model X.prog X.w) X.A (eval elt (compEnvC scope cl C X.env)) (fun r s₄ => ∃ nw' Γ'' m'', Y (X.comp scope cl b g C) m'' ((I, o) :: (D, listOf ys.toArray c) :: nw') Γ'' s₄ ∧ J (i + 1) (ys ++ [r]) nw' Γ'') E2 s₃
        else ∃ nw' Γ'' m'', Y (X.comp scope cl b g C) m'' ((I, o) :: (D, listOf ys.toArray c) :: nw') Γ'' s₃ ∧ J (i + 1) ys nw' Γ'') E2 s₂)
    (fin : CompFin X use Q m Γ n J) (hx' : scope.names.lookup x = some .local := by rfl) :
    wpAny (model X.prog X.w) X.A (pyIter (.ref r)) (fun it s₂ => ∃ m news Γ I o n It J Jf, it = .ref I ∧ Y X m ((I, o) :: news) Γ s₂ ∧ It 0 o ∧ Comp X use elt (.Name x px) ifs scope cl Q m news Γ I n It J Jf) E s := by
  have hsz : Builtin.Range.rangeSize 0 (n : Int) 1 = n := by rw [rangeSize_one]; split <;> lia
  refine wpAny_pyIter_range hr (small_one (by decide) (by decide) (n_62) (by lia)) ⟨m, news, Γ, s.heap.objs.size, _, n, fun i o => o = rngIt i ((n : Int) - i), J, J n, rfl, y.to (t := s.toks) (y.z.push _), (by rw [hsz]; simp [rngIt]), ?_⟩
  refine ⟨fun i o h => by rw [h]; exact notT_rng, fun s o E Q h hg hq => ?_, noT, J0, JT, ?_, ?_, fun ys nw Γ' h => (JT _ _ _ _ h).1, fin⟩
  · subst h
    exact wpAny_pyIter_rangeiter hg hq
  · intro b g C i ys nw Γ' o D c m' s1 E' hgT hJ hIt hlt y3
    subst hIt
    refine wpAny_pyNext_range_item (x := i) (left := (n : Int) - i) (step := 1) (y3.z.get (.head _)) (by lia) fun h' hit' hs' => ?_
    refine ⟨_, rfl, wpAny_pure ?_⟩
    have y4 : Y (X.comp scope cl b g C) m' ((s.heap.objs.size, rngIt ((i + 1 : Nat) : Int) ((n : Int) - ((i + 1 : Nat) : Int))) :: (D, listOf ys.toArray c) :: nw) Γ' { s1 with heap := h', toks := s1.toks + 1 } :=
      y3.to (y3.z.setHead notT_rng hs' (by have q : h'.get? s.heap.objs.size = some _ := hit'; rw [q]; simp only [rngIt]; congr 4; congr 2; congr 1; lia))
    refine wpAny_assign_Name (y_store (X := X.comp scope cl b g C) y4 (fun s₄ y5 => ?_) (lookup_relabel_local hx'))
    refine wpAny_mono (step _ _ _ _ hJ b g C _ _ D c m' _ s₄ _ hgT hlt ⟨_, rfl⟩ y5) (fun ok s₅ q => ?_) fun _ _ e => e
    cases ok with
    | false =>
      rw [if_neg Bool.false_ne_true] at q ⊢
      refine ctr fun hG243 => ?_; obtain ⟨nw', Γ'', m'', y5, hJ'⟩ := q; refine hG243 ?_; clear hG243
      exact ⟨_, nw', Γ'', m'', rfl, y5, hJ'⟩
    | true =>
      rw [if_pos rfl] at q ⊢
      refine wpAny_mono q (fun r s₆ q => ?_) fun _ _ e => e
      refine ctr fun hG244 => ?_; obtain ⟨nw', Γ'', m'', y5, hJ'⟩ := q; refine hG244 ?_; clear hG244
      exact ⟨_, nw', Γ'', m'', rfl, y5, hJ'⟩
  · intro b g C ys nw Γ' o D c m' s1 E' hJ hIt y3
    subst hIt
    refine wpAny_pyNext_range_end (x := n) (left := (n : Int) - n) (step := 1) y3.ok.hh (y3.z.get (.head _)) (by lia) fun h' he' => ⟨rfl, _, hJ, ?_⟩
    exact y3.to (t := s1.toks) (y3.z.dropIt notT_rng he')
/-- for x in range(n) -/
noncomputable def ForR (X : Fn) (x : Str) (body rest : List Stmt) (Q : Flow → Shared → Prop) (E : Value → Shared → Prop) (v : Value) (s : Shared) : Prop :=
  ∃ r n, ∃ J : Nat → (Str → Option Value) → List (Addr × Obj) → List (Addr × Obj) → Prop, ∃ m news Γ t u w, v = .ref r ∧ IsRange s.heap r 0 ((n : Nat) : Int) 1 t u w ∧ n ≤ 1000 ∧ Y X m news Γ s ∧ J 0 m news Γ ∧
    (∀ i m news Γ, J i m news Γ → i < n → ∀ I o v s E', ¬ IsT o → IsI i v → Y X (up x v m) ((I, o) :: news) Γ s →
      wpAny (model X.prog X.w) X.A (execs body X.env) (KFo X (J (i + 1)) (I, o) Q) E' s) ∧
    (∀ m news Γ s, J n m news Γ → Y X m news Γ s → wpAny (model X.prog X.w) X.A (execs rest X.env) Q E s)
theorem y_forR {iter : Expr} {x : Str} {px : Pos} {body rest : List Stmt} {pos : Pos} {Q : Flow → Shared → Prop} (h : wpAny (model X.prog X.w) X.A (eval iter X.env) (ForR X x body rest Q E) E s) (hl : X.env.kindOf x = some .local := by rfl)
    (hs : ∀ x, foldedSetIterable iter X.env x = pure x := by intro _; rfl) :
    wpAny (model X.prog X.w) X.A (execs (.For (.Name x px) iter body [] pos :: rest) X.env) Q E s := by
  walk1
  refine wpAny_For (wpAny_mono h (fun xv s₁ h₁ => ?_) fun _ _ e => e) hs
  refine ctr fun hG245 => ?_; obtain ⟨r, n, J, m, news, Γ, t, u, w, rfl, hr, hn, y, h0, hJ, fin⟩ := h₁; refine hG245 ?_; clear hG245
  have hsz : Builtin.Range.rangeSize 0 (n : Int) 1 = n := by rw [rangeSize_one]; split <;> lia
  refine wpAny_pyIter_range hr (small_one (by decide) (by decide) (n_62) (by lia)) ?_
  refine codeAny_forLoop_any (fun t s' => ∃ i m news Γ, i ≤ n ∧ t = n - i ∧ Y X m ((s₁.heap.objs.size, rngIt (i : Nat) ((n : Int) - (i : Nat))) :: news) Γ s' ∧ J i m news Γ) ?_ n
    ⟨0, m, news, Γ, Nat.zero_le _, rfl, y.to (t := s₁.toks) (by have z := y.z.push (rngIt 0 (n : Int)); rw [hsz]; simpa [rngIt] using z), h0⟩
  intro t s' hJJ; refine ctr fun hG246 => ?_; obtain ⟨i, m', news', Γ', hi, rfl, y', hj⟩ := hJJ; refine hG246 ?_; clear hG246
  by_cases hlt : i < n
  · refine wpAny_pyNext_range_item (x := i) (left := (n : Int) - i) (step := 1) (y'.z.get (.head _)) (by lia) fun h' hit' hs' => ?_
    have y4 : Y X m' ((s₁.heap.objs.size, rngIt ((i + 1 : Nat) : Int) ((n : Int) - ((i + 1 : Nat) : Int))) :: news') Γ' { s' with heap := h', toks := s'.toks + 1 } :=
      y'.to (y'.z.setHead notT_rng hs' (by have q : h'.get? s₁.heap.objs.size = some _ := hit'; rw [q]; simp only [rngIt]; congr 4; congr 2; congr 1; lia))
    refine letGo_name ?_
    refine as_name y4 (fun s₄ y5 => ?_) hl
    refine wpAny_mono (hJ i _ _ _ hj hlt _ _ _ s₄ _ notT_rng ⟨_, rfl⟩ y5) (fun f s3 h3 => ?_) fun _ _ x => x
    cases f with
    | ret v => exact h3
    | brk => exact False.elim h3
    | next => obtain ⟨m3, n3, Γ3, y3, j3⟩ := h3; exact ⟨n - (i + 1), by exact n_sb hlt, i + 1, m3, n3, Γ3, hlt, rfl, y3, j3⟩
    | cont => obtain ⟨m3, n3, Γ3, y3, j3⟩ := h3; exact ⟨n - (i + 1), by exact n_sb hlt, i + 1, m3, n3, Γ3, hlt, rfl, y3, j3⟩
  · obtain rfl : i = n := by exact n_bx hi hlt
    refine wpAny_pyNext_range_end (x := i) (left := (i : Int) - i) (step := 1) y'.ok.hh (y'.z.get (.head _)) (by lia) fun h' he' => ?_
    exact y_nil (fin m' news' Γ' _ hj (y'.to (t := s'.toks) (y'.z.dropIt notT_rng he')))
/-- a type's call, one argument with effect -/
theorem ev_type1E {nf : Str} {Ts : String} {e : Expr} {p1 p2 : Pos} {Q : Value → Shared → Prop} (hb : nsIn X.K mainGlobals nf = some none) (hv : bootBuiltins nf = some (.type Ts)) (y : Y X m news Γ s)
    (h : ∀ s', Y X m news Γ s' → wpAny (model X.prog X.w) X.A (eval e X.env) (fun v s2 => wpAny (model X.prog X.w) X.A (call (.type Ts) [v]) Q E s2) E s')
    (hn : nf ≠ "__name__" := by decide) (h0 : X.env.kindOf nf = some .globalImplicit := by rfl) (hd : (nf == ("__debug__" : Str)) = false := by decide) (he : starEach [e] X.env = (false, eval e X.env) :: starEach [] X.env := by rfl) :
    wpAny (model X.prog X.w) X.A (eval (.Call (.Name nf p1) [e] [] p2) X.env) Q E s := by
  repeat' walk1
  refine wpAny_mono (pv_boot hb hv hn h0 hd _ _ y) (fun v s' q => ?_) fun _ _ x => x
  obtain ⟨rfl, y'⟩ := q
  exact Pv.callWith_type1 (spliced_more (wpAny_mono (h s' y') (fun v s2 q => spliced_none q) fun _ _ x => x) he) he rfl
/-- range(n) made -/
theorem c_range {n : Int} {t : Tok} {Q : Value → Shared → Prop} (y : Y X m news Γ s) (h : ∀ r s' t u v, Y X m news Γ s' → IsRange s'.heap r 0 n 1 t u v → Q (.ref r) s') : wpAny (model X.prog X.w) X.A (call (.type "range") [.int n t]) Q E s :=
  call_range_1 (h _ _ _ _ _ (y.to (y.z.pushG _)) (IsRange.new ..))
end
end Mine
end
section
open PySem PySem.W PySem.Calls PyProof.Rows PySem.Spec
set_option Elab.async false
set_option maxRecDepth 100000
set_option maxHeartbeats 4000000
set_option linter.unusedVariables false
namespace Mine
theorem Strs.snoc {vs : List Value} {xs : List Str} (h : Strs vs xs) (x : Str) (t : Tok) : Strs (vs ++ [.str x t]) (xs ++ [x]) := by
  induction h with
  | nil => exact .cons .nil
  | cons _ ih => exact .cons ih
section
variable {X : Fn} {m : Str → Option Value} {Γ : List (Addr × Obj)} {E : Value → Shared → Prop} {s : Shared} {Pq : Addr → Obj → Prop} {b : Addr} {p : BP} {H : H} {held : List V} {loc bks : List (Addr × Obj)}
/-- a new thing is put into the book -/
theorem book_growK {eb eb2 : Expr} {nn : Str} {la fl : Addr} {kd : Kd} {nm : Str} {us : List V} {fls : List Value} {kv sv wv uv stv nv nmv : Value} {n c : Nat} {k1 k2 : Nat} {p1 p2 p3 p4 p5 p6 p7 p8 : Pos} {Q : Unit → Shared → Prop}
    (y : Y X m ((la, listOf #[kv, .ref fl, sv, wv, uv, stv] n) :: (fl, listOf fls.toArray c) :: (loc ++ bks)) Γ s) (B : BRep X.prog X.w Pq b p H held bks) (hb : ∀ news', (∀ q ∈ loc, q ∈ news') → PV X m news' Γ eb (· = .ref b)) (hb2 : ∀ news', (∀ q ∈ loc, q ∈ news') → PV X m news' Γ eb2 (· = .ref b))
    (hn : m nn = some nv) (hnv : IsI ((H.ts.length : Int) + 1) nv) (i1 : IsS kd.word kv) (i3 : IsI 1 sv) (i4 : IsI 0 wv) (i5 : IsI 0 uv) (i6 : IsS (Str.ofString "live") stv) (hfs : VRs Pq fls (us.map V.py)) (hnm : IsS nm nmv) (hts : H.ts.length ≤ 900)
    (h : ∀ s' bks', BRep X.prog X.w Pq b { p with tps := p.tps ++ [⟨la, fl⟩] } (H.grow (T.fresh kd nm us)) held bks' → Y X m (loc ++ bks') Γ s' → Q () s') (hl : X.env.kindOf nn = some .local := by rfl) (hdb : (nn == ("__debug__" : Str)) = false := by decide) :
    wpAny (model X.prog X.w) X.A (assign (.Subscript (.Subscript eb (.Constant (.str (Str.ofString "things")) k1 p1) p2) (.Name nn p3) p4) X.env (.ref la))
      (fun _ s1 => wpAny (model X.prog X.w) X.A (assign (.Subscript (.Subscript eb2 (.Constant (.str (Str.ofString "names")) k2 p5) p6) (.Name nn p7) p8) X.env nmv) Q E s1) E s := by
  cases B with | @mk ob ot on c1 c2 hl0 ql nms ls a1 a2 a3 a4 a5 a6 a7 a8 =>
  have hln := a5.length
  rw [List.length_map] at hln
  have hlt := a8.length
  have z1 : ∀ {q z w : Addr × Obj}, q ∈ loc → ∀ r, q ∈ z :: w :: (loc ++ r) := fun h r => .tail _ (.tail _ (List.mem_append_left _ h))
  refine as_sub (ev_pvq (pv_dstr (hb _ fun q hq => z1 hq _) (.tail _ (.tail _ (List.mem_append_right _ (.head _)))) a1) y fun s2 y2 => ev_pvq (pv_loc hn hl hdb) y2 fun s3 y3 => ?_)
  refine c_dset (knd := PySem.intKind X.prog X.w) (key := (H.ts.length : Int) + 1) (kvs' := keyed 1 ((p.tps ++ [(⟨la, fl⟩ : BTP)]).map fun t : BTP => Value.ref t.a)) y3 (.tail (.tail (.app (.tail .head)))) a2 (isI_is (X := X) hnv) (by rw [keyed_length]; simp; exact n_e hlt (n_t hts (n_b rfl))) (fun s4 ot' hot' y4 => ?_) (by rw [List.map_append, List.map_singleton, ← keyed_stored, List.length_map, hlt])
  refine as_sub (ev_pvq (pv_dstr (hb2 _ fun q hq => z1 hq _) (.tail _ (.tail _ (List.mem_append_right _ (.head _)))) a1) y4 fun s5 y5 => ev_pvq (pv_loc hn hl hdb) y5 fun s6 y6 => ?_)
  obtain ⟨tn, rfl⟩ := hnm
  refine c_dset (knd := PySem.intKind X.prog X.w) (key := (H.ts.length : Int) + 1) (kvs' := keyed 1 (nms ++ [.str nm tn])) y6 (.tail (.tail (.app (.tail (.tail .head))))) a3 (isI_is (X := X) hnv) (by rw [keyed_length]; exact n_e hln (n_t hts (n_b rfl))) (fun s7 on' hon' y7 => ?_) (by rw [← keyed_stored, hln])
  have hnew : BTRep Pq ⟨la, fl⟩ (T.fresh kd nm us) [(la, listOf #[kv, .ref fl, sv, wv, uv, stv] n), (fl, listOf fls.toArray c)] := .mk i1 i3 i4 i5 i6 hfs
  refine h s7 _ (.mk (p := { p with tps := p.tps ++ [⟨la, fl⟩] }) (H := H.grow (T.fresh kd nm us)) (c := c1) (c2 := c2) a1 hot' hon' a4 (by show Strs _ ((H.ts ++ [_]).map T.name); rw [List.map_append]; exact a5.snoc _ _) a6 a7 (a8.snoc hnew)) (y7.perm ?_)
  have := List.perm_append_comm (l₁ := loc ++ ((b, ob) :: (p.t, ot') :: (p.n, on') :: (p.h, listOf hl0.toArray c1) :: (p.q, listOf ql.toArray c2) :: ls)) (l₂ := [(la, listOf #[kv, .ref fl, sv, wv, uv, stv] n), (fl, listOf fls.toArray c)])
  rw [List.append_assoc] at this
  exact this
theorem book_grow {eb eb2 : Expr} {nn : Str} {la fl : Addr} {kd : Kd} {nm : Str} {us : List V} {fls : List Value} {kv sv wv uv stv nv nmv : Value} {n c : Nat} {k1 k2 : Nat} {p1 p2 p3 p4 p5 p6 p7 p8 : Pos} {Q : Unit → Shared → Prop}
    (y : Y X m ((la, listOf #[kv, .ref fl, sv, wv, uv, stv] n) :: (fl, listOf fls.toArray c) :: (loc ++ bks)) Γ s) (B : BRep X.prog X.w Pq b p H held bks) (hb : ∀ news', (∀ q ∈ loc, q ∈ news') → PV X m news' Γ eb (· = .ref b)) (hb2 : ∀ news', (∀ q ∈ loc, q ∈ news') → PV X m news' Γ eb2 (· = .ref b))
    (hn : m nn = some nv) (hnv : IsI ((H.ts.length : Int) + 1) nv) (i1 : IsS kd.word kv) (i3 : IsI 1 sv) (i4 : IsI 0 wv) (i5 : IsI 0 uv) (i6 : IsS (Str.ofString "live") stv) (hfs : VRs Pq fls (us.map V.py)) (hnm : IsS nm nmv) (hts : H.ts.length ≤ 900)
    (h : ∀ s' bks' pb', BRep X.prog X.w Pq b pb' (H.grow (T.fresh kd nm us)) held bks' → Y X m (loc ++ bks') Γ s' → Q () s') (hl : X.env.kindOf nn = some .local := by rfl) (hdb : (nn == ("__debug__" : Str)) = false := by decide) :
    wpAny (model X.prog X.w) X.A (assign (.Subscript (.Subscript eb (.Constant (.str (Str.ofString "things")) k1 p1) p2) (.Name nn p3) p4) X.env (.ref la))
      (fun _ s1 => wpAny (model X.prog X.w) X.A (assign (.Subscript (.Subscript eb2 (.Constant (.str (Str.ofString "names")) k2 p5) p6) (.Name nn p7) p8) X.env nmv) Q E s1) E s :=
  book_growK y B hb hb2 hn hnv i1 i3 i4 i5 i6 hfs hnm hts (fun s' bks' B' y' => h s' bks' _ B' y') hl hdb
end
/-- some of the held ones are taken, one after the other -/
inductive TookN (held : List V) : List V → List V → Prop
  | nil : TookN held [] held
  | snoc {vs : List V} {h1 h2 : List V} {v : V} : TookN held vs h1 → Took h1 v h2 → TookN held (vs ++ [v]) h2
theorem TookN.mem {held vs held' : List V} (h : TookN held vs held') : (∀ u ∈ held', u ∈ held) ∧ (∀ v ∈ vs, v ∈ held ∨ v = .int 7) ∧ held'.length ≤ held.length := by
  induction h with
  | nil => exact ⟨fun _ h => h, (fun _ h => nomatch h), Nat.le_refl _⟩
  | snoc _ t ih =>
    obtain ⟨a, b, c⟩ := ih
    obtain ⟨d, e, f⟩ := t.mem
    refine ⟨fun u hu => a _ (d _ hu), fun v hv => ?_, Nat.le_trans f c⟩
    rcases List.mem_append.mp hv with hv | hv
    · exact b v hv
    · rw [List.mem_singleton.mp hv]; exact e.imp (a _) id
noncomputable def Kd.val (n : Nat) : Kd → V
  | .object => .hold .ref n
  | .box => .hold .box n
  | .buffer => .hold .buf n
  | .context => .fn n
noncomputable def Kd.isCtx : Kd → Bool
  | .context => true
  | _ => false
theorem ctx_word (k : Kd) : (k.word == Str.ofString "context") = k.isCtx := by cases k <;> decide +kernel
theorem kinds_at {i : Nat} (h : i < 4) {u1 u2 u3 u4 : Tok} : ∃ (kd : Kd) (v : Value), ([.str (Str.ofString "object") u1, .str (Str.ofString "box") u2, .str (Str.ofString "buffer") u3, .str (Str.ofString "context") u4] : List Value)[i]? = some v ∧ IsS kd.word v := by
  match i, h with
  | 0, _ => exact ⟨.object, _, rfl, _, rfl⟩
  | 1, _ => exact ⟨.box, _, rfl, _, rfl⟩
  | 2, _ => exact ⟨.buffer, _, rfl, _, rfl⟩
  | 3, _ => exact ⟨.context, _, rfl, _, rfl⟩
end Mine
end
section
open PySem PySem.W PySem.Calls PyProof.Rows PySem.Spec
set_option Elab.async false
set_option maxRecDepth 100000
set_option maxHeartbeats 1000000
set_option linter.unusedVariables false
namespace Mine
theorem Inv.permP {x : Option Nat} {H : Mine.H} {a b : List Link} (I : Inv x H a) (p : a.Perm b) : Inv x H b := I.perm (fun j => (p.countP_eq _).symm) fun l h => p.mem_iff.mpr h
theorem Inv.link1 {x : Option Nat} {H : Mine.H} {l : Link} {pend : List Link} {t : T} (I : Inv x H pend) (ht : H.ts[l.2]? = some t) (hs : isStr l.1 = true → t.st.isLive = true) : Inv x (H.link l 1) (l :: pend) := by
  obtain ⟨w, k⟩ := l
  dsimp only at ht hs
  rw [link_mk ht]
  obtain ⟨e1, e2, e3, e4⟩ := add_st t w 1
  have ho : (t.add w 1).own x k = t.own x k := own_congr e4
  have hlt : k < H.ts.length := (List.getElem?_eq_some_iff.mp ht).1
  have hxnd : ∀ j, x = some j → j ∉ H.dying := fun j hj => by obtain ⟨u, h1, h2, h3⟩ := I.xs j hj; exact h3
  have hxk : x = some k → t.st = .dying := fun hj => by obtain ⟨u, h1, h2, h3⟩ := I.xs k hj; rw [ht] at h1; cases h1; exact h2
  have hdyk : ∀ j ∈ H.dying, (j ∈ H.dying ∧ j ≠ k) ∨ (j = k ∧ (t.add w 1).st = .dying) := fun j hj => by
    by_cases e : j = k
    · subst e; obtain ⟨u, h1, h2⟩ := I.dy j hj; rw [ht] at h1; cases h1; exact .inr ⟨rfl, by rw [e1]; exact h2⟩
    · exact .inl ⟨hj, e⟩
  cases hw : isStr w with
  | false =>
    have hst : (t.add w 1).strong = t.strong := by cases w <;> first | rfl | cases hw
    refine I.put ht 0 (by rw [hst]; lia) (fun j => ?_) (fun l hl => ?_) (by rw [e1, hst]; exact I.lv _ _ ht) hdyk I.nd (by rw [e1]; exact Nat.le_refl _) (by rw [e1]; exact hxk) hxnd
    · rw [ho, occ_cons, hw]; simp
    · rw [ho] at hl
      rcases List.mem_append.mp hl with h | h
      · exact .inl h
      · rcases List.mem_cons.mp h with rfl | h
        · exact .inr (.inr hlt)
        · exact .inr (.inl h)
  | true =>
    have hws : w = .strong := by cases w <;> first | rfl | cases hw
    subst hws
    have hlive := hs rfl
    have hge := (I.lv _ _ ht).mp hlive
    refine I.put ht (-1) (by show t.strong + 1 + -1 = t.strong; lia) (fun j => ?_) (fun l hl => ?_) ?_ hdyk I.nd (by rw [e1]; exact Nat.le_refl _) (by rw [e1]; exact hxk) hxnd
    · rw [ho, occ_cons]
      by_cases e : j = k
      · subst e; simp [isStr]; lia
      · have : (k == j) = false := by simpa using Ne.symm e
        simp [isStr, e, this]
    · rw [ho] at hl
      rcases List.mem_append.mp hl with h | h
      · exact .inl h
      · rcases List.mem_cons.mp h with rfl | h
        · exact .inr (.inr hlt)
        · exact .inr (.inl h)
    · rw [e1, hlive]
      have e : (t.add W3.strong 1).strong = t.strong + 1 := rfl
      rw [e]
      exact ⟨fun _ => by lia, fun _ => rfl⟩
/-- what a link asks of the things to be counted once more -/
noncomputable def Can (H : Mine.H) (l : Link) : Prop := ∃ t, H.ts[l.2]? = some t ∧ (isStr l.1 = true → t.st.isLive = true)
theorem Can.link {H : Mine.H} {l m : Link} {d : Int} (c : Can H l) : Can (H.link m d) l := by
  obtain ⟨t, h1, h2⟩ := c
  refine ⟨_, by rw [Mine.H.link_get, h1]; rfl, fun h => ?_⟩
  split
  · rw [(add_st t m.1 d).1]; exact h2 h
  · exact h2 h
theorem Inv.links {x : Option Nat} (ls : List Link) : ∀ {H : Mine.H} {pend : List Link}, Inv x H pend → (∀ l ∈ ls, Can H l) → Inv x (H.links ls 1) (ls ++ pend) := by
  induction ls with
  | nil => intro H pend I _; exact I
  | cons l ls ih =>
    intro H pend I c
    obtain ⟨t, h1, h2⟩ := c l (.head _)
    have := ih (I.link1 h1 h2) fun m hm => (c m (.tail _ hm)).link
    exact this.permP (List.perm_middle)
theorem Inv.can {H : Mine.H} {pend : List Link} (I : Inv none H pend) {l : Link} (h : l ∈ fl none 0 H.ts ++ pend) : Can H l := by
  have hlt := I.rng l h
  have ht : H.ts[l.2]? = some H.ts[l.2] := by simp [hlt]
  refine ⟨_, ht, fun hs => (I.lv _ _ ht).mpr ?_⟩
  rw [I.cnt _ _ ht]
  have : 1 ≤ occ l.2 (fl none 0 H.ts ++ pend) := by
    unfold occ
    exact List.countP_pos_iff.mpr ⟨l, h, by simp [hs]⟩
  lia
theorem H.links_len (ls : List Link) (d : Int) : ∀ H : Mine.H, (H.links ls d).ts.length = H.ts.length := by
  induction ls with
  | nil => intro H; rfl
  | cons a l ih => intro H; show ((H.link a d).links l d).ts.length = _; rw [ih]; simp [Mine.H.link]
theorem H.link_dying (H : Mine.H) (l : Link) (d : Int) : (H.link l d).dying = H.dying := rfl
theorem fsz_link (H : Mine.H) (l : Link) (d : Int) : fsz (H.link l d).ts = fsz H.ts := by
  cases h : H.ts[l.2]? with
  | none =>
    have : (H.link l d).ts = H.ts := by
      unfold Mine.H.link
      exact List.ext_getElem? fun i => by
        rw [List.getElem?_modify]
        by_cases e : l.2 = i
        · subst e; rw [h]; rfl
        · simp [e]
    rw [this]
  | some t =>
    rw [(link_set h).1]
    have := fsz_set (t' := t.add l.1 d) h
    rw [(add_st t l.1 d).2.2.2] at this
    lia
theorem fsz_links (ls : List Link) (d : Int) : ∀ H : Mine.H, fsz (H.links ls d).ts = fsz H.ts := by
  induction ls with
  | nil => intro H; rfl
  | cons a l ih => intro H; show fsz ((H.link a d).links l d).ts = _; rw [ih, fsz_link]
theorem Bd.links {D S : Nat} {H : Mine.H} (ls : List Link) (B : Bd D S H) : Bd D S (H.links ls 1) := by
  have key : ∀ (k : Nat) (t : T), (H.links ls 1).ts[k]? = some t → ∃ t0, H.ts[k]? = some t0 ∧ t.fields = t0.fields ∧ t.name = t0.name := fun k t h => by
    have hlt := (List.getElem?_eq_some_iff.mp h).1
    rw [H.links_len] at hlt
    refine ctr fun hG295 => ?_; obtain ⟨t', h1, _, _, h3, h4⟩ := Mine.H.links_get ls 1 k (H := H) (t := H.ts[k]) (by simp [hlt]); refine hG295 ?_; clear hG295
    rw [h] at h1; cases h1
    exact ⟨_, by simp [hlt], h4, h3⟩
  refine ⟨fun k t h u hu => ?_, by rw [fsz_links]; exact B.sz, fun k t h => ?_⟩
  · obtain ⟨t0, h0, e1, e2⟩ := key k t h
    exact B.dep k t0 h0 u (e1 ▸ hu)
  · obtain ⟨t0, h0, e1, e2⟩ := key k t h
    rw [e2, e1]; exact B.nm k t0 h0
/-- a new thing with fields -/
theorem Inv.grow {H : Mine.H} {pend : List Link} {kd : Kd} {nm : Str} {us : List V} (I : Inv none H (lks us ++ pend)) : Inv none (H.grow (T.fresh kd nm us)) ((.strong, H.ts.length) :: pend) := by
  have hfl : fl none 0 (H.ts ++ [T.fresh kd nm us]) = fl none 0 H.ts ++ lks us := by
    rw [fl_snoc]
    unfold T.own
    rw [if_neg (by simp)]
    rfl
  have hout : occ H.ts.length (fl none 0 H.ts ++ (lks us ++ pend)) = 0 := by
    unfold occ
    refine List.countP_eq_zero.mpr fun l hl => ?_
    have := I.rng l hl
    have : (l.2 == H.ts.length) = false := by simp; lia
    simp [this]
  have ho : ∀ k, k < H.ts.length → occ k ((W3.strong, H.ts.length) :: pend) = occ k pend := fun k hk => by
    rw [occ_cons]
    have : (H.ts.length == k) = false := by simp; lia
    simp [this]
  have hget : ∀ (k : Nat) (t : T), (H.ts ++ [T.fresh kd nm us])[k]? = some t → (k < H.ts.length ∧ H.ts[k]? = some t) ∨ (k = H.ts.length ∧ t = T.fresh kd nm us) := fun k t h => by
    by_cases e : k < H.ts.length
    · rw [List.getElem?_append_left e] at h; exact .inl ⟨e, h⟩
    · rw [List.getElem?_append_right (by lia)] at h
      obtain ⟨h1, h2⟩ := List.getElem?_eq_some_iff.mp h
      simp at h1 h2
      exact .inr ⟨by lia, h2.symm⟩
  refine ⟨fun k t h => ?_, fun l hl => ?_, fun k t h => ?_, fun k hk => ?_, I.nd, ?_, fun k hk => by cases hk⟩
  · show t.strong = ((occ k (fl none 0 (H.ts ++ [T.fresh kd nm us]) ++ ((W3.strong, H.ts.length) :: pend)) : Nat) : Int)
    rw [hfl]
    rcases hget k t h with ⟨hk, h⟩ | ⟨rfl, rfl⟩
    · have := I.cnt k t h
      simp only [occ_app] at this ⊢
      rw [ho k hk]
      push_cast at this ⊢
      lia
    · simp only [occ_app] at hout ⊢
      rw [occ_cons]
      simp [isStr, T.fresh]
      lia
  · show l.2 < (H.ts ++ [T.fresh kd nm us]).length
    have hl' : l ∈ fl none 0 (H.ts ++ [T.fresh kd nm us]) ++ ((W3.strong, H.ts.length) :: pend) := hl
    rw [hfl, List.append_assoc] at hl'
    rw [List.length_append, List.length_singleton]
    rcases List.mem_append.mp hl' with h | h
    · have := I.rng l (List.mem_append_left _ h); exact n_lsu (Nat.le_of_lt this)
    · rcases List.mem_append.mp h with h | h
      · have := I.rng l (List.mem_append_right _ (List.mem_append_left _ h)); exact n_lsu (Nat.le_of_lt this)
      · rcases List.mem_cons.mp h with rfl | h
        · show H.ts.length < H.ts.length + 1; exact n_lsu (Nat.le_refl _)
        · have := I.rng l (List.mem_append_right _ (List.mem_append_right _ h)); exact n_lsu (Nat.le_of_lt this)
  · rcases hget k t h with ⟨hk, h⟩ | ⟨rfl, rfl⟩
    · exact I.lv k t h
    · simp [T.fresh, Sta.isLive]
  · obtain ⟨t, h1, h2⟩ := I.dy k hk
    have hlt := (List.getElem?_eq_some_iff.mp h1).1
    exact ⟨t, by show (H.ts ++ _)[k]? = _; rw [List.getElem?_append_left hlt]; exact h1, h2⟩
  · have := I.dl
    have e : lives (H.ts ++ [T.fresh kd nm us]) = lives H.ts + 1 := by simp [lives, T.fresh, Sta.isLive]
    show H.dying.length + lives (H.ts ++ [T.fresh kd nm us]) ≤ (H.ts ++ [T.fresh kd nm us]).length
    rw [e, List.length_append, List.length_singleton]; lia
theorem fsz_grow (H : Mine.H) (t : T) : fsz (H.grow t).ts = fsz H.ts + vsz t.fields := by
  show fsz (H.ts ++ [t]) = _
  simp [fsz, vsz]
theorem Bd.grow {D S : Nat} {H : Mine.H} {t : T} (B : Bd D S H) (hd : ∀ u ∈ t.fields, V.dep u ≤ D) (hn : PyData.canLay0 (.str t.name) = true ∧ t.fields.length ≤ 2) : Bd D (S + vsz t.fields) (H.grow t) := by
  have hget : ∀ (k : Nat) (t' : T), (H.ts ++ [t])[k]? = some t' → H.ts[k]? = some t' ∨ t' = t := fun k t' h => by
    by_cases e : k < H.ts.length
    · rw [List.getElem?_append_left e] at h; exact .inl h
    · rw [List.getElem?_append_right (by lia)] at h
      obtain ⟨h1, h2⟩ := List.getElem?_eq_some_iff.mp h
      simp at h1 h2
      exact .inr h2.symm
  refine ⟨fun k t' h u hu => ?_, by rw [fsz_grow]; exact Nat.add_le_add_right B.sz _, fun k t' h => ?_⟩
  · rcases hget k t' h with h | rfl
    · exact B.dep k t' h u hu
    · exact hd u hu
  · rcases hget k t' h with h | rfl
    · exact B.nm k t' h
    · exact hn
theorem Took.perm {held held' : List V} {v : V} (h : Took held v held') : (lks held).Perm (v.links ++ lks held') ∧ v.size + vsz held' ≤ vsz held + 1 ∧ held'.length ≤ held.length := by
  rcases h with ⟨rfl, rfl, rfl⟩ | ⟨pre, post, rfl, rfl⟩
  · exact ⟨List.Perm.refl _, by simp [V.size, vsz], Nat.le_refl _⟩
  · refine ⟨?_, by rw [vsz_app, vsz_app, vsz_cons]; lia, by simp⟩
    rw [lks_app, lks_app, lks_cons]
    rw [← List.append_assoc, ← List.append_assoc]
    exact List.Perm.append_right _ List.perm_append_comm
theorem TookN.perm {held held' vs : List V} (h : TookN held vs held') : (lks held).Perm (lks vs ++ lks held') ∧ vsz vs + vsz held' ≤ vsz held + vs.length ∧ held'.length ≤ held.length := by
  induction h with
  | nil => exact ⟨List.Perm.refl _, by simp [vsz], Nat.le_refl _⟩
  | @snoc vs h1 h2 v _ t ih =>
    obtain ⟨a, b, c⟩ := ih
    obtain ⟨d, e, f⟩ := t.perm
    refine ⟨?_, by rw [vsz_app, vsz_cons]; simp only [vsz, List.map_nil, List.sum_nil, List.length_append, List.length_singleton] at b e ⊢; lia, Nat.le_trans f c⟩
    rw [lks_app, List.append_assoc]
    refine a.trans (List.Perm.append_left _ ?_)
    rw [lks_cons]
    simpa [lks] using d
theorem K_lay : PyData.canLay0 (.str (Str.ofString "K")) = true ∧ PyData.canLay0 (.str (Str.ofString "")) = true := by constructor <;> decide +kernel
theorem Bnd.make {D M n : Nat} {H : Mine.H} {held held' vs : List V} {kd : Kd} (B : Bnd D M n H held) (h : TookN held vs held') (hD : 1 ≤ D) (hv : vs.length ≤ 2) : Bnd D (M + 3) (n + 1) (H.grow (T.fresh kd (Str.ofString "K") vs)) (held' ++ [kd.val H.ts.length]) := by
  obtain ⟨p1, p2, p3⟩ := h.perm
  obtain ⟨m1, m2, m3⟩ := h.mem
  have hs := B.sz
  have hl := B.hl
  have ht := B.ts
  have hvd : ∀ u ∈ vs, u.dep ≤ D := fun u hu => (m2 u hu).elim (B.hd u) fun e => by rw [e]; exact hD
  refine ⟨?_, ?_, fun u hu => ?_, ?_, ?_, by simp; exact n_t p3 hl⟩
  · have := (B.inv.permP p1).grow (kd := kd) (nm := Str.ofString "K")
    refine this.permP ?_
    rw [lks_app]
    have e : lks [kd.val H.ts.length] = [(W3.strong, H.ts.length)] := by cases kd <;> rfl
    rw [e]
    exact List.perm_append_comm (l₁ := [_])
  · have := B.bd.grow (t := T.fresh kd (Str.ofString "K") vs) hvd ⟨K_lay.1, hv⟩
    refine ⟨this.dep, Nat.le_refl _, this.nm⟩
  · rcases List.mem_append.mp hu with h | h
    · exact B.hd u (m1 u h)
    · rw [List.mem_singleton.mp h]; cases kd <;> exact hD
  · rw [fsz_grow, vsz_app]
    have e : vsz [kd.val H.ts.length] = 1 := by cases kd <;> rfl
    have e2 : vsz (T.fresh kd (Str.ofString "K") vs).fields = vsz vs := rfl
    lia
  · show (H.ts ++ [_]).length ≤ n + 1
    rw [List.length_append, List.length_singleton]; exact n_a ht (Nat.le_refl _)
/-- a value with the same links stands behind -/
theorem Bnd.push {D M n : Nat} {H : Mine.H} {held : List V} {x : V} {ls : List Link} (inv : Inv none H ls) (p : ls.Perm (lks held ++ x.links)) (bd : Bd D (fsz H.ts) H) (hd : ∀ u ∈ held, V.dep u ≤ D) (hx : x.dep ≤ D) (hs : fsz H.ts + vsz held + x.size ≤ M) (ht : H.ts.length ≤ n) (hl : held.length + 1 ≤ n) : Bnd D M n H (held ++ [x]) := by
  have e : vsz [x] = x.size := by simp [vsz]
  refine ⟨inv.permP (by rw [lks_app]; simpa [lks] using p), bd, fun u hu => ?_, by rw [vsz_app]; lia, ht, by simp; exact hl⟩
  rcases List.mem_append.mp hu with h | h
  · exact hd u h
  · rw [List.mem_singleton.mp h]; exact hx
theorem Bnd.join {D M n : Nat} {H : Mine.H} {held held' : List V} (B : Bnd D M n H held) (h : JoinRel held held') (hD : 1 ≤ D) : Bnd (D + 2) (M + 3) (n + 1) H held' := by
  have hs := B.sz
  have hl := B.hl
  have ht := B.ts
  have bd2 := B.bd.mono (Nat.le_add_right D 2) (Nat.le_refl _)
  rcases h with ⟨v1, h1, v2, h2, t1, t2, rfl⟩ | ⟨v, h1, t1, rfl⟩ | ⟨v, h1, t1, rfl⟩ | rfl
  · obtain ⟨p1, q1, r1⟩ := t1.perm
    obtain ⟨p2, q2, r2⟩ := t2.perm
    have m1 := t1.mem
    have m2 := t2.mem
    have d1 : v1.dep ≤ D := m1.2.1.elim (B.hd _) fun e => by rw [e]; exact hD
    have d2 : v2.dep ≤ D := m2.2.1.elim (fun h => B.hd _ (m1.1 _ h)) fun e => by rw [e]; exact hD
    refine Bnd.push B.inv ?_ bd2 (fun u hu => Nat.le_trans (B.hd u (m1.1 _ (m2.1 _ hu))) (Nat.le_add_right _ _)) (by show max v1.dep v2.dep + 2 ≤ _; lia) (by show _ + (v1.size + v2.size + 1) ≤ _; lia) (n_r ht) (n_a (n_t r2 (n_t r1 hl)) (Nat.le_refl _))
    refine p1.trans ((List.Perm.append_left _ p2).trans ?_)
    show (v1.links ++ (v2.links ++ lks h2)).Perm (lks h2 ++ (v1.links ++ v2.links))
    rw [← List.append_assoc]
    exact List.perm_append_comm
  · obtain ⟨p1, q1, r1⟩ := t1.perm
    have m1 := t1.mem
    have d1 : v.dep ≤ D := m1.2.1.elim (B.hd _) fun e => by rw [e]; exact hD
    exact Bnd.push B.inv (p1.trans List.perm_append_comm) bd2 (fun u hu => Nat.le_trans (B.hd u (m1.1 _ hu)) (Nat.le_add_right _ _)) (by show v.dep + 1 ≤ _; exact n_a d1 (n_b rfl)) (by show _ + (v.size + 1) ≤ _; lia) (n_r ht) (n_a (n_t r1 hl) (Nat.le_refl _))
  · obtain ⟨p1, q1, r1⟩ := t1.perm
    have m1 := t1.mem
    have d1 : v.dep ≤ D := m1.2.1.elim (B.hd _) fun e => by rw [e]; exact hD
    exact Bnd.push B.inv (p1.trans List.perm_append_comm) bd2 (fun u hu => Nat.le_trans (B.hd u (m1.1 _ hu)) (Nat.le_add_right _ _)) (by show v.dep + 1 ≤ _; exact n_a d1 (n_b rfl)) (by show _ + (v.size + 1) ≤ _; lia) (n_r ht) (n_a (n_t r1 hl) (Nat.le_refl _))
  · exact Bnd.push B.inv (by simp [V.links]) bd2 (fun u hu => Nat.le_trans (B.hd u hu) (Nat.le_add_right _ _)) (by show 1 ≤ _; exact n_r hD) (by show _ + 1 ≤ _; exact n_a hs (n_b rfl)) (n_r ht) (n_a hl (Nat.le_refl _))
theorem Bnd.can {D M n : Nat} {H : Mine.H} {held : List V} (B : Bnd D M n H held) {v : V} (hv : v ∈ held) : ∀ l ∈ v.links, Can H l := fun l hl => B.inv.can (List.mem_append_right _ (List.mem_flatMap.mpr ⟨v, hv, hl⟩))
theorem size_le {held : List V} {v : V} (hv : v ∈ held) : v.size ≤ vsz held := by
  obtain ⟨a, b, rfl⟩ := List.append_of_mem hv
  rw [vsz_app, vsz_cons]; lia
/-- a held one once more -/
theorem Bnd.copy {D M n : Nat} {H : Mine.H} {held : List V} {v : V} (B : Bnd D M n H held) (hv : v ∈ held) : Bnd D (2 * M) (n + 1) (H.links v.links 1) (held ++ [v]) := by
  have hs := B.sz
  have hz := size_le hv
  have bd := B.bd.links v.links
  exact Bnd.push (B.inv.links v.links (B.can hv)) List.perm_append_comm (by rw [fsz_links]; exact bd) B.hd (B.hd v hv) (by rw [fsz_links]; lia) (by rw [H.links_len]; have := B.ts; exact n_r this) (by have := B.hl; exact n_a this (Nat.le_refl _))
/-- one that is led to by one link -/
theorem Bnd.link {D M n : Nat} {H : Mine.H} {held : List V} {l : Link} {x : V} (B : Bnd D M n H held) (c : Can H l) (hx : x.links = [l]) (hx2 : x.dep ≤ D) (hx3 : x.size ≤ 1) : Bnd D (M + 1) (n + 1) (H.link l 1) (held ++ [x]) := by
  have hs := B.sz
  obtain ⟨t, h1, h2⟩ := c
  have bd := B.bd.links [l]
  have e : H.links [l] 1 = H.link l 1 := rfl
  rw [e] at bd
  exact Bnd.push (B.inv.link1 h1 h2) (by rw [hx]; exact List.perm_append_comm (l₁ := [l])) (by rw [fsz_link]; exact bd) B.hd hx2 (by rw [fsz_link]; exact n_a hs hx3) (by have := Mine.H.links_len [l] 1 H; rw [e] at this; have := B.ts; lia) (by have := B.hl; exact n_a this (Nat.le_refl _))
theorem Bnd.plain {D M n : Nat} {H : Mine.H} {held : List V} {x : V} (B : Bnd D M n H held) (hx : x.links = []) (hx2 : x.dep ≤ D) (hx3 : x.size ≤ 1) : Bnd D (M + 1) (n + 1) H (held ++ [x]) := by
  have hs := B.sz
  exact Bnd.push B.inv (by rw [hx, List.append_nil]) B.bd B.hd hx2 (n_a hs hx3) (by have := B.ts; exact n_r this) (by have := B.hl; exact n_a this (Nat.le_refl _))
end Mine
end
section
open PySem PySem.W PySem.Calls PyProof.Rows PySem.Spec
set_option Elab.async false
set_option maxRecDepth 100000
set_option maxHeartbeats 1000000
set_option linter.unusedVariables false
namespace Mine
theorem H.links_more (ls : List Link) (k : Nat) : ∀ {H : Mine.H} {t : T}, H.ts[k]? = some t → ∃ t', (H.links ls 1).ts[k]? = some t' ∧ t.strong ≤ t'.strong ∧ t'.st = t.st ∧ t'.fields = t.fields := by
  induction ls with
  | nil => intro H t h; exact ⟨t, h, Int.le_refl _, rfl, rfl⟩
  | cons l ls ih =>
    intro H t h
    have h2 : (H.link l 1).ts[k]? = some (if l.2 = k then t.add l.1 1 else t) := by rw [Mine.H.link_get, h]; rfl
    refine ctr fun hG1 => ?_; obtain ⟨t', h3, h4, h5, h6⟩ := ih h2; refine hG1 ?_; clear hG1
    refine ⟨t', h3, ?_, ?_, ?_⟩
    · refine Int.le_trans ?_ h4
      split
      · obtain ⟨w, j⟩ := l
        cases w
        · show t.strong ≤ t.strong + 1; lia
        · exact Int.le_refl _
        · exact Int.le_refl _
      · exact Int.le_refl _
    · rw [h5]; split
      · exact (add_st ..).1
      · rfl
    · rw [h6]; split
      · exact (add_st ..).2.2.2
      · rfl
theorem fl_at {ts : List T} {k : Nat} {t : T} (h : ts[k]? = some t) {l : Link} (hl : l ∈ lks t.fields) : l ∈ fl none 0 ts := by
  refine fl_own none h 0 ?_
  unfold T.own
  rw [if_neg (by simp)]
  exact hl
theorem sum_le {ts : List T} {k : Nat} {t : T} (h : ts[k]? = some t) : vsz t.fields ≤ fsz ts := fsz_at h
/-- what is held is alive -/
theorem Bnd.alive {D M n : Nat} {H : Mine.H} {held : List V} (B : Bnd D M n H held) {v : V} (hv : v ∈ held) {k : Nat} (hl : v.links = [(.strong, k)]) : ∃ t, H.ts[k]? = some t ∧ t.st.isLive = true ∧ 1 ≤ t.strong := by
  obtain ⟨t, h1, h2⟩ := B.can hv (.strong, k) (by rw [hl]; exact .head _)
  exact ⟨t, h1, h2 rfl, (B.inv.lv _ _ h1).mp (h2 rfl)⟩
/-- a buffer with more than one holder is copied -/
theorem Bnd.own {D M n i k : Nat} {H : Mine.H} {held : List V} {t : T} (B : Bnd D M n H held) (hi : held[i]? = some (.hold .buf k)) (ht : H.ts[k]? = some t) (hne : t.strong ≠ 1) (hD : D ≤ 60) (hM : M ≤ 2 ^ 21) (hn : n ≤ 59) :
    ∃ H3 t3, Gone 61 ((H.links (lks t.fields) 1).grow (T.fresh .buffer (Str.ofString "") t.fields)) [(.strong, k)] H3 ∧ (∃ N, Run N ((H.links (lks t.fields) 1).grow (T.fresh .buffer (Str.ofString "") t.fields)) [(.strong, k)] H3) ∧
      Bnd D (2 * M + 1) (n + 1) H3 (held.set i (.hold .buf H.ts.length)) ∧ H3.ts[k]? = some t3 ∧ t3.fields = t.fields ∧ H3.ts[H.ts.length]? = some (T.fresh .buffer (Str.ofString "") t.fields) ∧ k < H.ts.length := by
  have hmem := List.mem_of_getElem? hi
  have hklt := (List.getElem?_eq_some_iff.mp hi).1
  obtain ⟨t0, ht0, hlive, hge⟩ := B.alive hmem (k := k) rfl
  rw [ht] at ht0; cases ht0
  have hk : k < H.ts.length := (List.getElem?_eq_some_iff.mp ht).1
  have hs := B.sz
  have htl := B.ts
  have hhl := B.hl
  have hz := sum_le ht
  -- the held ones without this one
  have hsplit : held = held.take i ++ .hold .buf k :: held.drop (i + 1) ∧ held.set i (.hold .buf H.ts.length) = held.take i ++ .hold .buf H.ts.length :: held.drop (i + 1) := by
    have he := (List.getElem?_eq_some_iff.mp hi).2
    refine ⟨?_, List.set_eq_take_append_cons_drop .. |>.trans (by rw [if_pos hklt])⟩
    rw [← he, List.getElem_cons_drop, List.take_append_drop]
  obtain ⟨e1, e2⟩ := hsplit
  have I1 : Inv none (H.links (lks t.fields) 1) (lks t.fields ++ lks held) := B.inv.links _ fun l hl => B.inv.can (List.mem_append_left _ (fl_at ht hl))
  have I2 := I1.grow (kd := .buffer) (nm := Str.ofString "")
  rw [H.links_len] at I2
  refine ctr fun hG2 => ?_; obtain ⟨t1, ht1, hst1, hlv1, hf1⟩ := H.links_more (lks t.fields) k ht; refine hG2 ?_; clear hG2
  have hlen1 : k < (H.links (lks t.fields) 1).ts.length := by rw [H.links_len]; exact hk
  generalize hH2 : (H.links (lks t.fields) 1).grow (T.fresh .buffer (Str.ofString "") t.fields) = H2 at *
  have hts2 : H2.ts = (H.links (lks t.fields) 1).ts ++ [T.fresh .buffer (Str.ofString "") t.fields] := by rw [← hH2]; rfl
  have ht2 : H2.ts[k]? = some t1 := by rw [hts2, List.getElem?_append_left hlen1]; exact ht1
  have hn2 : H2.ts[H.ts.length]? = some (T.fresh .buffer (Str.ofString "") t.fields) := by
    rw [hts2, List.getElem?_append_right (by rw [H.links_len]; exact Nat.le_refl _), H.links_len]; simp
  have hlen2 : H2.ts.length = H.ts.length + 1 := by rw [hts2, List.length_append, H.links_len]; rfl
  have bd2 : Bd D (fsz H2.ts) H2 := by
    have b1 := (B.bd.links (lks t.fields)).grow (t := T.fresh .buffer (Str.ofString "") t.fields) (B.bd.dep k t ht) ⟨K_lay.2, (B.bd.nm k t ht).2⟩
    rw [hH2] at b1
    exact ⟨b1.dep, Nat.le_refl _, b1.nm⟩
  have hfz2 : fsz H2.ts = fsz H.ts + vsz t.fields := by
    have := fsz_grow (H.links (lks t.fields) 1) (T.fresh .buffer (Str.ofString "") t.fields)
    rw [hH2, fsz_links] at this
    exact this
  have perm : ((W3.strong, H.ts.length) :: lks held).Perm ((W3.strong, k) :: lks (held.set i (.hold .buf H.ts.length))) := by
    rw [e2]
    have e3 : lks held = lks (held.take i) ++ ((W3.strong, k) :: lks (held.drop (i + 1))) := by
      have := congrArg lks e1
      rw [lks_app, lks_cons] at this
      exact this
    rw [e3, lks_app, lks_cons]
    show ((W3.strong, H.ts.length) :: (lks (held.take i) ++ ((W3.strong, k) :: lks (held.drop (i + 1))))).Perm ((W3.strong, k) :: (lks (held.take i) ++ ((W3.strong, H.ts.length) :: lks (held.drop (i + 1)))))
    refine (List.Perm.cons _ List.perm_middle).trans ((List.Perm.swap _ _ _).trans (List.Perm.cons _ List.perm_middle.symm))
  have I3 := I2.permP perm
  obtain ⟨tx, ok⟩ := I3.okStep (bd2.mono hD (n_e hfz2 (n_t (n_a (n_t (n_al hs) (n_t hM (Nat.le_refl _))) (n_t hz (n_t (n_al hs) (n_t hM (Nat.le_refl _))))) (Nat.le_refl _)))) (n_e hlen2 (n_t (n_a (n_t htl (n_t hn (Nat.le_refl _))) (Nat.le_refl _)) (n_b rfl)))
  have htx := ok.at_
  dsimp only at htx
  rw [ht2] at htx; cases htx
  have hends : t1.ends = false := by
    unfold T.ends
    have : (t1.strong == 1) = false := by simp; lia
    rw [this]; rfl
  have hstep : H2.step (W3.strong, k) = (H2.link (.strong, k) (-1), []) := by
    rw [step_of (l := (W3.strong, k)) ht2, hends]; rfl
  obtain ⟨I4, _, _, hlen4⟩ := I3.step (l := (W3.strong, k)) ht2
  have B4 := bd2.step (l := (W3.strong, k)) ht2
  rw [hstep] at I4 hlen4 B4
  refine ⟨H2.link (.strong, k) (-1), t1.add .strong (-1), ?_, ⟨1, ?_⟩, ⟨I4, ⟨B4.dep, Nat.le_refl _, B4.nm⟩, fun u hu => ?_, ?_, ?_, ?_⟩, ?_, ?_, ?_, hk⟩
  · exact Gone.cons (H1 := H2.link (.strong, k) (-1)) ok (by rw [hstep]; exact .nil) .nil
  · refine .cons ok (by simp) ?_
    rw [hstep]; exact .nil
  · rcases List.mem_or_eq_of_mem_set hu with h | rfl
    · exact B.hd u h
    · have := B.hd _ hmem
      exact this
  · rw [fsz_link, hfz2]
    have : vsz (held.set i (.hold .buf H.ts.length)) = vsz held := by
      rw [e2]
      have := congrArg vsz e1
      rw [this, vsz_app, vsz_app, vsz_cons, vsz_cons]
      rfl
    lia
  · rw [hlen4, hlen2]; exact n_a htl (Nat.le_refl _)
  · rw [List.length_set]; exact n_r hhl
  · rw [Mine.H.link_get, ht2]; simp
  · exact hf1
  · rw [Mine.H.link_get, hn2]
    have : ¬ (k = H.ts.length) := by lia
    simp [this]
end Mine
end
section
open PySem PySem.W PySem.Calls PyProof.Rows PySem.Spec
set_option Elab.async false
set_option maxRecDepth 100000
set_option maxHeartbeats 2000000
set_option rowWalk.seconds 0
set_option linter.unusedVariables false
namespace Mine
section
variable {X : Fn} {m : Str → Option Value} {news Γ : List (Addr × Obj)} {E : Value → Shared → Prop} {s : Shared}
theorem c_addT {t b : Addr} {vs ws : List Value} {Q : Value → Shared → Prop} (y : Y X m news Γ s) (ht : (t, tupO vs) ∈ Γ) (hb : (b, tupO ws) ∈ Γ) (hz : vs.length + ws.length ≤ 1000)
    (h : ∀ r Γ' s', (r, tupO (vs ++ ws)) ∈ Γ' ++ Γ → Y X m news (Γ' ++ Γ) s' → Q (.ref r) s') : wpAny (model X.prog X.w) X.A (binaryOp .Add (.ref t) (.ref b)) Q E s := by
  have hS : sizeLine = 16777216 := rfl
  refine add_tuples y.z.F y.z.N (z_tupO y.z (TT.mk (.inr ht) rfl rfl)) (z_tupO y.z (TT.mk (.inr hb) rfl rfl)) (fun e => ?_) (fun e e2 => ?_) (fun e e2 h' F' N' => ?_) (n_t hz (n_b rfl))
  · subst e; exact h b [] s (by simpa using hb) y
  · subst e2; exact h t [] s (by simpa using ht) y
  · refine h s.heap.objs.size [(s.heap.objs.size, tupO (vs ++ ws))] { s with heap := h' } (.head _) (y.to (t := s.toks) ⟨F', fun p hp => ?_, y.z.nd, fun p hp => ?_⟩)
    · rcases List.mem_append.mp hp with hp | hp
      · exact N' p (.tail _ (List.mem_append_left _ hp))
      · rcases List.mem_cons.mp hp with rfl | hp
        · exact N' _ (.head _)
        · exact N' p (.tail _ (List.mem_append_right _ hp))
    · rcases List.mem_cons.mp hp with rfl | hp
      · exact ⟨isT_tupO _, y.z.F.ns.lt⟩
      · exact y.z.T p hp
theorem ev_binE {a b : Expr} {op : Operator} {pos : Pos} {Q : Value → Shared → Prop} (h : wpAny (model X.prog X.w) X.A (eval a X.env) (fun x s' => wpAny (model X.prog X.w) X.A (eval b X.env) (fun z s2 => wpAny (model X.prog X.w) X.A (binaryOp op x z) Q E s2) E s') E s) : wpAny (model X.prog X.w) X.A (eval (.BinOp a op b pos) X.env) Q E s :=
  wpAny_BinOp h
/-- nx[:ni] of two parts -/
theorem ev_upTo {nx ni : Str} {p0 p1 p2 p3 : Pos} {t : Addr} {a b iv : Value} {i : Nat} {Q : Value → Shared → Prop} (hx : m nx = some (.ref t)) (ht : TT X.g Γ t [a, b]) (hi : m ni = some iv) (hiv : IsI i iv) (hlt : i < 2) (y : Y X m news Γ s) (h : ∀ t' s', Y X m news ((t', tupO ([a, b].take i)) :: Γ) s' → Q (.ref t') s')
    (h0 : X.env.kindOf nx = some .local := by rfl) (hdb : (nx == ("__debug__" : Str)) = false := by decide) (h1 : X.env.kindOf ni = some .local := by rfl) (hdb1 : (ni == ("__debug__" : Str)) = false := by decide) :
    wpAny (model X.prog X.w) X.A (eval (.Subscript (.Name nx p0) (.Slice none (some (.Name ni p1)) none p2) p3) X.env) Q E s := by
  walk1
  refine wpAny_mono (pv_loc hx h0 hdb _ s y) (fun v s' q => ?_) fun _ _ x => x
  obtain ⟨rfl, y'⟩ := q
  walk1
  walk1
  refine wpAny_mono (pv_loc hi h1 hdb1 _ _ y') (fun v s' q => ?_) fun _ _ x => x
  obtain ⟨rfl, y''⟩ := q
  obtain ⟨ti, rfl⟩ := hiv
  walk1
  obtain rfl | rfl : i = 0 ∨ i = 1 := by exact n_o hlt
  · exact z_sliceT (s := s') (a := 0) (b := 0) (k := 0) (zs := []) y''.z (z_tupO y''.z ht) .none (.int _ _) .none rfl rfl (by decide) rfl rfl (fun t' h' z' => h t' _ (y''.to z')) (Nat.le_of_ble_eq_true rfl)
  · exact z_sliceT (s := s') (a := 0) (b := 1) (k := 1) (zs := [a]) y''.z (z_tupO y''.z ht) .none (.int _ _) .none rfl rfl (by decide) rfl rfl (fun t' h' z' => h t' _ (y''.to z')) (Nat.le_of_ble_eq_true rfl)
/-- nx[el:] of two parts -/
theorem ev_from {nx : Str} {el : Expr} {p0 p2 p3 : Pos} {t : Addr} {a b : Value} {i : Nat} {Q : Value → Shared → Prop} (hx : m nx = some (.ref t)) (ht : TT X.g Γ t [a, b]) (hel : PV X m news Γ el (IsI ((i : Int) + 1))) (hlt : i < 2) (y : Y X m news Γ s) (h : ∀ t' s', Y X m news ((t', tupO ([a, b].drop (i + 1))) :: Γ) s' → Q (.ref t') s')
    (h0 : X.env.kindOf nx = some .local := by rfl) (hdb : (nx == ("__debug__" : Str)) = false := by decide) :
    wpAny (model X.prog X.w) X.A (eval (.Subscript (.Name nx p0) (.Slice (some el) none none p2) p3) X.env) Q E s := by
  walk1
  refine wpAny_mono (pv_loc hx h0 hdb _ s y) (fun v s' q => ?_) fun _ _ x => x
  obtain ⟨rfl, y'⟩ := q
  walk1
  refine wpAny_mono (hel _ s' y') (fun v s' q => ?_) fun _ _ x => x
  obtain ⟨⟨tj, rfl⟩, y''⟩ := q
  walk1
  walk1
  obtain rfl | rfl : i = 0 ∨ i = 1 := by exact n_o hlt
  · exact z_sliceT (s := s') (a := 1) (b := 2) (k := 1) (zs := [b]) y''.z (z_tupO y''.z ht) (.int _ _) .none .none rfl rfl (by decide) rfl rfl (fun t' h' z' => h t' _ (y''.to z')) (Nat.le_of_ble_eq_true rfl)
  · exact z_sliceT (s := s') (a := 2) (b := 2) (k := 0) (zs := []) y''.z (z_tupO y''.z ht) (.int _ _) .none .none rfl rfl (by decide) rfl rfl (fun t' h' z' => h t' _ (y''.to z')) (Nat.le_of_ble_eq_true rfl)
end
end Mine
end
section
open PySem PySem.W PySem.Calls PyProof.Rows PySem.Spec
set_option Elab.async false
set_option maxRecDepth 100000
set_option maxHeartbeats 2000000
set_option linter.unusedVariables false
namespace Mine
section
variable {X : Fn} {m : Str → Option Value} {news Γ : List (Addr × Obj)} {E : Value → Shared → Prop} {s : Shared}
theorem Z.grow2 {g h h' : Heap} {L a1 a2 : Addr} {o1 o2 : Obj} (z : Z g L h m news Γ) (hk : ∀ b o, h.get? b = some o → h'.get? b = some o) (e1 : h'.get? a1 = some o1) (e2 : h'.get? a2 = some o2) (l1 : h.objs.size ≤ a1) (l2 : h.objs.size ≤ a2) (hne : a1 ≠ a2) : Z g L h' m ((a1, o1) :: (a2, o2) :: news) Γ := by
  have hL := z.F.ns.lt
  have hg : ∀ a, h.objs.size ≤ a → a ≠ L ∧ g.get? a = none := fun a ha => ⟨fun e => by subst e; exact Nat.lt_irrefl _ (Nat.lt_of_lt_of_le hL ha), by
    cases e : g.get? a with
    | none => rfl
    | some ob => exact absurd (Heap.lt_size (z.F.keep _ _ e)) (Nat.not_lt.mpr ha)⟩
  refine ⟨⟨?_, fun b ob e => hk _ _ (z.F.keep b ob e), z.F.above⟩, fun p hp => ?_, ?_, z.T⟩
  · refine ctr fun hG38 => ?_; obtain ⟨oL, es, ep, hL, r⟩ := id z.F.ns; refine hG38 ?_; clear hG38
    exact ⟨oL, es, ep, hk _ _ hL, r⟩
  · rcases List.mem_cons.mp hp with rfl | hp
    · exact ⟨e1, hg _ l1⟩
    · rcases List.mem_cons.mp hp with rfl | hp
      · exact ⟨e2, hg _ l2⟩
      · have q := z.N p hp
        exact ⟨hk _ _ q.1, q.2⟩
  · have out : ∀ a, h.objs.size ≤ a → a ∉ news.map (·.1) := fun a ha q => by
      obtain ⟨p, hp, e⟩ := List.mem_map.mp q
      exact absurd (z.lt (List.mem_append_left _ hp)) (by rw [e]; exact Nat.not_lt.mpr ha)
    rw [List.map_cons, List.map_cons, List.nodup_cons, List.nodup_cons]
    refine ⟨fun q => ?_, out _ l2, z.nd⟩
    rcases List.mem_cons.mp q with q | q
    · exact hne q
    · exact out _ l1 q
theorem Z.alter2 {g h h' : Heap} {L a1 a2 : Addr} {o1 o2 o1' o2' : Obj} (z : Z g L h m ((a1, o1) :: (a2, o2) :: news) Γ) (n1 : ¬ IsT o1) (n2 : ¬ IsT o2) (hx : ∀ b ob, b ≠ a1 → b ≠ a2 → h.get? b = some ob → h'.get? b = some ob) (e1 : h'.get? a1 = some o1') (e2 : h'.get? a2 = some o2') : Z g L h' m ((a1, o1') :: (a2, o2') :: news) Γ := by
  have nd := z.nd
  rw [List.map_cons, List.map_cons, List.nodup_cons, List.nodup_cons] at nd
  have hI := z.N (a1, o1) (.head _)
  have hJ := z.N (a2, o2) (.tail _ (.head _))
  refine ⟨⟨?_, (fun b ob e' => hx b ob (fun q => by subst q; rw [hI.2.2] at e'; cases e') (fun q => by subst q; rw [hJ.2.2] at e'; cases e') (z.F.keep b ob e')), z.F.above⟩, fun p hp => ?_, z.nd, z.T⟩
  · refine ctr fun hG39 => ?_; obtain ⟨oL, es, ep, hL, r⟩ := id z.F.ns; refine hG39 ?_; clear hG39
    exact ⟨oL, es, ep, hx _ _ (Ne.symm hI.2.1) (Ne.symm hJ.2.1) hL, r⟩
  · rcases List.mem_cons.mp hp with rfl | hp
    · exact ⟨e1, hI.2⟩
    · rcases List.mem_cons.mp hp with rfl | hp
      · exact ⟨e2, hJ.2⟩
      · have q := z.N p (.tail _ (.tail _ hp))
        refine ⟨hx _ _ (fun e' => ?_) (fun e' => ?_) q.1, q.2⟩
        · rcases List.mem_append.mp hp with hp | hp
          · exact nd.1 (.tail _ (List.mem_map.mpr ⟨p, hp, e'⟩))
          · have q1 := q.1
            rw [e', hI.1] at q1
            cases q1
            exact n1 (z.T p hp).1
        · rcases List.mem_append.mp hp with hp | hp
          · exact nd.2.1 (List.mem_map.mpr ⟨p, hp, e'⟩)
          · have q1 := q.1
            rw [e', hJ.1] at q1
            cases q1
            exact n2 (z.T p hp).1
/-- enumerate(l) made -/
theorem c_enum {l : Addr} {its : Array Value} {n : Nat} {Q : Value → Shared → Prop} (y : Y X m news Γ s) (hl : (l, listOf its n) ∈ news) (h : ∀ e it oi s', IsLit oi l 0 → Y X m ((e, enumO it 0 .none) :: (it, oi) :: news) Γ s' → Q (.ref e) s') : wpAny (model X.prog X.w) X.A (call (.type "enumerate") [.ref l]) Q E s := by
  refine call_enumerate_list (y.z.isList hl) fun h' he hi hsz hk => ?_
  obtain ⟨oi, hoi, h1, h2⟩ := hi
  exact h _ _ oi _ ⟨h1, h2⟩ (y.to (t := s.toks) (y.z.grow2 hk he hoi (Nat.le_succ _) (Nat.le_refl _) (Nat.succ_ne_self _)))
/-- over enumerate(l) -/
theorem comp_enum {use : Option (Value → Sem Unit)} {elt : Expr} {xa xv : Str} {pa pv pt : Pos} {kt : Nat} {ifs : List Expr} {scope : Scope} {cl : List (Str × Addr)} {Q : Value → Shared → Prop} {e it l : Addr} {oi : Obj} {n : Nat} {J : Nat → List Value → List (Addr × Obj) → List (Addr × Obj) → Prop} (y : Y X m ((e, enumO it 0 .none) :: (it, oi) :: news) Γ s) (hoi : IsLit oi l 0)
    (noT : ∀ p ∈ news, ¬ IsT p.2) (J0 : J 0 [] news []) (JT : ∀ i ys nw Γ', J i ys nw Γ' → (∀ p ∈ nw, ¬ IsT p.2) ∧ ys.length ≤ 1000)
    (step : ∀ i ys nw Γ', J i ys nw Γ' → ∃ its k, (l, listOf its k) ∈ nw ∧ its.size = n ∧ ∀ b g C I o I2 o2 D c m' v iv s₂ E2, (∀ a ob, IsT ob → Or (Gt X.g) Γ a ob → Gt g a ob) → i < n → its[i]? = some v → IsI i iv → Y (X.comp scope cl b g C) (up xv v (up xa iv m')) ((I, o) :: (D, listOf ys.toArray c) :: (I2, o2) :: nw) Γ' s₂ →
        wpAny (model X.prog X.w) X.A (testsOf ifs (compEnvC scope cl C X.env)) (fun ok s₃ =>
        if ok = true then wpAny (model X.prog X.w) X.A (eval elt (compEnvC scope cl C X.env)) (fun r s₄ => ∃ nw' Γ'' m'', Y (X.comp scope cl b g C) m'' ((I, o) :: (D, listOf ys.toArray c) :: (I2, o2) :: nw') Γ'' s₄ ∧ J (i + 1) (ys ++ [r]) nw' Γ'') E2 s₃
        else ∃ nw' Γ'' m'', Y (X.comp scope cl b g C) m'' ((I, o) :: (D, listOf ys.toArray c) :: (I2, o2) :: nw') Γ'' s₃ ∧ J (i + 1) ys nw' Γ'') E2 s₂)
    (fin : CompFin X use Q m Γ n J) (hxa : scope.names.lookup xa = some .local := by rfl) (hxv : scope.names.lookup xv = some .local := by rfl) :
    wpAny (model X.prog X.w) X.A (pyIter (.ref e)) (fun it s₂ => ∃ m news Γ I o n It J Jf, it = .ref I ∧ Y X m ((I, o) :: news) Γ s₂ ∧ It 0 o ∧ Comp X use elt (.Tuple [.Name xa pa, .Name xv pv] kt pt) ifs scope cl Q m news Γ I n It J Jf) E s := by
  refine wpAny_pyIter_enum (it := it) (i := 0) (old := .none) (y.z.get (.head _)) ?_
  refine ⟨m, (it, oi) :: news, Γ, e, _, n, fun i o => ∃ old, o = enumO it i old, fun i ys nw Γ' => ∃ oi nw0, nw = (it, oi) :: nw0 ∧ IsLit oi l i ∧ J i ys nw0 Γ', J n, rfl, y, ⟨_, rfl⟩, ?_⟩
  refine ⟨fun i o h => by obtain ⟨old, rfl⟩ := h; exact notT_enum, fun s o E Q h hg hq => by obtain ⟨old, rfl⟩ := h; exact wpAny_pyIter_enum (it := it) (i := 0) (old := old) hg hq, fun p hp => ?_, ⟨oi, news, rfl, hoi, J0⟩, fun i ys nw Γ' h => ?_, ?_, ?_, fun ys nw Γ' h => (JT _ _ _ _ h).1, ?_⟩
  · rcases List.mem_cons.mp hp with rfl | hp
    · exact hoi.notT
    · exact noT p hp
  · refine ctr fun hG40 => ?_; obtain ⟨oi, nw0, rfl, h1, h2⟩ := h; refine hG40 ?_; clear hG40
    refine ⟨fun p hp => ?_, (JT _ _ _ _ h2).2⟩
    rcases List.mem_cons.mp hp with rfl | hp
    · exact h1.notT
    · exact (JT _ _ _ _ h2).1 p hp
  · rintro b g C i ys nw Γ' o D c m' s1 E' hgT ⟨oi1, nw0, rfl, hoi1, hJ⟩ ⟨old, rfl⟩ hlt y3
    refine ctr fun hG41 => ?_; obtain ⟨its, k, hm, hn, hst⟩ := step _ _ _ _ hJ; refine hG41 ?_; clear hG41
    have hit : s1.heap.IsListIter it l i := ⟨oi1, y3.z.get (.tail _ (.tail _ (.head _))), hoi1.1, hoi1.2⟩
    have hl : s1.heap.IsList l its := y3.z.isList (.tail _ (.tail _ (.tail _ hm)))
    have hx : its[i]? = some (its[i]'(n_ls hlt (Nat.le_of_eq hn.symm))) := by simp
    have hne : e ≠ it := by
      have := y3.z.nd
      rw [List.map_cons, List.nodup_cons] at this
      exact fun q => this.1 (by rw [q]; exact .tail _ (.head _))
    refine wpAny_pyNext_enum_item (y3.z.get (.head _)) hit hl hx hne fun h₁ heo hit₁ ht₁ hz₁ hk₁ => ⟨_, rfl, ?_⟩
    have heH : e < s1.heap.objs.size := Heap.lt_size (y3.z.get (.head _))
    refine wpAny_letOwnedTupleGo_enum heo fun h₂ he₂ hs₂ => ?_
    obtain ⟨oi2, hoi2, hc2, hd2⟩ := hit₁
    have ht₂ : h₂.get? s1.heap.objs.size = some (tupO [Value.int i s1.toks, its[i]'(n_ls hlt (Nat.le_of_eq hn.symm))]) := (hs₂.2 _ (Nat.ne_of_gt heH)).trans ht₁
    have y4 : Y (X.comp scope cl b g C) m' ((e, enumO it ((i : Int) + 1) (its[i]'(n_ls hlt (Nat.le_of_eq hn.symm)))) :: (it, oi2) :: (D, listOf ys.toArray c) :: nw0) Γ' { s1 with heap := h₂, toks := s1.toks + 1 } :=
      (y3.perm (news' := (e, enumO it i old) :: (it, oi1) :: (D, listOf ys.toArray c) :: nw0) (.cons _ (.swap _ _ _))).to (Z.alter2 (y3.perm (news' := (e, enumO it i old) :: (it, oi1) :: (D, listOf ys.toArray c) :: nw0) (.cons _ (.swap _ _ _))).z notT_enum hoi1.notT (fun bb ob h1 h2 h3 => (hs₂.2 bb h1).trans (hk₁ bb ob h1 h2 h3)) he₂ ((hs₂.2 it (Ne.symm hne)).trans hoi2))
    have y5 := y4.perm (news' := (e, enumO it ((i : Int) + 1) (its[i]'(n_ls hlt (Nat.le_of_eq hn.symm)))) :: (D, listOf ys.toArray c) :: (it, oi2) :: nw0) (.cons _ (.swap _ _ _))
    refine wpAny_assign_Tuple (items := #[.int i s1.toks, its[i]'(n_ls hlt (Nat.le_of_eq hn.symm))]) y5.ok.hh ⟨_, ht₂, rfl, 0, rfl⟩ rfl rfl fun h₃ hx₃ => ?_
    have y6 := y5.to (t := s1.toks + 1) (y5.z.ext hx₃)
    show wpAny _ _ (do holding [its[i]'(n_ls hlt (Nat.le_of_eq hn.symm))] (assign (.Name xa pa) (compEnvC scope cl C X.env) (.int i s1.toks)); holding [] (assign (.Name xv pv) (compEnvC scope cl C X.env) (its[i]'(n_ls hlt (Nat.le_of_eq hn.symm)))); pure ()) _ _ _
    refine wpAny_bind (wpAny_holding (wpAny_assign_Name (y_store (X := X.comp scope cl b g C) y6 (fun s3 y7 => wpAny_bind (wpAny_holding (wpAny_assign_Name (y_store (X := X.comp scope cl b g C) y7 (fun s4 y8 => wpAny_pure ?_) (lookup_relabel_local hxv))))) (lookup_relabel_local hxa))))
    refine wpAny_mono (hst b g C e _ it oi2 D c m' _ _ s4 _ hgT hlt hx ⟨_, rfl⟩ y8) (fun ok s₅ q => ?_) fun _ _ e => e
    cases ok with
    | false =>
      rw [if_neg Bool.false_ne_true] at q ⊢
      refine ctr fun hG42 => ?_; obtain ⟨nw', Γ'', m'', y9, hJ'⟩ := q; refine hG42 ?_; clear hG42
      exact ⟨_, _, Γ'', m'', ⟨_, rfl⟩, y9, oi2, nw', rfl, ⟨hc2, hd2⟩, hJ'⟩
    | true =>
      rw [if_pos rfl] at q ⊢
      refine wpAny_mono q (fun r s₆ q => ?_) fun _ _ e => e
      refine ctr fun hG43 => ?_; obtain ⟨nw', Γ'', m'', y9, hJ'⟩ := q; refine hG43 ?_; clear hG43
      exact ⟨_, _, Γ'', m'', ⟨_, rfl⟩, y9, oi2, nw', rfl, ⟨hc2, hd2⟩, hJ'⟩
  · rintro b g C ys nw Γ' o D c m' s1 E' ⟨oi1, nw0, rfl, hoi1, hJ⟩ ⟨old, rfl⟩ y3
    refine ctr fun hG44 => ?_; obtain ⟨its, k, hm, hn, hst⟩ := step _ _ _ _ hJ; refine hG44 ?_; clear hG44
    have hit : s1.heap.IsListIter it l n := ⟨oi1, y3.z.get (.tail _ (.tail _ (.head _))), hoi1.1, hoi1.2⟩
    have hl : s1.heap.IsList l its := y3.z.isList (.tail _ (.tail _ (.tail _ hm)))
    refine wpAny_pyNext_enum_end y3.ok.hh (y3.z.get (.head _)) hit hl (by simp; exact Nat.le_of_eq hn) fun h' he' => ⟨rfl, nw0, hJ, ?_⟩
    have y4 := (y3.sub (List.sublist_cons_self _ _)).perm (news' := (it, oi1) :: (D, listOf ys.toArray c) :: nw0) (.swap _ _ _)
    exact y4.to (t := s1.toks) (y4.z.dropIt hoi1.notT he')
  · exact fin
end
end Mine
end
section
open PySem PySem.W PySem.Calls PyProof.Rows PySem.Spec
set_option Elab.async false
set_option maxRecDepth 100000
set_option maxHeartbeats 2000000
set_option rowWalk.seconds 0
set_option linter.unusedVariables false
namespace Mine
/-- a list of places -/
noncomputable def Menu0 (Φ : Nat → Prop) (ys : List Value) : Prop := ∃ ns : List Nat, IntsAre ys (ns.map fun n : Nat => (n : Int)) ∧ ∀ n ∈ ns, Φ n
theorem Menu0.nil {Φ : Nat → Prop} : Menu0 Φ [] := ⟨[], .nil, fun _ h => nomatch h⟩
theorem Menu0.push {Φ : Nat → Prop} {ys : List Value} (h : Menu0 Φ ys) (n : Nat) (hn : Φ n) (t : Tok) : Menu0 Φ (ys ++ [.int (n : Int) t]) := by
  obtain ⟨ns, h1, h2⟩ := h
  refine ⟨ns ++ [n], by rw [List.map_append]; exact IntsAre.snoc h1 _ _, fun k hk => ?_⟩
  rcases List.mem_append.mp hk with hk | hk
  · exact h2 k hk
  · rw [List.mem_singleton.mp hk]; exact hn
theorem Menu0.get {Φ : Nat → Prop} {ys : List Value} (h : Menu0 Φ ys) {i : Nat} {v : Value} (hv : ys[i]? = some v) : ∃ (n : Nat) (t : Tok), v = .int (n : Int) t ∧ Φ n := by
  obtain ⟨ns, h1, h2⟩ := h
  have hl := h1.length
  have hlt := (List.getElem?_eq_some_iff.mp hv).1
  rw [List.length_map] at hl
  obtain ⟨t, ht⟩ := h1.get i ((ns[i]'(n_ls hlt (Nat.le_of_eq hl)) : Nat) : Int) (by rw [List.getElem?_map, List.getElem?_eq_getElem (n_ls hlt (Nat.le_of_eq hl))]; rfl)
  rw [hv] at ht; cases ht
  exact ⟨_, t, rfl, h2 _ (List.getElem_mem _)⟩
section
variable {X : Fn} {m : Str → Option Value} {news Γ : List (Addr × Obj)} {E : Value → Shared → Prop} {s : Shared}
theorem pv_bool {b : Bool} {k : Nat} {pos : Pos} : PV X m news Γ (.Constant (.bool b) k pos) (· = .bool b) := by
  intro E s y
  repeat' walk1
  all_goals first | exact y.tk _ | exact ⟨rfl, y.tk _⟩ | rfl
theorem pv_titem {e k : Expr} {p : Pos} {t : Addr} {vs : List Value} {i : Nat} {v : Value} (h1 : PV X m news Γ e (· = .ref t)) (h2 : PV X m news Γ k (IsI i)) (ht : TT X.g Γ t vs) (hx : vs[i]? = some v) (hfit : i < 1000)
    (hs : ∀ o i, subscripted k false o i = operate [o, i] (getItem o i) := by intro _ _; rfl) : PV X m news Γ (.Subscript e k p) (· = v) :=
  fun E s y => ev_sub h1 h2 y fun x s' q y' => by
    obtain ⟨t, rfl⟩ := q
    have hlt : i < vs.length := (List.getElem?_eq_some_iff.mp hx).1
    have hj : seqIndex? (i : Int) vs.length = some i := by
      unfold seqIndex?
      have h9 : ¬ ((i : Int) < 0) := by lia
      simp [h9, hlt]
    exact item_tupleT (k := (i : Int)) (j := i) (z_tupO y'.z ht) (n_63) (n_c (n_s hfit (Nat.le_refl _)) rfl) hj hx ⟨rfl, y'⟩ (hs _ _)
/-- the places of the held values with a word -/
theorem enum_menu {x xa xv W : Str} {px pe pa pv pt p0 p1 p2 p3 p4 p5 p6 p7 p8 p9 p10 p11 : Pos} {kt k1 k2 k3 : Nat} {scope : Scope} {cl : List (Str × Addr)} {Q : Value → Shared → Prop} {e it l : Addr} {oi : Obj} {hls : List Value} {c : Nat} {held : List V} {Pq : Addr → Obj → Prop} (y : Y X m ((e, enumO it 0 .none) :: (it, oi) :: news) Γ s) (hoi : IsLit oi l 0)
    (noT : ∀ p ∈ news, ¬ IsT p.2) (hm : (l, listOf hls.toArray c) ∈ news) (hh : VRs Pq hls (held.map V.py)) (hPq : ∀ a o, IsT o → Pq a o → Gt X.g a o) (hlen : held.length ≤ 900) (hW : PyData.canLay0 (.str W) = true) (hl : X.env.kindOf x = some .local)
    (fin : ∀ ys D dc s, Menu0 (fun k => ∃ v, held[k]? = some v ∧ (!v.isInt && (v.hdw == W)) = true) ys → ys.length ≤ held.length → Y X (up x (.ref D) m) ((D, listOf ys.toArray dc) :: news) Γ s → Q .none s)
    (hxa : scope.names.lookup xa = some .local := by rfl) (hxv : scope.names.lookup xv = some .local := by rfl) (hne : (xa == xv) = false := by decide) (hd1 : (xv == ("__debug__" : Str)) = false := by decide) (hd2 : (xa == ("__debug__" : Str)) = false := by decide)
    (h1 : ∀ C, (compEnvC scope cl C X.env).kindOf "isinstance" = some .globalImplicit := by intro _; rfl) (h2 : ∀ C, (compEnvC scope cl C X.env).kindOf "tuple" = some .globalImplicit := by intro _; rfl) (h3 : ∀ C, (compEnvC scope cl C X.env).kindOf xv = some .local := by intro _; rfl) (h4 : ∀ C, (compEnvC scope cl C X.env).kindOf xa = some .local := by intro _; rfl) :
    wpAny (model X.prog X.w) X.A (pyIter (.ref e)) (fun it s₂ => ∃ m news Γ I o n It J Jf, it = .ref I ∧ Y X m ((I, o) :: news) Γ s₂ ∧ It 0 o ∧ Comp X (some (assign (.Name x px) X.env)) (.Name xa pe) (.Tuple [.Name xa pa, .Name xv pv] kt pt)
      [.BoolOp .And [.Call (.Name (Str.ofString "isinstance") p1) [.Name xv p0, .Name (Str.ofString "tuple") p2] [] p3, .Compare (.Subscript (.Name xv p4) (.Slice none (some (.Constant (.int 1) k1 p5)) none p6) p7) [.Eq] [.Tuple [.Constant (.str W) k2 p8] k3 p9] p10] p11] scope cl Q m news Γ I n It J Jf) E s := by
  have hll : hls.length = held.length := by simpa using hh.length
  let J18 : Nat → List Value → List (Addr × Obj) → List (Addr × Obj) → Prop := fun i ys nw Γ' => nw = news ∧ Γ' = [] ∧ ys.length ≤ i ∧ i ≤ hls.length ∧ Menu0 (fun k => ∃ v, held[k]? = some v ∧ (!v.isInt && (v.hdw == W)) = true) ys
  refine comp_enum (l := l) (n := hls.length) (J := J18) y hoi noT ⟨rfl, rfl, Nat.zero_le _, Nat.zero_le _, Menu0.nil⟩ (fun i ys nw Γ' h => ⟨by rw [h.1]; exact noT, by have := h.2.2.1; have := h.2.2.2.1; exact n_t h.2.2.1 (n_t h.2.2.2.1 (n_e hll (n_t hlen (n_b rfl))))⟩) ?_ (fin_asg hl ?_) hxa hxv
  · intro i ys nw Γ' hJJ; refine ctr fun hG78 => ?_; obtain ⟨rfl, rfl, hy1, hy2, hme⟩ := hJJ; refine hG78 ?_; clear hG78
    refine ⟨_, _, hm, by simp, fun b' g' C' I oI I2 o2 D dc m' v iv s2 E2 hgT hlt hv hiv y2 => ?_⟩
    have hv' : hls[i]? = some v := by simpa using hv
    obtain ⟨u', hu1, hu2⟩ := hh.get (i := i) (d := (held[i]'(n_ls hlt (Nat.le_of_eq hll))).py) (by simp [show i < held.length by exact n_ls hlt (Nat.le_of_eq hll)])
    rw [hv'] at hu1; cases hu1
    have hug : VR (Gt g') v (held[i]'(n_ls hlt (Nat.le_of_eq hll))).py := hu2.mono2 fun a o t h => hgT a o t (.inl (hPq a o t h))
    refine tests1 y2 (pb_tag up_hit hug.inl _ rfl hW (h3 _) hd1 (h1 _) (h2 _)) fun s3 y3 => ?_
    cases hT : (!(held[i]'(n_ls hlt (Nat.le_of_eq hll))).isInt && ((held[i]'(n_ls hlt (Nat.le_of_eq hll))).hdw == W)) with
    | false =>
      rw [if_neg Bool.false_ne_true]
      exact ⟨_, _, _, y3, rfl, rfl, by exact n_r hy1, by exact n_suc hlt, hme⟩
    | true =>
      rw [if_pos rfl]
      refine ev_pvq (X := X.comp _ _ b' g' C') (pv_loc (up_skip up_hit hne) (h4 _) hd2) y3 fun s4 y4 => ?_
      obtain ⟨ti, rfl⟩ := hiv
      exact ⟨_, _, _, y4, rfl, rfl, by simp; exact hy1, by exact n_suc hlt, hme.push i ⟨_, by simp, hT⟩ _⟩
  · intro ys nw Γ' D dc s2 hJJ; refine ctr fun hG79 => ?_; obtain ⟨rfl, rfl, hy1, hy2, hme⟩ := hJJ; refine hG79 ?_; clear hG79; intro y2
    exact fin ys D dc s2 hme (n_t hy1 (Nat.le_of_eq hll)) y2
end
end Mine
end
section
open PySem PySem.W PySem.Calls PyProof.Rows PySem.Spec
set_option Elab.async false
set_option maxRecDepth 100000
set_option maxHeartbeats 2000000
set_option rowWalk.seconds 0
set_option linter.unusedVariables false
namespace Mine
section
variable {X : Fn} {m : Str → Option Value} {news Γ : List (Addr × Obj)} {E : Value → Shared → Prop} {s : Shared}
/-- x in d, a dict by numbers -/
theorem pb_ind {a e : Expr} {p : Pos} {d : Addr} {o : Obj} {kvs : List (Int × Value)} {i : Int} {r : Bool} (h1 : PV X m news Γ a (IsI i)) (h2 : PV X m news Γ e (· = .ref d)) (hm : (d, o) ∈ news) (hd : o.IsDictOf (PySem.intKind X.prog X.w) kvs) (lo : (d == sysModules) = false) (hr : (valueAt kvs i).isSome = r) (hmk : behindInMarks .In e = false := by with_unfolding_all rfl) : PB X m news Γ (.Compare a [.In] [e] p) r :=
  pb_cmp h1 h2 (fun x z s E q1 q2 y => by subst q2; exact kda_in y.z.N (List.mem_append_left _ hm) hd lo (isI_is (X := X) q1) r hr ⟨rfl, y.tk _⟩) hmk
end
end Mine
end
section
open PySem PySem.W PySem.Calls PyProof.Rows PySem.Spec
set_option Elab.async false
set_option maxRecDepth 100000
set_option maxHeartbeats 4000000
set_option linter.unusedVariables false
namespace Mine
theorem cs_two {cs : List (Addr × Obj)} {p q : Addr × Obj} (h : cs.length = 2) (h0 : cs[0]? = some p) (h1 : cs[1]? = some q) : cs = [p, q] := by
  cases cs with
  | nil => simp at h
  | cons z r =>
    have hr : r.length = 1 := by simpa using h
    rw [cs_one hr (p := q) (by simpa using h1), Option.some.inj h0]
section
variable {X : Fn} {m : Str → Option Value} {Γ : List (Addr × Obj)} {s : Shared}
theorem Y.out {a b c d : List (Addr × Obj)} (y : Y X m (a ++ (b ++ (c ++ d))) Γ s) : Y X m ((a ++ c) ++ (b ++ d)) Γ s := y.perm (by
  rw [List.append_assoc]
  refine List.Perm.append_left a ?_
  rw [← List.append_assoc, ← List.append_assoc]
  exact List.Perm.append_right d List.perm_append_comm)
theorem Y.inn {a b c d : List (Addr × Obj)} (y : Y X m ((a ++ c) ++ (b ++ d)) Γ s) : Y X m (a ++ (b ++ (c ++ d))) Γ s := y.perm (by
  rw [List.append_assoc]
  refine List.Perm.append_left a ?_
  rw [← List.append_assoc, ← List.append_assoc]
  exact List.Perm.append_right d List.perm_append_comm)
end
section
variable {prog : Program} {w : World} {K : Frag} {A : Around} {E : Value → Shared → Prop} {s : Shared} {h₀ : Heap} {P : Addr → Obj → Prop} {b a c o : Addr} {pb : BP} {ph : HP} {H : H} {held : List V} {wks hks bks : List (Addr × Obj)} {Q : Value → Shared → Prop}
theorem make_spec (C : Cx K h₀) (hk : h₀.StaysIn s.heap) (hh : A.handled = none) (hd : A.depth < 850) (hu : A.units < 7500) (hP : ∀ a o, P a o → s.heap.get? a = some o) (O : Own h₀ s.heap (wks ++ (hks ++ bks))) (W : WRep prog w a c wks) (R : HRep prog w P o ph H hks) (B : BRep prog w P b pb H held bks)
    (hdep : ∀ u ∈ held, u.dep ≤ 50) (hlen : held.length ≤ 900) (hts : H.ts.length ≤ 900)
    (hQ : ∀ ph' pb' kd vs held' wks' hks' bks' h' t' Γ, Kept h₀ (wks ++ (hks ++ bks)) s.heap h' (wks' ++ (hks' ++ bks')) → TupL s.heap h' Γ → WRep prog w a c wks' → HRep prog w P o ph' (H.grow (T.fresh kd (Str.ofString "K") vs)) hks' → BRep prog w (Or P Γ) b pb' (H.grow (T.fresh kd (Str.ofString "K") vs)) (held' ++ [kd.val H.ts.length]) bks' →
      TookN held vs held' → vs.length ≤ 2 → Q .none { s with heap := h', toks := t' }) : wpAny (model prog w) A (call (.ref 307) [.ref a, .ref o, .ref b]) Q E s := by
  refine enterK (binds := [(Str.ofString "well", .ref a), (Str.ofString "heap", .ref o), (Str.ofString "book", .ref b)]) (cns := [(Str.ofString "well", .ref a), (Str.ofString "book", .ref b)]) C hk hh (Nat.lt_trans hu (by decide)) O C.KF.f307 rfl (Nat.lt_trans hd (by decide)) (fun _ _ _ => rfl) (fun L x hx => ?_) rfl rfl rfl (fun L i x v hi => ?_) ?_
  · rcases List.mem_cons.mp hx with rfl | hx
    · exact .inr ⟨rfl, rfl⟩
    · rcases List.mem_cons.mp hx with rfl | hx
      · exact .inl rfl
      · rcases List.mem_cons.mp hx with rfl | hx
        · exact .inr ⟨rfl, rfl⟩
        · cases hx
  · cases i with
    | zero => cases hi; exact ⟨rfl, fun cdv => rfl⟩
    | succ i =>
      cases i with
      | zero => cases hi; exact ⟨rfl, fun cdv => rfl⟩
      | succ i => cases hi
  intro g L h₁ tk cdv A' cs X m0 hX0 hX1 hX2 hcl hcs hcd y h0 hL hin
  have hPg := gt_of O hin hP
  obtain ⟨ow, how, hwd⟩ := hcs 0 _ _ rfl
  obtain ⟨ob, hob, hbd⟩ := hcs 1 _ _ rfl
  have hce := cs_two (p := (L + 1, ow)) (q := (L + 1 + 1, ob)) hcl how hob
  subst hce
  have hwT : ¬ IsT ow := cell_notT hwd
  have hbT : ¬ IsT ob := cell_notT hbd
  have noT : ∀ {wk hk bk : List (Addr × Obj)}, (∀ q ∈ wk, ¬ IsT q.2) → (∀ q ∈ hk, ¬ IsT q.2) → (∀ q ∈ bk, ¬ IsT q.2) → ∀ q ∈ [(L + 1, ow), (L + 1 + 1, ob)] ++ (wk ++ (hk ++ bk)), ¬ IsT q.2 := fun h1 h2 h3 q hq => by
    rcases List.mem_append.mp hq with hq | hq
    · rcases List.mem_cons.mp hq with rfl | hq
      · exact hwT
      · rw [List.mem_singleton.mp hq]; exact hbT
    · rcases List.mem_append.mp hq with hq | hq
      · exact h1 q hq
      · rcases List.mem_append.mp hq with hq | hq
        · exact h2 q hq
        · exact h3 q hq
  have hS : sizeLine = 16777216 := rfl
  refine y_asgeff (ev_itemE (ev_call0 y.ok.C.g_law_kinds y.ok.C.k_law_kinds y fun s1 y1 => ?_))
  refine kinds_spec y1.ok.C y1.st hX0 (lvA hX1 hd) (lvC hX2 hu) ?_
  intro kl kc h' t' u1 u2 u3 u4 kk
  have y2 := y1.call1 (t' := t') kk (Γ' := []) (fun _ h => nomatch h)
  clear kk
  refine ev_call y2.ok.C.g_law_draw y2.ok.C.k_law_draw (pvs2 (pv_cellN (.tail _ (.head _)) hwd) pv_int) y2 fun vs s3 e3 y3 => ?_
  refine ex2 e3 fun _ v2 hKK => an3 hKK fun hE19 hE20 e2 => ?_; clear e3 hKK; subst hE19 hE20
  have y4 := Y.mid (a := [(kl, _), (L + 1, ow), (L + 1 + 1, ob)]) (b := wks) (c := hks ++ bks) y3
  refine draw_spec y4.ok.C y4.st hX0 (lvA hX1 hd) (lvC hX2 hu) (y4.own W.noT) W e2 (by decide) (by decide) ?_
  intro r i wk1 h' t' kk W1 hr hi0 hi1
  have y5 := Y.unmid (a := [(kl, _), (L + 1, ow), (L + 1 + 1, ob)]) (b := wk1) (c := hks ++ bks) (y4.callK (t' := t') W.noT kk)
  clear kk
  obtain ⟨kd, kv, hkv, hkd⟩ := kinds_at (i := i.toNat) (n_tn hi0 hi1) (u1 := u1) (u2 := u2) (u3 := u3) (u4 := u4)
  refine ⟨kl, _, kc, i, kv, _, _, _, rfl, hr, y5, .head _, hkv, hi0, by exact Int.lt_trans hi1 (by decide), fun s6 y6 => y_store (y6.sub (List.sublist_cons_self _ _)) fun s7 y7 => ?_⟩
  have hmem1 : (L + 1, ow) ∈ [(L + 1, ow), (L + 1 + 1, ob)] := .head _
  refine y_asgcomp (cl := [(Str.ofString "well", L + 1), (Str.ofString "book", L + 1 + 1)]) (ev_type1E y7.ok.C.b_range rfl y7 fun s8 y8 => ev_call y8.ok.C.g_law_draw y8.ok.C.k_law_draw (pvs2 (pv_cellN (.head _) hwd) pv_int) y8 fun vs s9 e9 y9 => ?_) rfl
  refine ex2 e9 fun _ v3 hKK => an3 hKK fun hE21 hE22 e3 => ?_; clear e9 hKK; subst hE21 hE22
  have y10 := Y.mid (a := [(L + 1, ow), (L + 1 + 1, ob)]) (b := wk1) (c := hks ++ bks) y9
  refine draw_spec y10.ok.C y10.st hX0 (lvA hX1 hd) (lvC hX2 hu) (y10.own W1.noT) W1 e3 (by decide) (by decide) ?_
  intro r2 n wk2 h' t' kk W2 hr2 hn0 hn1
  have y11 := Y.unmid (a := [(L + 1, ow), (L + 1 + 1, ob)]) (b := wk2) (c := hks ++ bks) (y10.callK (t' := t') W1.noT kk)
  clear kk
  obtain ⟨tn, rfl⟩ := hr2
  refine c_range y11 fun rg s12 tr1 tr2 tr3 y12 hrg => ?_
  have hnn : n = ((n.toNat : Nat) : Int) := by exact n_tt hn0
  rw [hnn] at hrg
  let J10 : Nat → List Value → List (Addr × Obj) → List (Addr × Obj) → Prop := fun i ys nw Γ' => i ≤ n.toNat ∧ ys.length = i ∧ ∃ vs hd wki bki, nw = [(L + 1, ow), (L + 1 + 1, ob)] ++ (wki ++ (hks ++ bki)) ∧ vs.length = i ∧ TookN held vs hd ∧ WRep prog w a c wki ∧ BRep prog w (Tp P) b pb H hd bki ∧ VRs (Tp P) ys (vs.map V.py)
  refine comp_range (n := n.toNat) (J := J10)
    y12 hrg (by lia) (noT W2.noT R.noT B.noT) ⟨Nat.zero_le _, rfl, [], held, wk2, bks, rfl, rfl, .nil, W2, B.tp, .nil⟩ (fun i ys nw Γ' h => ?_) ?_ (fin_asg rfl ?_)
  · refine ctr fun hG105 => ?_; obtain ⟨h1, h2, vs, hd, wki, bki, rfl, h3, h4, h5, h6, h7⟩ := h; refine hG105 ?_; clear hG105
    exact ⟨noT h5.noT R.noT h6.noT, by lia⟩
  · intro i ys nw Γ' hJJ; refine ctr fun hG106 => ?_; obtain ⟨hi, hyl, vs, hd, wki, bki, rfl, hvl, htk, Wi, Bi, hys⟩ := hJJ; refine hG106 ?_; clear hG106; intro b' g' C' I oI D dc m' v s13 E2 hgT hlt hv y13
    refine tests_nil ?_
    rw [if_pos rfl]
    refine ev_call (X := X.comp _ _ b' g' C') y13.ok.C.g_law_take y13.ok.C.k_law_take (pvs2 (pv_cellN (.tail _ (.tail _ (.head _))) hwd) (pv_cellN (.tail _ (.tail _ (.tail _ (.head _)))) hbd)) y13 fun vs s14 e14 y14 => ?_
    obtain rfl := Va2.eq e14
    have y15 := Y.out (a := [(I, oI), (D, listOf ys.toArray dc), (L + 1, ow), (L + 1 + 1, ob)]) (b := wki) (c := hks) (d := bki) y14
    have hml := htk.mem
    refine take_spec (P := Tp P) y15.ok.C y15.st hX0 (by show A'.depth < 880; lia) (lvC hX2 hu) (fun a o q => y15.z.has a o (.inl (hgT a o q.2 (.inl (hPg a o q.2 q.1))))) (y15.own (both_noT Wi Bi)) Wi Bi (fun u hu => by have := hdep u (hml.1 u hu); exact n_t this (n_b rfl)) (n_t hml.2.2 (n_t hlen (n_b rfl))) ?_
    intro r v hd' wk' bk' h' t' kk W3 B3 hv3 took
    have y16 := Y.inn (a := [(I, oI), (D, listOf ys.toArray dc), (L + 1, ow), (L + 1 + 1, ob)]) (b := wk') (c := hks) (d := bk') (y15.callK (t' := t') (both_noT Wi Bi) kk)
    refine ⟨_, _, _, y16, hlt, by simp [hyl], _, hd', wk', bk', rfl, by rw [List.length_append, hvl]; rfl, htk.snoc took, W3, B3, ?_⟩
    rw [List.map_append]
    exact hys.append (.cons hv3 .nil)
  · intro ys nw Γ' D dc s13 hJJ; refine ctr fun hG108 => ?_; obtain ⟨_, hyl, vs, hd, wki, bki, rfl, hvl, htk, Wi, Bi, hys⟩ := hJJ; refine hG108 ?_; clear hG108; intro y13
    have hml := htk.mem
    refine ex4 R.hd fun es nn1 od lv hd0 => ?_
    have i1 : ∀ {q z : Addr × Obj}, q ∈ hks → q ∈ z :: (L + 1, ow) :: (L + 1 + 1, ob) :: (wki ++ (hks ++ bki)) := fun h => .tail _ (.tail _ (.tail _ (List.mem_append_right _ (List.mem_append_left _ h))))
    refine y_asgeff (ev_meth (pv_loc (up_skip (up_skip rfl))) (i1 hd0.m1) (i1 hd0.m2) hd0.er y13.ok.C.m_made y13.ok.C.n_made y13.ok.C.km_made (pvs3 (pv_loc (up_skip up_hit)) pv_str (pv_loc up_hit)) y13 fun vs' s14 e14 y14 => ?_)
    refine ex3 e14 fun _ nmv _ hKK => an4 hKK fun hE23 hE24 hnm hE25 => ?_; clear e14 hKK; subst hE23 hE24 hE25
    have y15 := Y.mid (a := [(D, listOf ys.toArray dc), (L + 1, ow), (L + 1 + 1, ob)] ++ wki) (b := hks) (c := bki) y14
    have hDk : D ∉ hks.map (·.1) := fun q => by
      have q1 := y14.headOut
      obtain ⟨z, hz, e⟩ := List.mem_map.mp q
      exact q1 (List.mem_map.mpr ⟨z, .tail _ (.tail _ (List.mem_append_right _ (List.mem_append_left _ hz))), e⟩)
    have hvn : vs.length ≤ 2 := by lia
    refine made_spec (P := Tp P) (kd := kd) (us := vs) y15.ok.C y15.st hX0 (by show A'.depth < 880; lia) (lvC hX2 hu) (y15.own R.noT) R.tp hkd hnm (y15.z.get (.head _)) hDk hys (n_t hvn (n_b rfl)) hts ?_
    intro ph2 nv hk2 h' t' kk hnv R2
    obtain ⟨tnv, rfl⟩ := hnv
    have hnv : IsI ((H.ts.length : Int) + 1) (Value.int ((H.ts.length : Int) + 1) tnv) := ⟨_, rfl⟩
    have y16 := Y.unmid (a := [(D, listOf ys.toArray dc), (L + 1, ow), (L + 1 + 1, ob)] ++ wki) (b := hk2) (c := bki) (y15.callK (t' := t') R.noT kk)
    clear kk
    refine y_store y16 fun s17 y17 => ?_
    refine y_asgTup (ev_tup2E (ev_list (pvs_cons (pv_loc (up_skip (up_skip up_hit))) (pvs_cons (pv_loc (up_skip up_hit)) (pvs_cons pv_int (pvs3 pv_int pv_int pv_str)))) y17 (by decide) (fun vs e => by obtain ⟨_, _, rfl, _, _, _, rfl, _, _, _, rfl, _, _, _, _, rfl, _⟩ := e; rfl) fun vs' la s18 e18 y18 => ev_pv pv_str y18 fun nmv2 s19 e19 y19 => ⟨_, _, _, y19, fun tq s20 y20 => as_tup2 y20 (TT.mk (.inr (.head _)) rfl rfl) fun s21 y21 => ?_⟩))
    refine ctr fun hG111 => ?_; obtain ⟨_, _, rfl, rfl, _, _, rfl, rfl, sv, _, rfl, h1, wv, uv, stv, rfl, h2, h3, h4⟩ := e18; refine hG111 ?_; clear hG111
    have y22 : Y X _ ((la, listOf #[_, .ref D, sv, wv, uv, stv] 0) :: (D, listOf ys.toArray dc) :: (([(L + 1, ow), (L + 1 + 1, ob)] ++ (wki ++ hk2)) ++ bki)) _ s21 := y21.perm (by rw [List.append_assoc, List.append_assoc]; exact List.Perm.refl _)
    refine book_grow y22 Bi (fun news' h => ?hbk) (fun news' h => ?hbl) up_hit hnv hkd h1 h2 h3 h4 hys e19 hts fun s23 bk2 pb2 B2 y23 => ?_
    case hbk => exact pv_cellN (h _ (.tail _ (.head _))) hbd
    case hbl => exact pv_cellN (h _ (.tail _ (.head _))) hbd
    refine y_asgeff ?_
    with_reducible refine ev_dict3 y23 ?_ ?hn
    case hn => decide
    intro wd wo s24 hwo y24
    refine ev_pv pv_str y24 ?_
    intro x1 s25 e25 y25 t25
    refine ev_pv pv_str (y25.tk t25) ?_
    intro x2 s26 e26 y26 t26
    refine ev_pv pv_str (y26.tk t26) ?_
    intro x3 s27 e27 y27
    refine ⟨_, _, _, _, y27, .head, ?_⟩
    intro wo' s28 hwd' hlo y28
    refine y_store y28 fun s29 y29 => ?_
    refine ex7 B2.hd fun ob2 ot2 on2 hls2 ql2 c3 c4 bh => ?_
    have hll : hls2.length = hd.length := by simpa using bh.hh.length
    have i2 : ∀ {q : Addr × Obj}, q ∈ bk2 → q ∈ (wd, wo') :: (([(L + 1, ow), (L + 1 + 1, ob)] ++ (wki ++ hk2)) ++ bk2) := fun h => .tail _ (List.mem_append_right _ h)
    have fin : ∀ x Γ5 s30 m5 E5, Y X m5 ((wd, wo') :: (([(L + 1, ow), (L + 1 + 1, ob)] ++ (wki ++ hk2)) ++ bk2)) Γ5 s30 → VR (Or (Tp P) Γ5) x (kd.val H.ts.length).py → wpAny (model X.prog X.w) X.A (call (.builtin "list.append") [.ref pb2.h, x]) (fun _ s' => wpAny (model X.prog X.w) X.A (execs [] X.env) (KRet Q) (fun _ _ => False) s') E5 s30 := fun x Γ5 s30 m5 E5 y30 hx => by
      refine held_push (loc := (wd, wo') :: ([(L + 1, ow), (L + 1 + 1, ob)] ++ (wki ++ hk2))) (Pq := Tp P) y30 (B2.mono fun _ _ _ h => .inl h) hx (n_t hml.2.2 (n_t hlen (n_b rfl))) fun s31 bk3 B3 y31 => y_nil ?_
      rw [y31.e]
      have B4 := B3.mono (P' := Or P Γ5) fun _ _ _ h => h.imp (fun h => h.1) id
      refine hQ _ _ kd vs hd wki hk2 bk3 _ _ Γ5 (y31.kept h0 hin ?_ fun q hq => ?_) (y31.z.tupL hL) Wi R2.pt B4 htk hvn
      · rw [← List.append_assoc]
        exact .cons _ (.cons _ (.cons _ (List.Sublist.refl _)))
      · rcases List.mem_append.mp hq with hq | hq
        · exact Wi.noT q hq
        · exact (List.mem_append.mp hq).elim (R2.noT q) (B4.noT q)
    refine y_expr (ev_lm1 (pv_dstr (pv_cellN (.tail _ (.tail _ (.head _))) hbd) (i2 bh.m1) bh.hob) (i2 bh.m4) PySem.F.slot_list_append rfl y29 fun s30 y30 => ev_ifexp kd.isCtx (pb_eqs ((pv_loc (up_skip (up_skip (up_skip up_hit)))).mono fun v e => by subst e; exact hkd) pv_str (ctx_word kd)) y30 fun s31 y31 => ?_)
    have item : ∀ x key, kd.word = key → valueAt [(Str.ofString "object", x1), (Str.ofString "box", x2), (Str.ofString "buffer", x3)] key = some x → ∀ W, IsS W x → (kd.val H.ts.length).py = .tuple [.str W, .int ((H.ts.length : Int) + 1)] → ∀ {pa pb pc pd pe k}, wpAny (model X.prog X.w) X.A (eval (.Tuple [.Subscript (.Name (Str.ofString "word") pa) (.Name (Str.ofString "kind") pb) pc, .Name (Str.ofString "number") pd] k pe) X.env)
        (fun v s2 => wpAny (model X.prog X.w) X.A (call (.builtin "list.append") [.ref pb2.h, v]) (fun _ s' => wpAny (model X.prog X.w) X.A (execs [] X.env) (KRet Q) (fun _ _ => False) s') (fun _ _ => False) s2) (fun _ _ => False) s31 := fun x key hkw hv W hW hpy {pa pb pc pd pe k} => by
      refine ev_tup (pvs2 (pv_ditem (knd := PySem.strKind prog w) (key := key) (pv_loc up_hit) (pv_loc (up_skip (up_skip (up_skip up_hit)))) (.head _) hwd' (fun x e => by subst e; rw [← hkw]; exact isS_is (X := X) hkd) hv) (pv_loc (up_skip up_hit))) y31 (by show 2 ≤ 1000; exact n_b rfl) (fun vs e => by obtain ⟨_, _, rfl, _⟩ := e; rfl) fun vs' t6 s32 e32 y32 => ?_
      refine ctr fun hG113 => ?_; obtain ⟨_, _, rfl, rfl, rfl⟩ := e32; refine hG113 ?_; clear hG113
      obtain ⟨tw, rfl⟩ := hW
      exact fin _ _ _ _ _ y32 (by rw [hpy]; exact VR.tup (.head _) (.cons (.str _ _) (.cons (.int _ _) .nil)))
    cases kd with
    | context =>
      refine ev_tup (pvs3 pv_str pv_str (pv_loc (up_skip up_hit))) y31 (by decide) (fun vs e => by obtain ⟨_, _, _, rfl, _⟩ := e; rfl) fun vs' t6 s32 e32 y32 => ?_
      refine ctr fun hG114 => ?_; obtain ⟨_, _, _, rfl, ⟨_, rfl⟩, ⟨_, rfl⟩, rfl⟩ := e32; refine hG114 ?_; clear hG114
      exact fin _ _ _ _ _ y32 (VR.tup (.head _) (.cons (.str _ _) (.cons (.str _ _) (.cons (.int _ _) .nil))))
    | object => exact item x1 (Str.ofString "object") rfl rfl _ e25 rfl
    | box => exact item x2 (Str.ofString "box") rfl rfl _ e26 rfl
    | buffer => exact item x3 (Str.ofString "buffer") rfl rfl _ e27 rfl
end
end Mine
end
section
open PySem PySem.W PySem.Calls PyProof.Rows PySem.Spec
set_option Elab.async false
set_option maxRecDepth 100000
set_option maxHeartbeats 4000000
set_option linter.unusedVariables false
namespace Mine
section
variable {prog : Program} {w : World} {K : Frag} {A : Around} {E : Value → Shared → Prop} {s : Shared} {h₀ : Heap} {P : Addr → Obj → Prop} {Q : Value → Shared → Prop}
theorem VR.agg {P : Addr → Obj → Prop} {x : Value} {a b : V} (h : VR P x (V.agg a b).py) : ∃ t o n u t2 o2 n2 xa xb, x = .ref t ∧ P t o ∧ o.cls = .type "tuple" ∧ o.data = .seq [Value.str (Str.ofString "agg") u, .ref t2].toArray n ∧ P t2 o2 ∧ o2.cls = .type "tuple" ∧ o2.data = .seq [xa, xb].toArray n2 ∧ VR P xa a.py ∧ VR P xb b.py :=
  ex5 (VR.pv h) fun t o n u v k => an5 k fun e p1 p2 p3 q => ex4 q.tI fun t2 o2 n2 vs l => an5 l fun e2 g1 g2 g3 r => ex2 r.c2 fun xa xb z =>
    ⟨t, o, n, u, t2, o2, n2, xa, xb, e, p1, p2, by rw [p3, e2], g1, g2, by rw [g3, z.1], z.2⟩
theorem with_part_spec {i : Nat} {v0 v1 : V} {x iv pv : Value} (C : Cx K h₀) (hk : h₀.StaysIn s.heap) (hh : A.handled = none) (hd : A.depth < 900) (hu : A.units < 8000) (hP : ∀ a o, P a o → s.heap.get? a = some o) (hv : VR P x (V.agg v0 v1).py) (hi : IsI i iv) (hlt : i < 2) (hp : IsI 5 pv)
    (hQ : ∀ r h' t' Γ, Kept h₀ [] s.heap h' [] → TupL s.heap h' Γ → VR (Or P Γ) r (V.put5 i v0 v1).py → Q r { s with heap := h', toks := t' }) : wpAny (model prog w) A (call (.ref 80) [x, iv, pv]) Q E s := by
  refine enterY (binds := [(Str.ofString "value", x), (Str.ofString "index", iv), (Str.ofString "part", pv)]) C hk hh (Nat.lt_trans hu (by decide)) Own.nil C.KF.f80 rfl (Nat.lt_trans hd (by decide)) (fun _ _ _ => BindsTo.of_eq rfl) (locs rfl) rfl rfl rfl (by decide) ?_
  intro g L h₁ tk cdv A' X m0 hX0 hX1 hX2 y h0 hL hin
  have hPg := gt_of (h₀ := h₀) Own.nil hin hP
  refine ctr fun hG3 => ?_; obtain ⟨t1, o1, n1, u1, t2, o2, n2, xa, xb, rfl, g1, g2, g3, g4, g5, g6, va, vb⟩ := VR.agg (hv.mono2 (P' := Tp P) fun a o t h => ⟨h, t⟩); refine hG3 ?_; clear hG3
  have tt1 : ∀ Γ, TT X.g Γ t1 [Value.str (Str.ofString "agg") u1, .ref t2] := fun Γ => TT.mk (.inl (hPg _ _ g1.2 g1.1)) g2 g3
  have tt2 : ∀ Γ, TT X.g Γ t2 [xa, xb] := fun Γ => TT.mk (.inl (hPg _ _ g4.2 g4.1)) g5 g6
  refine y_asg (pv_item' (pv_loc rfl) (tt1 _)) y fun _ s1 e1 y1 => ?_
  subst e1
  refine y_reteff ?_
  refine ev_tup2E ?_
  refine ev_pv pv_str y1 ?_
  intro sv s2 e2 y2
  obtain ⟨u2, rfl⟩ := e2
  refine ev_binE ?_
  refine ev_binE ?_
  refine ev_upTo (i := i) up_hit (tt2 _) (up_skip rfl) hi hlt y2 fun t3 s3 y3 => ?_
  refine ev_tup (pvs1 (pv_loc (up_skip rfl))) y3 (by decide) (fun vs e => by obtain ⟨_, rfl, _⟩ := e; rfl) fun vs t4 s4 e4 y4 => ?_
  obtain ⟨_, rfl, rfl⟩ := e4
  refine c_addT y4 (.tail _ (.head _)) (.head _) (by simp; lia) fun r5 Γ5 s5 m5 y5 => ?_
  refine ev_from (i := i) up_hit (tt2 _) (pv_add ((pv_loc (up_skip rfl)).mono fun v e => by subst e; exact hi) pv_int) hlt y5 fun t6 s6 y6 => ?_
  refine c_addT y6 (.tail _ m5) (.head _) (by simp; lia) fun r7 Γ7 s7 m7 y7 => ⟨_, _, _, y7, fun t8 s8 y8 => ?_⟩
  rw [y8.e]
  obtain ⟨u5, rfl⟩ := hp
  refine hQ _ _ _ _ (y8.kept h0 hin (List.Sublist.refl _) (fun _ h => nomatch h)) (y8.z.tupL hL) ?_
  have fa : ∀ {Γ}, VR (Or P Γ) xa v0.py := fun {Γ} => va.mono2 fun _ _ _ h => .inl h.1
  have fb : ∀ {Γ}, VR (Or P Γ) xb v1.py := fun {Γ} => vb.mono2 fun _ _ _ h => .inl h.1
  obtain rfl | rfl : i = 0 ∨ i = 1 := by exact n_o hlt
  · exact VR.tup (.head _) (.cons (.str _ _) (.cons (VR.tup (.tail _ m7) (.cons (.int _ _) (.cons fb .nil))) .nil))
  · exact VR.tup (.head _) (.cons (.str _ _) (.cons (VR.tup (.tail _ m7) (.cons fa (.cons (.int _ _) .nil))) .nil))
end
end Mine
end
section
open PySem PySem.W PySem.Calls PyProof.Rows PySem.Spec
set_option Elab.async false
set_option maxRecDepth 100000
set_option maxHeartbeats 4000000
set_option linter.unusedVariables false
namespace Mine
theorem VRs.set {P : Addr → Obj → Prop} {vs : List Value} {ds : List PyData} (r : VRs P vs ds) {x : Value} {d : PyData} (q : VR P x d) : ∀ k, VRs P (vs.set k x) (ds.set k d) := by
  induction vs generalizing ds with
  | nil => cases r; intro k; exact .nil
  | cons v vs ih =>
    cases r with
    | cons a b =>
      intro k
      cases k with
      | zero => exact .cons q b
      | succ k => exact .cons a (ih b k)
theorem tag_agg {v : V} (h : (!v.isInt && (v.hdw == Str.ofString "agg")) = true) : ∃ a b, v = .agg a b := by
  cases v with
  | agg a b => exact ⟨a, b, rfl⟩
  | hold k n => cases k <;> exact absurd h (by dsimp only [V.hdw, V.isInt]; decide +kernel)
  | soft u n => cases u <;> exact absurd h (by dsimp only [V.hdw, V.isInt]; decide +kernel)
  | _ => exact absurd h (by dsimp only [V.hdw, V.isInt]; decide +kernel)
theorem nats_lay (l : List Nat) : PyData.canLayAll0 ((l.map fun n : Nat => (n : Int)).map .int) = true ∧ PyData.depthAll ((l.map fun n : Nat => (n : Int)).map .int) ≤ 60 := ⟨PyProof.Rows.canLayAll_ints _, by rw [PyProof.Rows.depthAll_ints]; exact n_b rfl⟩
theorem put5_eq (j : Nat) (a b : V) : V.put5 j a b = .agg (if j = 0 then .int 5 else a) (if j = 0 then b else .int 5) := by unfold V.put5; split <;> rfl
theorem held_split {held : List V} {k : Nat} {v : V} (h : held[k]? = some v) : held = held.take k ++ v :: held.drop (k + 1) ∧ ∀ u, held.set k u = held.take k ++ u :: held.drop (k + 1) := by
  have hlt := (List.getElem?_eq_some_iff.mp h).1
  have he := (List.getElem?_eq_some_iff.mp h).2
  refine ⟨?_, fun u => List.set_eq_take_append_cons_drop .. |>.trans (by rw [if_pos hlt])⟩
  rw [← he, List.getElem_cons_drop, List.take_append_drop]
theorem Y.asc {X : Fn} {m : Str → Option Value} {a b c Γ : List (Addr × Obj)} {s : Shared} (y : Y X m (a ++ (b ++ c)) Γ s) : Y X m ((a ++ b) ++ c) Γ s := by rw [List.append_assoc]; exact y
theorem Y.uas {X : Fn} {m : Str → Option Value} {a b c Γ : List (Addr × Obj)} {s : Shared} (y : Y X m ((a ++ b) ++ c) Γ s) : Y X m (a ++ (b ++ c)) Γ s := by rw [← List.append_assoc]; exact y
section
variable {prog : Program} {w : World} {K : Frag} {A : Around} {E : Value → Shared → Prop} {s : Shared} {h₀ : Heap} {P : Addr → Obj → Prop} {b a c o : Addr} {pb : BP} {ph : HP} {H : H} {held : List V} {wks hks bks : List (Addr × Obj)} {Q : Value → Shared → Prop}
theorem three_noT (W : WRep prog w a c wks) (R : HRep prog w P o ph H hks) {P' : Addr → Obj → Prop} {H' : Mine.H} (B : BRep prog w P' b pb H' held bks) : ∀ q ∈ wks ++ (hks ++ bks), ¬ IsT q.2 := fun q hq => (List.mem_append.mp hq).elim (W.noT q) fun h => (List.mem_append.mp h).elim (R.noT q) (B.noT q)
theorem part_put_spec {D M n : Nat} (C : Cx K h₀) (hk : h₀.StaysIn s.heap) (hh : A.handled = none) (hd : A.depth < 650) (hu : A.units < 5500) (hP : ∀ a o, P a o → s.heap.get? a = some o) (O : Own h₀ s.heap (wks ++ (hks ++ bks))) (W : WRep prog w a c wks) (R : HRep prog w P o ph H hks) (B : BRep prog w P b pb H held bks)
    (N : Bnd D M n H held) (hD : D ≤ 50) (hM : M ≤ 2 ^ 21) (hn : n ≤ 60)
    (hQ : ∀ ph' pb' H' held' wks' hks' bks' h' t' Γ, Kept h₀ (wks ++ (hks ++ bks)) s.heap h' (wks' ++ (hks' ++ bks')) → TupL s.heap h' Γ → WRep prog w a c wks' → HRep prog w P o ph' H' hks' → BRep prog w (Or P Γ) b pb' H' held' bks' → Bnd D M n H' held' → Q (.bool true) { s with heap := h', toks := t' }) :
    wpAny (model prog w) A (call (.ref 329) [.ref a, .ref o, .ref b]) Q E s := by
  refine enterY (binds := [(Str.ofString "well", .ref a), (Str.ofString "heap", .ref o), (Str.ofString "book", .ref b)]) C hk hh (Nat.lt_trans hu (by decide)) O C.KF.f329 rfl (Nat.lt_trans hd (by decide)) (fun _ _ _ => BindsTo.of_eq rfl) (locs rfl) rfl rfl rfl (by decide) ?_
  intro g L h₁ tk cdv A' X m0 hX0 hX1 hX2 y h0 hL hin
  have hPg := gt_of O hin hP
  refine ex7 B.hd fun ob ot on hls ql cc c2 bh => ?_
  have hll : hls.length = held.length := by simpa using bh.hh.length
  have hnl := N.hl
  have hS : sizeLine = 16777216 := rfl
  have iB : ∀ {q : Addr × Obj}, q ∈ bks → q ∈ wks ++ (hks ++ bks) := fun h => List.mem_append_right _ (List.mem_append_right _ h)
  refine y_asgcomp (cl := []) (ev_type1E y.ok.C.b_enumerate rfl y fun s1 y1 => ev_pvq (pv_dstr (pv_loc rfl) (iB bh.m1) bh.hob) y1 fun s2 y2 => ?_) rfl
  refine c_enum y2 (iB bh.m4) fun en it oi s3 hoi y3 => ?_
  refine enum_menu (Pq := P) y3 hoi (three_noT W R B) (iB bh.m4) bh.hh hPg (n_t hnl (n_t hn (n_b rfl))) (by decide +kernel) rfl fun ys D1 dc s4 hme hyl y4 => ?_
  obtain ⟨ns, hzi, hns⟩ := id hme
  have hzl := hzi.length
  rw [List.length_map] at hzl
  cases ys with
  | nil =>
    refine y_if_t (pb_nil (P := No) (ds := []) (op := .Eq) true (pv_loc up_hit) (.head _) (fun _ _ _ _ h => h.elim) .nil (by simp [PyData.canLayAll0]) (by simp [PyData.depthAll]) (.inl ⟨rfl, rfl⟩)) y4 fun s5 y5 => ?_
    refine y_ret pv_bool y5 fun v s6 e6 y6 => ?_
    subst e6
    rw [y6.e]
    exact hQ _ _ H held _ _ _ _ _ [] (y6.kept h0 hin (List.sublist_cons_self _ _) (three_noT W R B)) (fun _ h => nomatch h) W R (B.mono fun _ _ _ h => .inl h) N
  | cons z0 zr =>
    have lay := nats_lay ns
    refine y_if_f (pb_nil (P := No) (op := .Eq) false (pv_loc up_hit) (.head _) (fun _ _ _ _ h => h.elim) (vrs_ints hzi) lay.1 lay.2 (.inl ⟨rfl, by cases ns with | nil => simp at hzl | cons a b => rfl⟩)) y4 fun s5 y5 => ?_
    refine y_asgT2 ?_
    refine ev_tup2E ?_
    refine ev_itemE (ev_pvq (pv_loc up_hit) y5 fun s6 y6 => ev_call y6.ok.C.g_law_draw y6.ok.C.k_law_draw (pvs2 (pv_loc (up_skip rfl)) (pv_len (pv_loc up_hit) (.head _) (n_t hyl (n_t hnl (n_t hn (n_b rfl)))))) y6 fun vs s7 e7 y7 => ?_)
    refine ex2 e7 fun _ v2 hKK => an3 hKK fun hE26 hE27 e2 => ?_; clear e7 hKK; subst hE26 hE27
    have y8 := Y.mid (a := [(D1, listOf (z0 :: zr).toArray dc)]) (b := wks) (c := hks ++ bks) y7
    refine draw_spec y8.ok.C y8.st hX0 (lvA hX1 hd) (lvC hX2 hu) (y8.own W.noT) W e2 (by simp only [List.length_cons]; exact n_k2) (n_cm (n_t hyl (n_t hnl (n_t hn (Nat.le_refl _)))) rfl) ?_
    intro r i wk1 h' t' kk W1 hr hi0 hi1
    have y9 := Y.unmid (a := [(D1, listOf (z0 :: zr).toArray dc)]) (b := wk1) (c := hks ++ bks) (y8.callK (t' := t') W.noT kk)
    clear kk
    have hlt : i.toNat < (z0 :: zr).length := by exact n_tn hi0 hi1
    refine ctr fun hG202 => ?_; obtain ⟨k, tk, hvk, u, huk, hut⟩ := hme.get (List.getElem?_eq_getElem hlt); refine hG202 ?_; clear hG202
    refine ⟨D1, z0 :: zr, dc, i, _, _, _, _, rfl, hr, y9, .head _, by rw [List.getElem?_eq_getElem hlt, hvk], hi0, by exact n_cs hi1 (n_t hyl (n_t hnl (n_t hn (Nat.le_refl _)))) rfl, fun s10 y10 => ?_⟩
    refine ev_call y10.ok.C.g_law_draw y10.ok.C.k_law_draw (pvs2 (pv_loc (up_skip rfl)) pv_int) y10 fun vs s11 e11 y11 => ?_
    refine ex2 e11 fun _ v3 hKK => an3 hKK fun hE28 hE29 e3 => ?_; clear e11 hKK; subst hE28 hE29
    have y12 := Y.mid (a := [(D1, listOf (z0 :: zr).toArray dc)]) (b := wk1) (c := hks ++ bks) y11
    refine draw_spec y12.ok.C y12.st hX0 (lvA hX1 hd) (lvC hX2 hu) (y12.own W1.noT) W1 e3 (by decide) (by decide) ?_
    intro r2 pl wk2 h' t' kk W2 hr2 hp0 hp1
    have y13 := Y.unmid (a := [(D1, listOf (z0 :: zr).toArray dc)]) (b := wk2) (c := hks ++ bks) (y12.callK (t' := t') W1.noT kk)
    clear kk
    obtain ⟨j, rfl⟩ : ∃ j : Nat, pl = (j : Int) := ⟨pl.toNat, by exact n_tt hp0⟩
    refine ⟨_, _, _, y13, fun t1 s14 y14 => ⟨t1, _, _, _, _, _, rfl, TT.mk (.inr (.head _)) rfl rfl, y14, fun s15 y15 => ?_⟩⟩
    have y16 := y15.sub (List.sublist_cons_self _ _)
    obtain ⟨va, vb, rfl⟩ := tag_agg hut
    have hklt := (List.getElem?_eq_some_iff.mp huk).1
    obtain ⟨xo, hxo, hvo⟩ := bh.hh.get (i := k) (d := (V.agg va vb).py) (by rw [List.getElem?_map, huk]; rfl)
    have iC : ∀ {q : Addr × Obj}, q ∈ bks → q ∈ wk2 ++ (hks ++ bks) := fun h => List.mem_append_right _ (List.mem_append_right _ h)
    refine y_asg (pv_litem (vp := fun _ => True) (i := (k : Int)) (pv_dstr (pv_loc (up_skip (up_skip (up_skip rfl)))) (iC bh.m1) bh.hob) ((pv_loc up_hit).mono fun v e => by subst e; exact ⟨_, rfl⟩) (iC bh.m4) (by rw [Int.toNat_natCast]; exact hxo) (Int.natCast_nonneg _) (n_c (n_s hklt (n_t hnl (n_t hn (Nat.le_refl _)))) rfl)) y16 fun _ s17 e17 y17 => ?_
    subst e17
    refine ctr fun hG204 => ?_; obtain ⟨to, oo, no, uo, to2, oo2, no2, xa, xb, rfl, g1, g2, g3, g4, g5, g6, hxa, hxb⟩ := VR.agg (hvo.mono2 (P' := Tp P) fun a o t h => ⟨h, t⟩); refine hG204 ?_; clear hG204
    have tt1 : ∀ Γ, TT X.g Γ to [Value.str (Str.ofString "agg") uo, .ref to2] := fun Γ => TT.mk (.inl (hPg _ _ g1.2 g1.1)) g2 g3
    have tt2 : ∀ Γ, TT X.g Γ to2 [xa, xb] := fun Γ => TT.mk (.inl (hPg _ _ g4.2 g4.1)) g5 g6
    have hvo' : VR (Tp P) (.ref to) (V.agg va vb).py := hvo.mono2 fun a o t h => ⟨h, t⟩
    refine y_asgeff (ev_call y17.ok.C.g_with_part y17.ok.C.k_with_part (pvs3 (pv_loc up_hit) (pv_loc (up_skip (up_skip up_hit))) pv_int) y17 fun vs s18 e18 y18 => ?_)
    refine ex3 e18 fun x1 x2 pv5 hKK => an4 hKK fun hE30 hx1 hx2 e5 => ?_; clear e18 hKK; subst hE30
    rw [hx1, hx2]
    refine with_part_spec (P := Tp P) (i := j) y18.ok.C y18.st hX0 (lvA hX1 hd) (lvC hX2 hu) (fun a o h => y18.z.old (hPg a o h.2 h.1)) hvo' hr2 (by lia) e5 ?_
    intro fr h' t' Γf kk tl hfr
    refine y_store (y18.call0 (t' := t') kk tl) fun s19 y19 => ?_
    clear kk tl
    refine y_asgsub ?_
    refine ev_tup2E ?_
    refine ev_pv pv_str y19 ?_
    intro sv s20 e20 y20
    obtain ⟨u20, rfl⟩ := e20
    refine wpAny_mono (Q := fun x s' => ∃ Γ5, Y X (up (Str.ofString "fresh") fr (up (Str.ofString "old") (.ref to) (up (Str.ofString "at") (.int (k : Int) tk) (up (Str.ofString "place") r2 (up (Str.ofString "menu") (.ref D1) fun y => List.lookup y [(Str.ofString "well", Value.ref a), (Str.ofString "heap", .ref o), (Str.ofString "book", .ref b)].reverse))))) (wk2 ++ (hks ++ bks)) Γ5 s' ∧ VR (Or (Tp P) Γ5) fr (V.put5 j va vb).py ∧ VR (Or (Tp P) Γ5) x (.tuple [(if j = 0 then V.int 5 else va).py, (if j = 0 then vb else .int 5).py])) ?_ (fun x s21 q => ?_) fun _ _ e => e
    · obtain rfl | rfl : j = 0 ∨ j = 1 := by lia
      · refine ev_ifexp true (pb_eqi ((pv_loc (up_skip (up_skip (up_skip up_hit)))).mono fun v e => by subst e; exact hr2) pv_int rfl) y20 fun s21 y21 => ?_
        refine ev_tup (pvs2 pv_int (pv_item' (pv_item' (pv_loc (up_skip up_hit)) (tt1 _)) (tt2 _))) y21 (by decide) (fun vs e => by obtain ⟨_, _, rfl, _⟩ := e; rfl) fun vs tn s22 e22 y22 => ?_
        refine ctr fun hG206 => ?_; obtain ⟨_, _, rfl, ⟨_, rfl⟩, rfl⟩ := e22; refine hG206 ?_; clear hG206
        exact ⟨_, y22, hfr.mono2 fun _ _ _ h => h.imp id fun h => .tail _ (List.mem_append_left _ h), VR.tup (.head _) (.cons (.int _ _) (.cons (hxb.mono2 fun _ _ _ h => .inl h) .nil))⟩
      · refine ev_ifexp false (pb_eqi ((pv_loc (up_skip (up_skip (up_skip up_hit)))).mono fun v e => by subst e; exact hr2) pv_int rfl) y20 fun s21 y21 => ?_
        refine ev_tup (pvs2 (pv_item' (pv_item' (pv_loc (up_skip up_hit)) (tt1 _)) (tt2 _)) pv_int) y21 (by decide) (fun vs e => by obtain ⟨_, _, rfl, _⟩ := e; rfl) fun vs tn s22 e22 y22 => ?_
        refine ctr fun hG207 => ?_; obtain ⟨_, _, rfl, rfl, ⟨_, rfl⟩⟩ := e22; refine hG207 ?_; clear hG207
        exact ⟨_, y22, hfr.mono2 fun _ _ _ h => h.imp id fun h => .tail _ (List.mem_append_left _ h), VR.tup (.head _) (.cons (hxa.mono2 fun _ _ _ h => .inl h) (.cons (.int _ _) .nil))⟩
    obtain ⟨Γ5, y21, hfr5, hx5⟩ := q
    refine ⟨_, _, _, y21, fun nt s22 y22 => ?_⟩
    refine ev_pv (pv_dstr (pv_loc (up_skip (up_skip (up_skip (up_skip (up_skip rfl)))))) (iC bh.m1) bh.hob) y22 ?_
    intro _ s23 e23 y23
    subst e23
    refine ev_pv (pv_loc (up_skip (up_skip up_hit))) y23 ?_
    intro _ s24 e24 y24
    subst e24
    have hvn : VR (Or (Tp P) ((nt, tupO [Value.str (Str.ofString "agg") u20, x]) :: Γ5)) (.ref nt) (V.put5 j va vb).py := by
      rw [put5_eq]
      exact VR.tup (.head _) (.cons (.str _ _) (.cons hx5.up1 .nil))
    refine ctr fun hG208 => ?_; obtain ⟨hl2, c5, f5, ah, hh2, hset⟩ := (B.tp.mono (P' := Or (Tp P) ((nt, tupO [Value.str (Str.ofString "agg") u20, x]) :: Γ5)) fun _ _ _ h => .inl h).held; refine hG208 ?_; clear hG208
    have hl2l : hl2.length = held.length := by simpa using hh2.length
    refine c_lset y24 (.app (.app ah)) (Int.natCast_nonneg _) (by rw [List.size_toArray]; lia) (n_c (n_s hklt (n_t hnl (n_t hn (Nat.le_refl _)))) rfl) fun s25 c25 y25 => ?_
    rw [show hl2.toArray.setIfInBounds ((k : Int).toNat) (.ref nt) = (hl2.set k (.ref nt)).toArray by simp] at y25
    have B1 := hset (hl2.set k (.ref nt)) (held.set k (V.put5 j va vb)) c25 (by rw [List.map_set]; exact hh2.set hvn k)
    generalize hbk1 : f5 (listOf (hl2.set k (.ref nt)).toArray c25) = bk1 at y25 B1
    clear hbk1 hset ah hh2
    obtain ⟨e1, e2⟩ := held_split huk
    have N1 := N
    rw [e1] at N1
    have hj2 : j = 0 ∨ j = 1 := by lia
    obtain ⟨H', hg, ⟨Nr, hrun⟩, N2⟩ := N1.part (i := j) (v := if j = 0 then va else vb) (by rcases hj2 with rfl | rfl <;> simp) (n_t hD (n_b rfl)) (n_t hM (n_b rfl)) hn
    rw [← e2] at N2
    have hda := N.hd (.agg va vb) (List.mem_of_getElem? huk)
    have hsa : (V.agg va vb).size ≤ vsz held := by rw [e1, vsz_app, vsz_cons]; lia
    have hszz := N.sz
    have hgv : [xa, xb][j]? = some (if j = 0 then xa else xb) ∧ VR (Tp P) (if j = 0 then xa else xb) (if j = 0 then va else vb).py ∧ (if j = 0 then va else vb).dep ≤ (V.agg va vb).dep ∧ (if j = 0 then va else vb).size ≤ (V.agg va vb).size := by
      obtain rfl | rfl : j = 0 ∨ j = 1 := by exact hj2
      · exact ⟨rfl, hxa, by show va.dep ≤ max va.dep vb.dep + 2; lia, by show va.size ≤ va.size + vb.size + 1; lia⟩
      · exact ⟨rfl, hxb, by show vb.dep ≤ max va.dep vb.dep + 2; lia, by show vb.size ≤ va.size + vb.size + 1; lia⟩
    obtain ⟨hg1, hg2, hg3, hg4⟩ := hgv
    generalize hgx : (if j = 0 then xa else xb) = gx at hg1 hg2
    generalize hgvv : (if j = 0 then va else vb) = gv at hg hrun hg2 hg3 hg4
    refine ex4 R.hd fun es n0 od lv hd0 => ?_
    have iH : ∀ {q : Addr × Obj} {bk : List (Addr × Obj)}, q ∈ hks → q ∈ wk2 ++ (hks ++ bk) := fun h => List.mem_append_right _ (List.mem_append_left _ h)
    refine y_expr (ev_meth (pv_loc (up_skip (up_skip (up_skip (up_skip (up_skip rfl)))))) (iH hd0.m1) (iH hd0.m2) hd0.er y25.ok.C.m_destroyed y25.ok.C.n_destroyed y25.ok.C.km_destroyed (pvs1 (pv_titem (pv_item' (pv_loc (up_skip up_hit)) (tt1 _)) ((pv_loc (up_skip (up_skip (up_skip up_hit)))).mono fun v e => by subst e; exact hr2) (tt2 _) hg1 (by lia))) y25 fun vs s26 e26 y26 => ?_)
    obtain ⟨xg, rfl, hxg⟩ := e26
    rw [hxg]
    have y27 := Y.mid (a := wk2) (b := hks) (c := bk1) y26
    refine destroyed_spec (P := Tp P) (v := gv) y27.ok.C y27.st hX0 (lvA hX1 hd) (lvC hX2 hu) (fun a o h => y27.z.old (hPg a o h.2 h.1)) hg2 (n_t hg3 (n_t hda (n_t hD (n_b rfl)))) (n_t hg4 (n_t hsa (n_t (n_ar hszz) (n_t hM (n_b rfl))))) (y27.own R.noT) R.tp hrun ?_
    intro ph2 hk2 h' t' Γ2 kk tl R2
    have y28 := Y.unmid (a := wk2) (b := hk2) (c := bk1) (y27.calls (t' := t') (y27.own R.noT) kk tl)
    clear kk tl
    refine ex7 B1.hd fun ob2 ot2 on2 hls2 ql2 cc2 c22 bh2 => ?_
    refine y_expr (ev_call y28.ok.C.g_law_gone y28.ok.C.k_law_gone (pvs2 (pv_loc (up_skip (up_skip (up_skip (up_skip (up_skip rfl)))))) (pv_titem (pv_item' (pv_loc (up_skip up_hit)) (tt1 _)) ((pv_loc (up_skip (up_skip (up_skip up_hit)))).mono fun v e => by subst e; exact hr2) (tt2 _) hg1 (by lia))) y28 fun vs s29 e29 y29 => ?_)
    refine ex2 e29 fun xb' xg' hKK => an3 hKK fun hE31 hxb' hxg' => ?_; clear e29 hKK; subst hE31
    rw [hxb', hxg']
    have y30 : Y X _ ((wk2 ++ hk2) ++ bk1) (Γ2 ++ ((nt, tupO [Value.str (Str.ofString "agg") u20, x]) :: Γ5)) s29 := Y.asc y29
    have B2 := B1.upA (Γ' := Γ2)
    refine gone_spec 61 (P := Or (Tp P) (Γ2 ++ ((nt, tupO [Value.str (Str.ofString "agg") u20, x]) :: Γ5))) (P1 := Tp P) y30.ok.C y30.st hX0 (by show A'.depth + _ < 780; exact n_lt (n_t (n_a (n_e hX1 (n_t (n_a (n_s hd (Nat.le_refl _)) (Nat.le_refl _)) (Nat.le_refl _))) (Nat.le_refl _)) (Nat.le_refl _)) (n_bl rfl)) (by show A'.units + _ < 6900; exact n_lt (n_t (n_a (n_e hX2 (n_t (n_a (n_s hu (Nat.le_refl _)) (Nat.le_refl _)) (Nat.le_refl _))) (Nat.le_refl _)) (Nat.le_refl _)) (n_bl rfl)) (y30.rd hPg) (fun a o h => y30.z.old (hPg a o h.2 h.1)) hg2 (n_t hg3 (n_t hda (n_t hD (n_b rfl)))) (n_t hg4 (n_t hsa (n_t (n_ar hszz) (n_t hM (n_b rfl))))) (y30.own B2.noT) B2 hg ?_
    intro pb2 bk2 h'' t'' Γ3 kk3 tl3 B3
    have y31 := y30.calls (t' := t'') (y30.own B2.noT) kk3 tl3
    clear kk3 tl3
    have B4 : BRep prog w (Or (Tp P) (Γ3 ++ (Γ2 ++ ((nt, tupO [Value.str (Str.ofString "agg") u20, x]) :: Γ5)))) b pb2 H' _ bk2 := B3.upA (Γ' := Γ3)
    refine ex7 B4.hd fun ob3 ot3 on3 hls3 ql3 cc3 c33 bh3 => ?_
    have iD : ∀ {q : Addr × Obj}, q ∈ bk2 → q ∈ (wk2 ++ hk2) ++ bk2 := fun h => List.mem_append_right _ h
    obtain ⟨x3, hx3, hv3⟩ := bh3.hh.get (i := k) (d := (V.put5 j va vb).py) (by rw [List.getElem?_map, List.getElem?_set_self hklt]; rfl)
    have hput := N2.hd (V.put5 j va vb) (by rw [e2]; simp)
    have hlay := V.lay (V.put5 j va vb)
    have hsh := shaped_of hlay (n_suc (n_lt (n_t hput (n_t hD (Nat.le_refl _))) (n_bl rfl)))
    refine y_ret (pv_cmp (va := (· = fr)) (vb := (· = x3)) (r := true) (pv_loc up_hit) (pv_litem (vp := fun _ => True) (i := (k : Int)) (pv_dstr (pv_loc (up_skip (up_skip (up_skip (up_skip (up_skip rfl)))))) (iD bh3.m1) bh3.hob) ((pv_loc (up_skip (up_skip up_hit))).mono fun v e => by subst e; exact ⟨_, rfl⟩) (iD bh3.m4) (by rw [Int.toNat_natCast]; exact hx3) (Int.natCast_nonneg _) (n_c (n_s hklt (n_t hnl (n_t hn (Nat.le_refl _)))) rfl)) fun x z s32 E32 qx qz y32 => ?_) y31 fun v s33 e33 y33 => ?_
    · subst qx qz
      refine z_eq true y32.z (hfr5.mono2 fun a o t h => h.imp (fun q => hPg a o q.2 q.1) fun h => List.mem_append_right _ (List.mem_append_right _ (.tail _ h))) (hv3.mono2 fun a o t h => h.imp (fun q => hPg a o q.2 q.1) id) hsh hsh y32.ok.hu (eqv_refl0 _ hlay.1) ⟨rfl, y32⟩
    · subst e33
      have y34 := Y.uas y33
      rw [y34.e]
      have B5 := B4.mono (P' := Or P (Γ3 ++ (Γ2 ++ ((nt, tupO [Value.str (Str.ofString "agg") u20, x]) :: Γ5)))) fun _ _ _ h => h.imp (fun h => h.1) id
      exact hQ _ _ H' _ wk2 hk2 bk2 _ _ _ (y34.kept h0 hin (List.Sublist.refl _) (three_noT W2 R2.pt B5)) (y34.z.tupL hL) W2 R2.pt B5 N2
end
end Mine
end
section
open PySem PySem.W PySem.Calls PyProof.Rows PySem.Spec
set_option Elab.async false
set_option maxRecDepth 100000
set_option maxHeartbeats 4000000
set_option linter.unusedVariables false
namespace Mine
theorem tag_buf {v : V} (h : (!v.isInt && (v.hdw == Str.ofString "buf")) = true) : ∃ n, v = .hold .buf n := by
  cases v with
  | hold k n => cases k with
    | buf => exact ⟨n, rfl⟩
    | ref => exact absurd h (by dsimp only [V.hdw, V.isInt]; decide +kernel)
    | box => exact absurd h (by dsimp only [V.hdw, V.isInt]; decide +kernel)
  | soft u n => cases u <;> exact absurd h (by dsimp only [V.hdw, V.isInt]; decide +kernel)
  | _ => exact absurd h (by dsimp only [V.hdw, V.isInt]; decide +kernel)
section
variable {prog : Program} {w : World} {K : Frag} {A : Around} {E : Value → Shared → Prop} {s : Shared} {h₀ : Heap} {P : Addr → Obj → Prop} {b a c o : Addr} {pb : BP} {ph : HP} {H : H} {held : List V} {wks hks bks : List (Addr × Obj)} {Q : Value → Shared → Prop}
theorem own_spec {D M n : Nat} (C : Cx K h₀) (hk : h₀.StaysIn s.heap) (hh : A.handled = none) (hd : A.depth < 650) (hu : A.units < 5500) (hP : ∀ a o, P a o → s.heap.get? a = some o) (O : Own h₀ s.heap (wks ++ (hks ++ bks))) (W : WRep prog w a c wks) (R : HRep prog w P o ph H hks) (B : BRep prog w P b pb H held bks)
    (N : Bnd D M n H held) (hD : D ≤ 50) (hM : M ≤ 2 ^ 21) (hn : n ≤ 59)
    (hQ : ∀ ph' pb' H' held' wks' hks' bks' h' t' Γ, Kept h₀ (wks ++ (hks ++ bks)) s.heap h' (wks' ++ (hks' ++ bks')) → TupL s.heap h' Γ → WRep prog w a c wks' → HRep prog w P o ph' H' hks' → BRep prog w (Or P Γ) b pb' H' held' bks' → Bnd D (2 * M + 1) (n + 1) H' held' → Q (.bool true) { s with heap := h', toks := t' }) :
    wpAny (model prog w) A (call (.ref 334) [.ref a, .ref o, .ref b]) Q E s := by
  refine enterY (binds := [(Str.ofString "well", .ref a), (Str.ofString "heap", .ref o), (Str.ofString "book", .ref b)]) C hk hh (Nat.lt_trans hu (by decide)) O C.KF.f334 rfl (Nat.lt_trans hd (by decide)) (fun _ _ _ => BindsTo.of_eq rfl) (locs rfl) rfl rfl rfl (by decide) ?_
  intro g L h₁ tk cdv A' X m0 hX0 hX1 hX2 y h0 hL hin
  have hPg := gt_of O hin hP
  refine ex7 B.hd fun ob ot on hls ql cc c2 bh => ?_
  have hll : hls.length = held.length := by simpa using bh.hh.length
  have hnl := N.hl
  have hS : sizeLine = 16777216 := rfl
  have iB : ∀ {q : Addr × Obj}, q ∈ bks → q ∈ wks ++ (hks ++ bks) := fun h => List.mem_append_right _ (List.mem_append_right _ h)
  refine y_asgcomp (cl := []) (ev_type1E y.ok.C.b_enumerate rfl y fun s1 y1 => ev_pvq (pv_dstr (pv_loc rfl) (iB bh.m1) bh.hob) y1 fun s2 y2 => ?_) rfl
  refine c_enum y2 (iB bh.m4) fun en it oi s3 hoi y3 => ?_
  refine enum_menu (Pq := P) y3 hoi (three_noT W R B) (iB bh.m4) bh.hh hPg (n_t hnl (n_t hn (n_b rfl))) (by decide +kernel) rfl fun ys D1 dc s4 hme hyl y4 => ?_
  obtain ⟨ns, hzi, hns⟩ := id hme
  have hzl := hzi.length
  rw [List.length_map] at hzl
  cases ys with
  | nil =>
    refine y_if_t (pb_nil (P := No) (ds := []) (op := .Eq) true (pv_loc up_hit) (.head _) (fun _ _ _ _ h => h.elim) .nil (by simp [PyData.canLayAll0]) (by simp [PyData.depthAll]) (.inl ⟨rfl, rfl⟩)) y4 fun s5 y5 => ?_
    refine y_ret pv_bool y5 fun v s6 e6 y6 => ?_
    subst e6
    rw [y6.e]
    exact hQ _ _ H held _ _ _ _ _ [] (y6.kept h0 hin (List.sublist_cons_self _ _) (three_noT W R B)) (fun _ h => nomatch h) W R (B.mono fun _ _ _ h => .inl h) (N.mono (Nat.le_refl _) (n_2 (a := 0) rfl) (n_r (Nat.le_refl _)))
  | cons z0 zr =>
    have lay := nats_lay ns
    refine y_if_f (pb_nil (P := No) (op := .Eq) false (pv_loc up_hit) (.head _) (fun _ _ _ _ h => h.elim) (vrs_ints hzi) lay.1 lay.2 (.inl ⟨rfl, by cases ns with | nil => simp at hzl | cons a b => rfl⟩)) y4 fun s5 y5 => ?_
    refine y_asgeff (ev_itemE (ev_pvq (pv_loc up_hit) y5 fun s6 y6 => ev_call y6.ok.C.g_law_draw y6.ok.C.k_law_draw (pvs2 (pv_loc (up_skip rfl)) (pv_len (pv_loc up_hit) (.head _) (n_t hyl (n_t hnl (n_t hn (n_b rfl)))))) y6 fun vs s7 e7 y7 => ?_))
    refine ex2 e7 fun _ v2 hKK => an3 hKK fun hE32 hE33 e2 => ?_; clear e7 hKK; subst hE32 hE33
    have y8 := Y.mid (a := [(D1, listOf (z0 :: zr).toArray dc)]) (b := wks) (c := hks ++ bks) y7
    refine draw_spec y8.ok.C y8.st hX0 (lvA hX1 hd) (lvC hX2 hu) (y8.own W.noT) W e2 (by simp only [List.length_cons]; exact n_k2) (n_cm (n_t hyl (n_t hnl (n_t hn (Nat.le_refl _)))) rfl) ?_
    intro r i wk1 h' t' kk W1 hr hi0 hi1
    have y9 := Y.unmid (a := [(D1, listOf (z0 :: zr).toArray dc)]) (b := wk1) (c := hks ++ bks) (y8.callK (t' := t') W.noT kk)
    clear kk
    have hlt : i.toNat < (z0 :: zr).length := by exact n_tn hi0 hi1
    refine ctr fun hG215 => ?_; obtain ⟨k, tk, hvk, u, huk, hut⟩ := hme.get (List.getElem?_eq_getElem hlt); refine hG215 ?_; clear hG215
    refine ⟨D1, z0 :: zr, dc, i, _, _, _, _, rfl, hr, y9, .head _, by rw [List.getElem?_eq_getElem hlt, hvk], hi0, by exact n_cs hi1 (n_t hyl (n_t hnl (n_t hn (Nat.le_refl _)))) rfl, fun s10 y10 => y_store (y10.sub (List.sublist_cons_self _ _)) fun s11 y11 => ?_⟩
    clear hme hzi hns hvk hr y9 y10
    obtain ⟨kn, rfl⟩ := tag_buf hut
    have hklt := (List.getElem?_eq_some_iff.mp huk).1
    obtain ⟨xo, hxo, hvo⟩ := bh.hh.get (i := k) (d := (V.hold .buf kn).py) (by rw [List.getElem?_map, huk]; rfl)
    have iC : ∀ {q : Addr × Obj}, q ∈ bks → q ∈ wk1 ++ (hks ++ bks) := fun h => List.mem_append_right _ (List.mem_append_right _ h)
    have iH : ∀ {q : Addr × Obj}, q ∈ hks → q ∈ wk1 ++ (hks ++ bks) := fun h => List.mem_append_right _ (List.mem_append_left _ h)
    refine ctr fun hG216 => ?_; obtain ⟨to, oo, no, uo, zo, rfl, g1, g2, g3⟩ := VR.two (hvo.mono2 (P' := Tp P) fun a o t h => ⟨h, t⟩); refine hG216 ?_; clear hG216
    have tt1 : ∀ Γ, TT X.g Γ to _ := fun Γ => TT.mk (.inl (hPg _ _ g1.2 g1.1)) g2 g3
    refine y_asg (pv_item' (pv_litem (vp := fun _ => True) (i := (k : Int)) (pv_dstr (pv_loc (up_skip (up_skip rfl))) (iC bh.m1) bh.hob) ((pv_loc up_hit).mono fun v e => by subst e; exact ⟨_, rfl⟩) (iC bh.m4) (by rw [Int.toNat_natCast]; exact hxo) (Int.natCast_nonneg _) (n_c (n_s hklt (n_t hnl (n_t hn (Nat.le_refl _)))) rfl)) (tt1 _)) y11 fun _ s12 e12 y12 => ?_
    subst e12
    have hkmem := List.mem_of_getElem? huk
    obtain ⟨t, ht, hlive, hge⟩ := N.alive hkmem (k := kn) rfl
    obtain ⟨tp, htp⟩ := B.place ht
    refine ctr fun hG217 => ?_; obtain ⟨kd, sv, wv, uv, stv, n5, c5, fls, f5, th⟩ := B.th ht htp; refine hG217 ?_; clear hG217
    refine ex4 R.hd fun es n0 od lv hd0 => ?_
    have hsN := N.sz
    have htN := N.ts
    have hfz := sum_le ht
    have hnumI : IsI ((kn : Int) + 1) (Value.int ((kn : Int) + 1) zo) := ⟨_, rfl⟩
    have hfll : t.fields.length ≤ 1000 := Nat.le_trans (N.bd.nm kn t ht).2 (by decide)
    have hcan : ∀ u ∈ t.fields, ∀ l ∈ u.links, ∃ t, H.ts[l.2]? = some t ∧ (l.1 = .strong → t.st ≠ .gone) := fun u hu l hl => by
      obtain ⟨t', h1, h2⟩ := N.inv.can (List.mem_append_left _ (fl_at ht (List.mem_flatMap.mpr ⟨u, hu, hl⟩)))
      exact ⟨t', h1, fun e e2 => by have := h2 (by rw [e]; rfl); rw [e2] at this; cases this⟩
    have hngone : t.st ≠ .gone := fun e => by rw [e] at hlive; cases hlive
    have hfdep := N.bd.dep kn t ht
    have hfsz : (t.fields.map V.size).sum ≤ 2 ^ 22 := Nat.le_trans hfz (n_t (n_al hsN) (n_t hM (n_b rfl)))
    refine y_asgT2 (ev_tup2E (ev_pvq (pv_ditem (pv_dstr (pv_loc (up_skip (up_skip (up_skip rfl)))) (iC bh.m1) bh.hob) (pv_loc up_hit) (iC bh.m2) bh.hot (fun x e => by subst e; exact isI_is (X := X) hnumI) (keyed_atB htp)) y12 fun s13 y13 => ev_meth (pv_loc (up_skip (up_skip (up_skip rfl)))) (iH hd0.m1) (iH hd0.m2) hd0.er y13.ok.C.m_own_buffer y13.ok.C.n_own_buffer y13.ok.C.km_own_buffer (pvs1 (pv_loc up_hit)) y13 fun vs s14 e14 y14 => ?_))
    obtain rfl := Va1.eq e14
    have y15 := Y.mid (a := wk1) (b := hks) (c := bks) y14
    by_cases hE : t.strong = 1
    · refine own_buffer_spec (P := Tp P) (N := 0) (H' := H) y15.ok.C y15.st hX0 (lvA hX1 hd) (lvC hX2 hu) (fun a o h => y15.z.old (hPg a o h.2 h.1)) (y15.own R.noT) R.tp ht hnumI hngone (fun u hu => Nat.le_trans (hfdep u hu) (n_t hD (n_b rfl))) hfsz hfll (n_t htN (n_t hn (n_b rfl))) hcan (fun _ h' t' kk => ?_) (fun h => absurd hE h) (fun h => absurd hE h)
      refine ⟨_, _, _, Y.unmid (a := wk1) (b := hks) (c := bks) (y15.callK (t' := t') R.noT kk), fun t1 s16 y16 => ⟨t1, _, _, _, _, _, rfl, TT.mk (.inr (.head _)) rfl rfl, y16, fun s17 y17 => ?_⟩⟩
      refine y_if_t (pb_eqi ((pv_litem (its := [kd, .ref tp.f, sv, wv, uv, stv]) (n := n5) (vp := fun _ => True) (pv_loc up_hit) pv_int (iC th.at_.mem) rfl (by decide) (by decide)).mono fun v e => by subst e; exact th.k3) pv_int (by rw [hE]; rfl)) y17 fun s18 y18 => ?_
      refine y_ret (pv_cmp (va := IsI ((kn : Int) + 1)) (vb := IsI ((kn : Int) + 1)) (r := true) ((pv_loc (up_skip up_hit)).mono fun v e => by subst e; exact hnumI) ((pv_loc (up_skip (up_skip up_hit))).mono fun v e => by subst e; exact hnumI) (fun x z s E q1 q2 y => by obtain ⟨t, rfl⟩ := q1; obtain ⟨u, rfl⟩ := q2; exact z_eqi true (by simp) ⟨rfl, y⟩)) y18 fun v s19 e19 y19 => ?_
      subst e19
      rw [y19.e]
      exact hQ _ _ H held wk1 hks bks _ _ _ (y19.kept h0 hin (List.Sublist.refl _) (three_noT W1 R B)) (y19.z.tupL hL) W1 R (B.mono fun _ _ _ h => .inl h) (N.mono (Nat.le_refl _) (n_2 (a := 0) rfl) (n_r (Nat.le_refl _)))
    · refine ctr fun hG219 => ?_; obtain ⟨H3, t3, hg, ⟨Nr, hrun⟩, N3, ht3, hf3, hnew, hkl⟩ := N.own huk ht hE (n_t hD (n_b rfl)) hM hn; refine hG219 ?_; clear hG219
      refine own_buffer_spec (P := Tp P) (H' := H3) y15.ok.C y15.st hX0 (lvA hX1 hd) (lvC hX2 hu) (fun a o h => y15.z.old (hPg a o h.2 h.1)) (y15.own R.noT) R.tp ht hnumI hngone (fun u hu => Nat.le_trans (hfdep u hu) (n_t hD (n_b rfl))) hfsz hfll (n_t htN (n_t hn (n_b rfl))) hcan (fun h => absurd h hE) (fun _ => hrun) (fun _ ph2 r2 hk2 h' t' Γ1 kk tl R2 hr2 => ?_)
      obtain ⟨tr, rfl⟩ := hr2
      refine ⟨_, _, _, Y.unmid (a := wk1) (b := hk2) (c := bks) (y15.calls (t' := t') (y15.own R.noT) kk tl), fun t1 s16 y16 => ⟨t1, _, _, _, _, _, rfl, TT.mk (.inr (.head _)) rfl rfl, y16, fun s17 y17 => ?_⟩⟩
      clear y12 y13 y14 y15 y16 kk tl iH iC hcan
      have iD : ∀ {q : Addr × Obj} {bk : List (Addr × Obj)}, q ∈ bk → q ∈ wk1 ++ (hk2 ++ bk) := fun h => List.mem_append_right _ (List.mem_append_right _ h)
      refine y_if_f (pb_eqi ((pv_litem (its := [kd, .ref tp.f, sv, wv, uv, stv]) (n := n5) (vp := fun _ => True) (pv_loc up_hit) pv_int (iD th.at_.mem) rfl (by decide) (by decide)).mono fun v e => by subst e; exact th.k3) pv_int (by simpa using hE)) y17 fun s18 y18 => ?_
      have hout : valueAt (keyed 1 (pb.tps.map fun t => Value.ref t.a)) ((H.ts.length : Int) + 1) = none := keyed_out _ _ _ (.inr (by rw [List.length_map, bh.hlen]; lia))
      refine y_if_f (pb_ind ((pv_loc (up_skip up_hit)).mono fun v e => by subst e; exact ⟨_, rfl⟩) (pv_dstr (pv_loc (up_skip (up_skip (up_skip (up_skip (up_skip rfl)))))) (iD bh.m1) bh.hob) (iD bh.m2) bh.hot bh.lo (by rw [hout]; rfl)) y18 fun s19 y19 => ?_
      refine y_for (ev_pvq (pv_litem (its := [kd, .ref tp.f, sv, wv, uv, stv]) (n := n5) (vp := fun _ => True) (pv_loc up_hit) pv_int (iD th.at_.mem) rfl (by decide) (by decide)) y19 fun s20 y20 => ?_)
      have hfl : fls.length = t.fields.length := by simpa using th.k7.length
      refine ⟨tp.f, fls.length, fun i m' news Γ => ∃ bk, news = wk1 ++ (hk2 ++ bk) ∧ m' "heap" = some (.ref o) ∧ m' "book" = some (.ref b) ∧ m' "number" = some (.int ((kn : Int) + 1) zo) ∧ m' "thing" = some (.ref tp.a) ∧ m' "told_number" = some (.int ((H.ts.length : Int) + 1) tr) ∧ m' "at" = some (.int (k : Int) tk) ∧
          BRep prog w (Tp P) b pb (H.links (lks (t.fields.take i)) 1) held bk, _, _, _, rfl, y20, ⟨bks, rfl, up_skip (up_skip (up_skip (up_skip (up_skip rfl)))), up_skip (up_skip (up_skip (up_skip (up_skip rfl)))), up_skip (up_skip up_hit), up_hit, up_skip up_hit, up_skip (up_skip (up_skip up_hit)), by simpa [Mine.H.links] using B.tp⟩, ?_, ?_⟩
      · intro i m' news Γ hJJ; refine ctr fun hG220 => ?_; obtain ⟨bk, rfl, mh, mb, mn, mt, mtn, ma, Bi⟩ := hJJ; refine hG220 ?_; clear hG220
        refine ctr fun hG221 => ?_; obtain ⟨T1, hT1, hst1, _, _, hf1⟩ := Mine.H.links_get (lks (t.fields.take i)) 1 _ ht; refine hG221 ?_; clear hG221
        refine ctr fun hG222 => ?_; obtain ⟨kdi, svi, wvi, uvi, stvi, ni, ci, flsi, fi, thi⟩ := Bi.th hT1 htp; refine hG222 ?_; clear hG222
        have hk7 := thi.k7
        rw [hf1] at hk7
        have hfli : flsi.length = t.fields.length := by simpa using hk7.length
        refine ⟨flsi.toArray, ci, iD thi.t3, by simp; exact hfli.trans hfl.symm, fun hlt I oI u s21 E' ho hx y21 => as_name y21 fun s22 y22 => ?_⟩
        have hx' : flsi[i]? = some u := by simpa using hx
        have hpi : i < t.fields.length := by exact n_ls hlt (Nat.le_of_eq hfl)
        obtain ⟨u', hu1, hu2⟩ := hk7.get (i := i) (d := (t.fields[i]).py) (by simp [hpi])
        rw [hx'] at hu1; cases hu1
        have hmem := List.getElem_mem hpi
        have hsp := sizes_mem hmem
        refine y_expr (ev_call y22.ok.C.g_law_more y22.ok.C.k_law_more (pvs3 (pv_loc (up_skip mb)) (pv_loc up_hit) pv_int) y22 fun vs s23 e23 y23 => ?_)
        refine ex3 e23 fun _ _ v3 hKK => an4 hKK fun hE34 hE35 hE36 e3 => ?_; clear e23 hKK; subst hE34 hE35 hE36
        have y24 := Y.asc (a := (I, oI) :: wk1) (b := hk2) (c := bk) y23
        refine more_spec (P := Tp P) (P1 := Tp P) y24.ok.C y24.st hX0 (lvA hX1 hd) (lvC hX2 hu) (fun a o h => y24.z.old (hPg a o h.2 h.1)) hu2 (Nat.le_trans (hfdep _ hmem) (n_t hD (n_b rfl))) (Nat.le_trans hsp hfsz) (y24.own Bi.noT) Bi (fun l hl => ?_) e3 ?_
        · obtain ⟨T0, hT0, _⟩ := N.inv.can (List.mem_append_left _ (fl_at ht (List.mem_flatMap.mpr ⟨_, hmem, hl⟩)))
          obtain ⟨T2, hT2, _⟩ := Mine.H.links_get (lks (t.fields.take i)) 1 _ hT0
          exact ⟨T2, hT2⟩
        intro bk2 h' t' Γ2 kk tl B2
        have y25 := Y.uas (a := (I, oI) :: wk1) (b := hk2) (c := bk2) (y24.calls (t' := t') (y24.own Bi.noT) kk tl)
        rw [H.links_links, show lks (t.fields.take i) ++ (t.fields[i]).links = lks (t.fields.take (i + 1)) by rw [List.take_succ_eq_append_getElem hpi, lks_app]; simp [lks]] at B2
        exact y_nil ⟨_, _, _, y25, bk2, rfl, up_skip mh, up_skip mb, up_skip mn, up_skip mt, up_skip mtn, up_skip ma, B2⟩
      · intro m' news Γ s26 hJJ; refine ctr fun hG224 => ?_; obtain ⟨bk, rfl, mh, mb, mn, mt, mtn, ma, Bi⟩ := hJJ; refine hG224 ?_; clear hG224; intro y26
        rw [hfl, List.take_length] at Bi
        refine ctr fun hG225 => ?_; obtain ⟨T1, hT1, hst1, _, _, hf1⟩ := Mine.H.links_get (lks t.fields) 1 _ ht; refine hG225 ?_; clear hG225
        refine ctr fun hG226 => ?_; obtain ⟨kdi, svi, wvi, uvi, stvi, ni, ci, flsi, fi, thi⟩ := Bi.th hT1 htp; refine hG226 ?_; clear hG226
        have hk7 := thi.k7
        rw [hf1] at hk7
        have hfli : flsi.length = t.fields.length := by simpa using hk7.length
        have hll2 : (H.links (lks t.fields) 1).ts.length = H.ts.length := H.links_len _ _
        refine y_asgTup (ev_tup2E (ev_listS fun pos => spliced_more (ev_pv pv_str y26 fun x1 s27 e27 y27 =>
          spliced_more (ev_listL (pv_litem (its := [kdi, .ref tp.f, svi, wvi, uvi, stvi]) (n := ni) (vp := fun _ => True) (pv_loc mt) pv_int (iD thi.at_.mem) rfl (by decide) (by decide)) (fun s' y' => y'.z.isList (iD thi.t3)) y27 (n_e hfli (n_t hfll (n_b rfl))) fun l2 lc s28 y28 =>
          spliced_more (ev_pv pv_int y28 fun x3 s29 e29 y29 => spliced_more (ev_pv pv_int y29 fun x4 s30 e30 y30 => spliced_more (ev_pv pv_int y30 fun x5 s31 e31 y31 => spliced_more (ev_pv pv_str y31 fun x6 s32 e32 y32 =>
          spliced_none ⟨_, _, _, y32, Nat.le_of_ble_eq_true rfl, fun la s33 y33 => ev_pv pv_str y33 fun nmv s34 e34 y34 => ⟨_, _, _, y34, fun tq s35 y35 => as_tup2 y35 (TT.mk (.inr (.head _)) rfl rfl) fun s36 y36 => ?_⟩⟩) rfl) rfl) rfl) rfl) rfl) rfl))
        have y37 : Y X m' ((la, listOf #[x1, .ref l2, x3, x4, x5, x6] 0) :: (l2, listOf flsi.toArray lc) :: ((wk1 ++ hk2) ++ bk)) _ s36 := y36.perm (by rw [List.append_assoc])
        clear y17 y18 y19 y20 y26
        refine book_growK (kd := .buffer) (nm := Str.ofString "") (us := t.fields) y37 Bi (fun news' h => pv_loc mb) (fun news' h => pv_loc mb) mtn (by rw [hll2]; exact ⟨_, rfl⟩) e27 e29 e30 e31 e32 hk7 e34 (n_e hll2 (n_t htN (n_t hn (n_b rfl)))) fun s38 bk2 B2 y38 => ?_
        clear y37
        refine ex7 B2.hd fun ob2 ot2 on2 hls2 ql2 cc2 c22 bh2 => ?_
        have iE : ∀ {q : Addr × Obj} {bk : List (Addr × Obj)}, q ∈ bk → q ∈ (wk1 ++ hk2) ++ bk := fun h => List.mem_append_right _ h
        refine y_asgsub (ev_tup (pvs2 pv_str (pv_loc mtn)) y38 (by decide) (fun vs e => by obtain ⟨_, _, rfl, _⟩ := e; rfl) fun vs nt s39 e39 y39 => ?_)
        refine ctr fun hG228 => ?_; obtain ⟨_, _, rfl, ⟨u39, rfl⟩, rfl⟩ := e39; refine hG228 ?_; clear hG228
        refine ev_pvq (pv_dstr (pv_loc mb) (iE bh2.m1) bh2.hob) y39 fun s40 y40 => ev_pvq (pv_loc ma) y40 fun s41 y41 => ?_
        have hvn : VR (Or (Tp P) ((nt, tupO [Value.str (Str.ofString "buf") u39, .int ((H.ts.length : Int) + 1) tr]) :: (tq, tupO [.ref la, nmv]) :: Γ)) (.ref nt) (V.hold .buf H.ts.length).py := VR.tup (.head _) (.cons (.str _ _) (.cons (.int _ _) .nil))
        refine ctr fun hG229 => ?_; obtain ⟨hl2, c5, f5, ah, hh2, hset⟩ := (B2.mono (P' := Or (Tp P) ((nt, tupO [Value.str (Str.ofString "buf") u39, .int ((H.ts.length : Int) + 1) tr]) :: (tq, tupO [.ref la, nmv]) :: Γ)) fun _ _ _ h => .inl h).held; refine hG229 ?_; clear hG229
        have hl2l : hl2.length = held.length := by simpa using hh2.length
        refine c_lset y41 (.app ah) (Int.natCast_nonneg _) (by rw [List.size_toArray]; lia) (n_c (n_s hklt (n_t hnl (n_t hn (Nat.le_refl _)))) rfl) fun s42 c42 y42 => ?_
        rw [show hl2.toArray.setIfInBounds ((k : Int).toNat) (.ref nt) = (hl2.set k (.ref nt)).toArray by simp] at y42
        have B3 := hset (hl2.set k (.ref nt)) (held.set k (.hold .buf H.ts.length)) c42 (by rw [List.map_set]; exact hh2.set hvn k)
        generalize hbk3 : f5 (listOf (hl2.set k (.ref nt)).toArray c42) = bk3 at y42 B3
        clear hbk3 hset ah hh2 y39 y40 y41 bh2 y38
        refine y_expr (ev_callS y42.ok.C.g_law_gone y42.ok.C.k_law_gone y42 fun s43 y43 => spliced_more (ev_pvq (pv_loc mb) y43 fun s44 y44 => spliced_more (ev_tup (pvs2 pv_str (pv_loc mn)) y44 (by decide) (fun vs e => by obtain ⟨_, _, rfl, _⟩ := e; rfl) fun vs gt s45 e45 y45 => spliced_none ⟨z_kin y45.z y45.ok.C, ?_⟩) rfl) rfl)
        refine ctr fun hG230 => ?_; obtain ⟨_, _, rfl, ⟨u45, rfl⟩, rfl⟩ := e45; refine hG230 ?_; clear hG230
        have B4 := B3.up1 (q := (gt, tupO [Value.str (Str.ofString "buf") u45, .int ((kn : Int) + 1) zo]))
        refine gone_specK 61 (v := .hold .buf kn) (P1 := Or (Tp P) ((gt, tupO [Value.str (Str.ofString "buf") u45, .int ((kn : Int) + 1) zo]) :: (nt, tupO [Value.str (Str.ofString "buf") u39, .int ((H.ts.length : Int) + 1) tr]) :: (tq, tupO [.ref la, nmv]) :: Γ)) y45.ok.C y45.st hX0 (by show A'.depth + _ < 780; exact n_lt (n_t (n_a (n_e hX1 (n_t (n_a (n_s hd (Nat.le_refl _)) (Nat.le_refl _)) (Nat.le_refl _))) (Nat.le_refl _)) (Nat.le_refl _)) (n_bl rfl)) (by show A'.units + _ < 6900; exact n_lt (n_t (n_a (n_e hX2 (n_t (n_a (n_s hu (Nat.le_refl _)) (Nat.le_refl _)) (Nat.le_refl _))) (Nat.le_refl _)) (Nat.le_refl _)) (n_bl rfl)) (y45.rd hPg) (y45.rd hPg) (VR.tup (.head _) (.cons (.str _ _) (.cons (.int _ _) .nil))) (show 1 ≤ 60 from by decide) (show 1 ≤ 2 ^ 22 from by decide) (y45.own B4.noT) B4 hg ?_
        intro pb3 bk4 h'' t'' Γ3 kk3 tl3 B5 hpa
        have y46 := y45.calls (t' := t'') (y45.own B4.noT) kk3 tl3
        clear kk3 tl3
        have B6 := B5.upA (Γ' := Γ3)
        obtain ⟨tpn, htpn⟩ := R2.place hnew
        refine ex4 R2.hd fun es2 n2 od2 lv2 hd2 => ?_
        refine ex2 (R2.flds hnew htpn) fun fl2 cf2 hJJ => an2 hJJ fun hfm hfv => ?_; clear hJJ
        obtain ⟨tp3, htp3⟩ := B6.place ht3
        refine ctr fun hG232 => ?_; obtain ⟨kd3, sv3, wv3, uv3, stv3, n3, c3, fls3, f3, th3⟩ := B6.th ht3 htp3; refine hG232 ?_; clear hG232
        have hk73 := th3.k7
        rw [hf3] at hk73
        have hta : tp3.a = tp.a := by
          have e1 : (pb3.tps.map BTP.a)[kn]? = some tp3.a := by rw [List.getElem?_map, htp3]; rfl
          have hlt2 : kn < pb.tps.length := (List.getElem?_eq_some_iff.mp htp).1
          rw [hpa, List.getElem?_map, List.getElem?_append_left hlt2, htp] at e1
          exact (Option.some.inj e1).symm
        have y47 := Y.uas (a := wk1) (b := hk2) (c := bk4) y46
        have iG : ∀ {q : Addr × Obj}, q ∈ hk2 → q ∈ wk1 ++ (hk2 ++ bk4) := fun h => List.mem_append_right _ (List.mem_append_left _ h)
        refine y_reteff (ev_cmpE (ev_meth (pv_loc mh) (iG hd2.m1) (iG hd2.m2) hd2.er y47.ok.C.m_elements y47.ok.C.n_elements y47.ok.C.km_elements (pvs1 (pv_loc mtn)) y47 fun vs s48 e48 y48 => ?_))
        obtain rfl := Va1.eq e48
        have y49 := Y.mid (a := wk1) (b := hk2) (c := bk4) y48
        refine elements_spec (P := Tp P) y49.ok.C y49.st hX0 (lvA hX1 hd) (lvC hX2 hu) (y49.own R2.noT) R2 hnew htpn ⟨_, rfl⟩ Sta.noConfusion fun h' t' kk => ?_
        have y50 := Y.unmid (a := wk1) (b := hk2) (c := bk4) (y49.callK (t' := t') R2.noT kk)
        refine ev_pvq (pv_litem (its := [kd3, .ref tp3.f, sv3, wv3, uv3, stv3]) (n := n3) (vp := fun _ => True) (pv_loc mt) pv_int (iD (hta ▸ th3.at_.mem)) rfl (by decide) (by decide)) y50 fun s51 y51 => ?_
        obtain ⟨as, q1⟩ := reads_list (P := Tp P) (fun a o h => y51.z.old (hPg a o h.2 h.1)) (y51.z.get (iG hfm)) (show VRs (Tp P) fl2 (t.fields.map V.py) from hfv)
        obtain ⟨bs, q2⟩ := reads_list (y51.rd hPg) (y51.z.get (iD th3.t3)) hk73
        have lay2 := vals_lay t.fields 50 (fun u hu => Nat.le_trans (hfdep u hu) hD)
        have sh2 := lay_list lay2.1 (n_t lay2.2 (n_b rfl))
        refine eq_dataH q1 q2 sh2 sh2 y51.ok.hu ?_
        rw [eqv_refl0 _ (by rw [canLay_list]; exact lay2.1), y51.e]
        have B7 := B6.mono (P' := Or P (Γ3 ++ ((gt, tupO [Value.str (Str.ofString "buf") u45, .int ((kn : Int) + 1) zo]) :: (nt, tupO [Value.str (Str.ofString "buf") u39, .int ((H.ts.length : Int) + 1) tr]) :: (tq, tupO [.ref la, nmv]) :: Γ))) fun _ _ _ h => h.imp (fun h => h.1) id
        exact hQ _ _ H3 _ wk1 hk2 bk4 _ _ _ (y51.kept h0 hin (List.Sublist.refl _) (three_noT W1 R2.pt B7)) (y51.z.tupL hL) W1 R2.pt B7 N3
end
end Mine
end
section
open PySem PySem.W PySem.Calls PyProof.Rows PySem.Spec
set_option Elab.async false
set_option maxRecDepth 100000
set_option maxHeartbeats 4000000
set_option rowWalk.seconds 0
set_option linter.unusedVariables false
namespace Mine
noncomputable abbrev trapMro : List Value := [.ref 31, .type "Exception", .type "BaseException", .type "object"]
/-- what the class Trap is -/
structure KTrap (K : Frag) : Prop where
  cls : ∃ nm q N bs hdct sn sub ab col dd k0 k1 k2 k3 k5, K.lookup 56 = some (excClassObj nm q 56 N bs trapMro hdct sn sub ab col dd k0 k1 k2 k3 k5 "Exception.__new__")
  ini : findIn K (.ref 56) "__init__" = some (some (.ref 28)) ∧ typeIn K (.ref 28) = some (.type "function")
  set : findIn K (.ref 56) "__setattr__" = some (some (.builtin "object.__setattr__"))
  dct : hasDictIn K 56 = true
  word : findIn K (.ref 56) "word" = some none
  ga : findIn K (.ref 56) "__getattribute__" = some (some (.builtin "BaseException.__getattribute__"))
  gh : findIn K (.ref 56) "__getattr__" = some none
  keep : keepIn K (.ref 56) = true
  f28 : FnAt K 28 "SwiftFault.__init__" (inCls 1 0)
  exI : findCls K (.type "Exception") (.type "type") "__init__" = some (.val (.builtin "Exception.__init__"))
section
variable {prog : Program} {w : World} {A : Around} {R : Result → Shared → Prop} {h : Heap} {g : Array GenState} {d : Drawn} {t : Nat} {os : OsState}
variable {nm q : Str} {N : Addr} {bs : List Value} {hdct : Bool} {sn : List Str} {sub : List Value} {ab : Bool} {col : Option Bool} {dd : Option Addr} {k0 k1 k2 k3 k5 : Option Value}
open PySem.F in
theorem trap_new {rest : List Value} (hC : h.get? 56 = some (excClassObj nm q 56 N bs trapMro hdct sn sub ab col dd k0 k1 k2 k3 k5 "Exception.__new__"))
    (hq : R (.ok (.ret (.ref (h.objs.size + 1)))) ⟨(h.push { cls := .type "tuple", data := .seq rest.toArray }).push
      { cls := .ref 56, data := .fields #[.ref h.objs.size, .none, .none, .none, .bool false, .none] }, g, d, t, os⟩) (hrest : rest.length ≤ sizeLine) :
    codeAny (model prog w) A (.builtin "Exception.__new__" ⟨.ref 56 :: rest, []⟩) R ⟨h, g, d, t, os⟩ := by
  have F := excBase_Exception
  have hends := F.ends
  have hcB : (Value.ref 56 :: trapMro).contains (.type "Exception") = true := by decide
  have hcA : (Value.ref 56 :: trapMro).contains (.type "AttributeError") = false := by decide
  have hcN : (Value.ref 56 :: trapMro).contains (.type "NameError") = false := by decide
  refine codeAny_builtinAt F.entry ?_
  unfold Builtin.«BaseException.__new__»
  refine PySem.wpAt_bind ?_
  show PySem.wpAt _ _ _ (stack >>= _) _ _ _
  refine PySem.wpAt_bind (PySem.wpAt_stack fun p below => PySem.wpAt_of_wpAny ?_)
  wp_walk
  refine PySem.wpAt_of_wpAny ?_
  rw [F.owner]
  repeat (first | with_reducible refine wpAny_madeHere_exc F.canon hC ?_ | with_reducible refine wpAny_loadPart_at hC ?_ | (with_reducible refine wpAny_isSubtype_exc hC ?_; first | rw [hcB] | rw [hcA] | rw [hcN]) | wp_step)
  show R _ _
  rw [Heap.size_push]
  exact hq
end
section
variable {prog : Program} {w : World} {A : Around} {E : Value → Shared → Prop} {s : Shared} {K : Frag}
open PySem.F in
theorem trap_type_call {rest : List Value} {Q : PySem.Fin → Shared → Prop} (X : K.In s.heap) (T : KTrap K)
    (hq : ∀ h' e, Heap.MadeExcOf s.heap h' e (.ref 56) rest → wpAny (model prog w) A (call (.ref 28) (.ref e :: rest)) (fun r s' => r = .none ∧ Q (.done (.ret (.ref e))) s') E { s with heap := h' }) (hrest : rest.length ≤ sizeLine) :
    wpAny (model prog w) A (Builtin.«type.__call__» ⟨.ref 56 :: rest, []⟩) Q E s := by
  refine ctr fun hG196 => ?_; obtain ⟨nm, q, N, bs, hdct, sn, sub, ab, col, dd, k0, k1, k2, k3, k5, hK⟩ := T.cls; refine hG196 ?_; clear hG196
  have hC := X _ _ hK
  refine ctr fun hG197 => ?_; obtain ⟨h, g, d, t, os⟩ := s; refine hG197 ?_; clear hG197
  dsimp only at hC X hq
  have F := excBase_Exception
  repeat (first | with_reducible refine wpAny_loadPart_at hC ?_ | with_reducible refine wpAny_madeBy_exc hC ?_ | wp_step)
  have hcont : (Value.ref 56 :: trapMro).contains (.type "Exception") = true := by decide
  have hchk : ∀ {A' : Around} {Q' : Unit → Shared → Prop} {E'}, Q' () ⟨h, g, d, t, os⟩ → wpAny (model prog w) A' (checkBuiltinCall "Exception.__new__" ⟨.ref 56 :: rest, []⟩) Q' E' ⟨h, g, d, t, os⟩ := fun hq => by
    have hstar := F.noStar
    simp only [checkBuiltinCall, F.newKind, F.newSplit, F.newRow]
    repeat (first | refine wpAny_loadPart_at hC ?_ | (refine wpAny_isSubtype_exc hC ?_; rw [hcont]) | refine wpAny_staticBase_exc hC ?_ | refine wpAny_madeBy_exc hC ?_ | simp only [bne_self_eq_false, Bool.false_eq_true, if_false] | wp_step)
    exact hq
  refine codeAny_call_builtin_code (Code.quiet_builtin _ F.quiet) (hchk ?_)
  refine trap_new hC ?_ hrest
  show wpAny _ _ _ _ _ _
  have kp : ∀ b o, h.get? b = some o → ((h.push { cls := .type "tuple", data := .seq rest.toArray }).push { cls := .ref 56, data := .fields #[.ref h.objs.size, .none, .none, .none, .bool false, .none] }).get? b = some o :=
    fun b o e => Heap.get?_push_of_some _ (Heap.get?_push_of_some _ e)
  have hC₁ := kp _ _ hC
  have X₁ : K.In ((h.push { cls := .type "tuple", data := .seq rest.toArray }).push { cls := .ref 56, data := .fields #[.ref h.objs.size, .none, .none, .none, .bool false, .none] }) := X.keeps kp
  have hget : ((h.push { cls := .type "tuple", data := .seq rest.toArray }).push
      { cls := .ref 56, data := .fields #[.ref h.objs.size, .none, .none, .none, .bool false, .none] }).get? (h.objs.size + 1) = some
      { cls := .ref 56, data := .fields #[.ref h.objs.size, .none, .none, .none, .bool false, .none] } := by heap_get
  have hcC : (Value.ref 56 :: trapMro).contains (.ref 56) = true := by decide
  unfold isInstance
  repeat (first | with_reducible refine wpAny_loadPart_at hget ?_ | (with_reducible refine wpAny_isSubtype_exc hC₁ ?_; rw [hcC]) | wp_step)
  show wpAny _ _ (typeLookup (.ref 56) _) _ _ _
  refine (looks_findIn X₁ T.ini.1).here ?_
  refine wpAny_holding (wpAny_bind ?_)
  refine (bind_fn X₁ _ T.ini.2).here ?_
  refine wpAny_bind (wpAny_mono (hq _ (h.objs.size + 1) ⟨kp, Heap.get?_none_of_le (Nat.le_succ _), h.objs.size, hget, Heap.get?_none_of_le (Nat.le_refl _), ?_⟩) (fun r s' hr => ?_) fun _ _ x => x)
  · exact Heap.get?_push_of_some _ (Heap.get?_push_at rfl rfl)
  · obtain ⟨rfl, hQ⟩ := hr
    wp_walk
    exact hQ
theorem trap_call {rest : List Value} {Q : Value → Shared → Prop} (X : K.In s.heap) (T : KTrap K)
    (hq : ∀ h' e, Heap.MadeExcOf s.heap h' e (.ref 56) rest → wpAny (model prog w) (A.under (.builtin "type.__call__" ⟨.ref 56 :: rest, []⟩)) (call (.ref 28) (.ref e :: rest)) (fun r s' => r = .none ∧ Q (.ref e) s') E { s with heap := h' }) (hrest : rest.length ≤ sizeLine) :
    wpAny (model prog w) A (call (.ref 56) rest) Q E s := by
  refine ctr fun hG198 => ?_; obtain ⟨nm, q, N, bs, hdct, sn, sub, ab, col, dd, k0, k1, k2, k3, k5, hK⟩ := T.cls; refine hG198 ?_; clear hG198
  have hC := X _ _ hK
  refine ctr fun hG199 => ?_; obtain ⟨h, g, d, t, os⟩ := s; refine hG199 ?_; clear hG199
  have f1 := tc_lookup
  have f2 := tc_bind (.ref 56)
  have hT : (⟨h, g, d, t, os⟩ : Shared).TypeIs (.ref 56) "type" := ⟨_, hC, rfl⟩
  refine wpAny_call (codeAny_of_tree ?_)
  show wpAny _ _ (callAny (.ref 56) _) _ _ _
  repeat (any_goals (first | assumption | with_reducible refine wpAny_loadPart_at hC ?_ | wp_step))
  refine ⟨rfl, ?_⟩
  refine codeAny_call_builtin_at (Code.quiet_builtin _ (by decide +kernel)) entry_typeCall (wpAny_check_type_call_sub hC (trap_type_call X T (fun h' e hm => ?_) hrest))
  exact hq h' e hm
end
end Mine
end
section
open PySem PySem.W PySem.Calls PyProof.Rows PySem.Spec
set_option Elab.async false
set_option maxRecDepth 100000
set_option maxHeartbeats 4000000
set_option rowWalk.seconds 0
set_option linter.unusedVariables false
namespace Mine
noncomputable abbrev excO (t : Addr) (d : Option Addr) : Obj := { cls := .ref 56, dict := d, data := .fields #[.ref t, .none, .none, .none, .bool false, .none] }
theorem notT_exc {t : Addr} {d : Option Addr} : ¬ IsT (excO t d) := fun h => by have := h.1; simp at this
/-- a dict whose one entry is the word -/
noncomputable def WordD (od : Obj) (v : Value) : Prop := ∃ es ep, od.data = .dict es ep ∧ StrKeys es ∧ ∀ n, nsFind es n = if n = Str.ofString "word" then some v else none
theorem WordD.notT {od : Obj} {v : Value} (h : WordD od v) : ¬ IsT od := fun q => by
  obtain ⟨es, ep, e, _⟩ := h
  obtain ⟨_, vs, n, q⟩ := q
  rw [e] at q; cases q
theorem WordD.ns {od : Obj} {v : Value} (h : WordD od v) {hp : Heap} {d : Addr} (e : hp.get? d = some od) : hp.Ns d (fun n => if n = Str.ofString "word" then some v else none) := by
  refine ctr fun hG274 => ?_; obtain ⟨es, ep, e1, e2, e3⟩ := h; refine hG274 ?_; clear hG274
  exact ⟨od, es, ep, e, e1, e2, e3⟩
theorem trap_cls {K : Frag} (T : KTrap K) : ∃ cd, clsIn K 56 = some cd ∧ cd.mro = .ref 56 :: trapMro ∧ cd.hasDel = false := by
  refine ctr fun hG275 => ?_; obtain ⟨nm, q, N, bs, hdct, sn, sub, ab, col, dd, k0, k1, k2, k3, k5, hK⟩ := T.cls; refine hG275 ?_; clear hG275
  exact ⟨_, by unfold clsIn; rw [hK], rfl, rfl⟩
section
variable {X : Fn} {m : Str → Option Value} {news Γ : List (Addr × Obj)} {E : Value → Shared → Prop} {s : Shared} {e t0 : Addr} {f : Obj → List (Addr × Obj)}
theorem trap_sub {K : Frag} {M : Model} {h : Heap} {x : Addr} {o : Obj} (X : K.In h) (T : KTrap K) (ho : h.get? x = some o) (hc : o.cls = .ref 56) (B : String) (hB : trapMro.contains (.type B) = true) : Looks M h (isInstance (.ref x) (.type B)) true := by
  obtain ⟨cd, h1, h2, _⟩ := trap_cls T
  have t1 : Looks M h (typeOf (.ref x)) (.ref 56) := hc ▸ (Looks.ld ho).andThen .now
  refine t1.andThen (looks_mroIn X ?_)
  unfold mroIn
  rw [h1, Option.bind_some, h2, if_neg (by simp), List.contains_cons, hB, Bool.or_true]
open PySem.F in
theorem excI_check {K : Frag} {M : Model} {A : Around} {E : Value → Shared → Prop} {s : Shared} {e : Addr} {oe : Obj} {v : Value} {Q : Unit → Shared → Prop} (X : K.In s.heap) (T : KTrap K) (he : s.heap.get? e = some oe) (hcls : oe.cls = .ref 56) (hq : Q () s) : wpAny M A (checkBuiltinCall "Exception.__init__" ⟨[.ref e, v], []⟩) Q E s := by
  have F := excBase_Exception
  refine ctr fun hG276 => ?_; obtain ⟨nm, q, N, bs, hdct, sn, sub, ab, col, dd, k0, k1, k2, k3, k5, hK⟩ := T.cls; refine hG276 ?_; clear hG276
  have hC := X _ _ hK
  refine ctr fun hG277 => ?_; obtain ⟨h, g, d, t, os⟩ := s; refine hG277 ?_; clear hG277
  dsimp only at hC he hq
  have hcB : (Value.ref 56 :: trapMro).contains (.type "Exception") = true := by decide
  have hshort := F.noStar
  simp only [checkBuiltinCall, F.initKind, F.initSplit, F.initRow]
  repeat (first | (with_reducible refine wpAny_loadPart_at he ?_; rw [hcls]) | with_reducible refine wpAny_loadPart_at hC ?_ | (with_reducible refine wpAny_isSubtype_exc hC ?_; rw [hcB]) | wp_step)
  exact hq
open PySem.F in
theorem c_excinit {v : Value} {Q : Value → Shared → Prop} (y : Y X m news Γ s) (T : KTrap X.K) (a : At e (excO t0 none) news f) (h : ∀ t1 s', Y X m (f (excO t1 none)) Γ s' → Q .none s') :
    wpAny (model X.prog X.w) X.A (call (.builtin "Exception.__init__") [.ref e, v]) Q E s := by
  have F := excBase_Exception
  have he := y.z.get a.mem
  have hX := z_kin y.z y.ok.C
  refine wpAny_call (codeAny_call_builtin F.init.plain F.initEntry (excI_check hX T he rfl ?_))
  unfold Builtin.«BaseException.__init__»
  dsimp only
  rw [if_neg (by simp)]
  unfold newTuple Builtin.BaseException.bexcPut
  have z1 := y.z.pushT { cls := .type "tuple", data := .seq #[v] } ⟨rfl, _, _, rfl⟩
  have he₁ := z1.get a.mem
  refine wpAny_bind (wpAny_newObj_type (wpAny_bind (wpAny_bind (wpAny_field he₁ rfl rfl (wpAny_bind (wpAny_setField he₁ rfl (by show 0 < 6; decide) ?_))))) (by size_fits))
  refine wpAny_letGo (wpAny_pure ?_)
  refine h s.heap.objs.size _ (y.to (t := s.toks) (Z.pushG_drop (z1.set a notT_exc (Heap.SameBut.update ..) ?_)))
  rw [Heap.get?_update_self _ he₁ rfl]
  rfl
theorem refuse_trap (self : Value) : refuseLoop self "__setattr__" (.ref 56 :: trapMro) = pure () := by
  rw [refuseLoop_ref, refuseLoop_ref]; exact PySem.F.store_Exception.passes self
theorem trap_osa {prog : Program} {w : World} {A : Around} {K : Frag} {R : Result → Shared → Prop} {s : Shared} {e : Addr} {ox : Obj} {od : Option Obj} {tk : Tok} {v : Value} (X : K.In s.heap) (T : KTrap K) (I : InstAt s.heap e ox 56 od)
    (h : wpAny (model prog w) A.in1 (Builtin.ObjectAttr.storeInOwnDict (.ref e) (.ref 56) (.str (Str.ofString "word") tk) (Str.ofString "word") v false)
      (fun fin s' => match fin with | .done f => R (.ok f) s' | .again c' => c'.quiet = true ∧ codeAny (model prog w) A c' R s') (fun e s' => R (.error e) s') s) :
    codeAny (model prog w) A (.call (.builtin "object.__setattr__") ⟨[.ref e, .str (Str.ofString "word") tk, v], []⟩) R s := by
  have SF := PySem.F.store_object
  obtain ⟨cd, hc, hm, hdel⟩ := trap_cls T
  have sub : Looks (model prog w) s.heap (isInstance (.ref e) (.type "object")) true := trap_sub X T I.at_ I.cls "object" (by decide)
  refine codeAny_call_builtin SF.slot.plain SF.entry (@check_slot (model prog w) _ _ s "object.__setattr__" "object" "__setattr__" (.ref e) [.str (Str.ofString "word") tk, v] [] _ SF.kind SF.split sub (SF.args (.ref e) (.str (Str.ofString "word") tk) v) ?_)
  have hmro : Looks (model prog w) s.heap (mroOf (.ref 56)) cd.mro := (looks_clsIn X hc).andThen .now
  have L3 : Looks (model prog w) s.heap (Builtin.ObjectAttr.storeTaker? none) none := .now
  rw [osa_eq, refuse_eq]
  refine wpAny_bind (wpAny_bind (I.type.here (wpAny_bind (hmro.here ?_))))
  rw [hm, refuse_trap]
  exact wpAny_pure (wpAny_bind (I.type.here (wpAny_bind ((looks_findIn X T.word).here (wpAny_bind (L3.here h))))))
theorem trap_store {M : Model} {A : Around} {K : Frag} {E : Value → Shared → Prop} {s : Shared} {e t0 : Addr} {tk : Tok} {v : Value} {Q : PySem.Fin → Shared → Prop} (X : K.In s.heap) (T : KTrap K) (he : s.heap.get? e = some (excO t0 none))
    (h : ∀ od h' t', WordD od v → h'.get? s.heap.objs.size = some od → h'.get? e = some (excO t0 (some s.heap.objs.size)) → (∀ b o, b ≠ e → s.heap.get? b = some o → h'.get? b = some o) → Q (.done (.ret .none)) { s with heap := h', toks := t' }) :
    wpAny M A (Builtin.ObjectAttr.storeInOwnDict (.ref e) (.ref 56) (.str (Str.ofString "word") tk) (Str.ofString "word") v false) Q E s := by
  obtain ⟨cd, hc, hd'⟩ := any_some T.dct
  refine wpAny_bind (wpAny_pure (wpAny_bind (wpAny_bind (wpAny_loadPart he (wpAny_bind ((looks_clsIn X hc).here ?_))))))
  rw [hd']
  have hxs : e ≠ s.heap.objs.size := Nat.ne_of_lt (Heap.lt_size he)
  have hx₁ : (s.heap.push { cls := .type "dict", data := .dict #[] }).get? e = some (excO t0 none) := Heap.get?_push_of_some _ he
  show wpAny _ _ (alloc { cls := .type "dict", data := .dict #[] } >>= _) _ _ _
  refine wpAny_bind (wpAny_alloc ?_)
  refine wpAny_bind (wpAny_update hx₁ ?_)
  refine wpAny_pure ?_
  have hgd : ((s.heap.push { cls := .type "dict", data := .dict #[] }).update e fun o => { cls := o.cls, dict := some s.heap.objs.size, data := o.data, slots := o.slots }).get? s.heap.objs.size
      = some { cls := .type "dict", data := .dict #[] } := (Heap.get?_update_other _ _ hxs).trans (Heap.get?_push_size _ rfl)
  have hnd : ((s.heap.push { cls := .type "dict", data := .dict #[] }).update e fun o => { cls := o.cls, dict := some s.heap.objs.size, data := o.data, slots := o.slots }).Ns s.heap.objs.size (fun _ => none) :=
    ⟨_, #[], _, hgd, rfl, fun e he => absurd he (by simp), fun _ => rfl⟩
  show wpAny _ _ (Builtin.ObjectAttr.storeInDict s.heap.objs.size (.str (Str.ofString "word") tk) (Str.ofString "word") v) _ _ _
  unfold Builtin.ObjectAttr.storeInDict Builtin.ObjectAttr.newKeyGuard
  refine wpAny_bind (wpAny_pure (wpAny_bind (wpAny_nsSet1 (Heap.Ns1.of_empty hnd) fun h' hn' hs => ?_)))
  refine ctr fun hG278 => ?_; obtain ⟨oD, esD, epD, hoD, hdD, hcD⟩ := hn'.count (Within.cons _ v Within.nil); refine hG278 ?_; clear hG278
  refine wpAny_bind (wpAny_lookBehind hoD (by rw [hdD]; exact pastItsLine_dict (Nat.le_trans hcD (by rw [List.length_cons, List.length_nil, sizeLine_eq]; exact n_a (n_b rfl) (Nat.le_refl _)))) ?_)
  refine wpAny_pure ?_
  refine ctr fun hG279 => ?_; obtain ⟨od, es, ep, e1, e2, e3, eu, e4⟩ := hn'; refine hG279 ?_; clear hG279
  refine h od h' _ ⟨es, ep, e2, e3, e4⟩ e1 ((hs.2 e hxs).trans ((Heap.get?_update_self _ hx₁ rfl).trans rfl)) fun b o hb hob => ?_
  exact (hs.2 b (Nat.ne_of_lt (Heap.lt_size hob))).trans ((Heap.get?_update_other _ _ (Ne.symm hb)).trans (Heap.get?_push_of_some _ hob))
theorem Z.alterA {g h h' : Heap} {L d : Addr} {o o' od : Obj} {m : Str → Option Value} {news Γ : List (Addr × Obj)} {f : Obj → List (Addr × Obj)} (z : Z g L h m news Γ) (a : At d o news f) (hn : ¬ IsT o) (e : h'.get? d = some o') (hx : ∀ b ob, b ≠ d → h.get? b = some ob → h'.get? b = some ob) (en : h'.get? h.objs.size = some od) : Z g L h' m ((h.objs.size, od) :: f o') Γ := by
  refine ex2 (z.mid a hn) fun pre post hJJ => an4 hJJ fun e1 e2 h3 h4 => ?_; clear hJJ
  have hd := z.N (d, o) (List.mem_append_left _ a.mem)
  have hL := z.F.ns.lt
  have hg : g.get? h.objs.size = none := by
    cases e : g.get? h.objs.size with
    | none => rfl
    | some ob => exact absurd (Heap.lt_size (z.F.keep _ _ e)) (Nat.lt_irrefl _)
  have new : ∀ p ∈ f o' ++ Γ, h'.get? p.1 = some p.2 ∧ p.1 ≠ L ∧ g.get? p.1 = none := fun p hp => by
    rw [e2] at hp
    have old : ∀ q ∈ news ++ Γ, q.1 ≠ d → h'.get? q.1 = some q.2 ∧ q.1 ≠ L ∧ g.get? q.1 = none := fun q hq hne => ⟨hx _ _ hne (z.N q hq).1, (z.N q hq).2⟩
    rcases List.mem_append.mp hp with hp | hp
    · exact old p (by rw [e1]; exact List.mem_append_left _ hp) (h3 p hp)
    · rcases List.mem_cons.mp hp with rfl | hp
      · exact ⟨e, hd.2⟩
      · exact old p (by rw [e1]; exact List.mem_append_right _ (.tail _ hp)) (h4 p hp)
  refine ⟨⟨?_, fun b ob eb => hx b ob (fun q => by subst q; rw [hd.2.2] at eb; cases eb) (z.F.keep b ob eb), z.F.above⟩, fun p hp => ?_, ?_, z.T⟩
  · refine ctr fun hG281 => ?_; obtain ⟨oL, es, ep, hL, r⟩ := id z.F.ns; refine hG281 ?_; clear hG281
    exact ⟨oL, es, ep, hx _ _ (Ne.symm hd.2.1) hL, r⟩
  · rcases List.mem_cons.mp hp with rfl | hp
    · exact ⟨en, Nat.ne_of_gt hL, hg⟩
    · exact new p hp
  · rw [List.map_cons, List.nodup_cons, a.keys]
    refine ⟨fun q => ?_, z.nd⟩
    obtain ⟨p, hp, e⟩ := List.mem_map.mp q
    exact absurd (z.lt (List.mem_append_left _ hp)) (by rw [e]; exact Nat.lt_irrefl _)
theorem c_setword {v : Value} {Q : Unit → Shared → Prop} (y : Y X m news Γ s) (T : KTrap X.K) (a : At e (excO t0 none) news f) (h : ∀ dx od s', WordD od v → Y X m ((dx, od) :: f (excO t0 (some dx))) Γ s' → Q () s') :
    wpAny (model X.prog X.w) X.A (setAttr (.ref e) (Str.ofString "word") v) Q E s := by
  have he := y.z.get a.mem
  have hX := z_kin y.z y.ok.C
  have I : InstAt s.heap e (excO t0 none) 56 none := ⟨he, rfl, rfl, trivial⟩
  exact set_plain hX I T.set (trap_osa (s := { s with toks := s.toks + 1 }) hX T I (trap_store (s := { s with toks := s.toks + 1 }) hX T he fun od h' t' w1 w2 w3 w4 => h _ od _ w1 (y.to (y.z.alterA a notT_exc w3 w4 w2))))
end
end Mine
end
section
open PySem PySem.W PySem.Calls PyProof.Rows PySem.Spec
set_option Elab.async false
set_option maxRecDepth 100000
set_option maxHeartbeats 4000000
set_option rowWalk.seconds 0
set_option linter.unusedVariables false
namespace Mine
section
variable {prog : Program} {w : World} {K : Frag} {A : Around} {E : Value → Shared → Prop} {s : Shared} {h₀ : Heap} {Q : Value → Shared → Prop} {X : Fn} {m : Str → Option Value} {news Γ : List (Addr × Obj)}
theorem exc_ty : typeOf (.type "Exception") = pure (.type "type") := by kernel_rfl
theorem exc_stub : Manifest.isStub "Exception" = false := by decide +kernel
theorem ev_excinit {a b : Expr} {p0 p1 p2 : Pos} {va vb : Value → Prop} {Q : Value → Shared → Prop} {pl : Sem Bool} (y : Y X m news Γ s) (T : KTrap X.K) (h1 : PV X m news Γ a va) (h2 : PV X m news Γ b vb)
    (h : ∀ x z s', va x → vb z → Y X m news Γ s' → wpAny (model X.prog X.w) X.A (call (.builtin "Exception.__init__") [x, z]) Q E s')
    (h0 : X.env.kindOf "Exception" = some .globalImplicit := by rfl) (hn1 : starEach [a, b] X.env = (false, eval a X.env) :: starEach [b] X.env := by rfl) (hn2 : starEach [b] X.env = (false, eval b X.env) :: starEach [] X.env := by rfl) (hplain : (backTo p2 (starEach [b] X.env)).any (·.1) = false := by rfl)
    (hm : eval (.Call (.Attribute (.Name (Str.ofString "Exception") p0) (Str.ofString "__init__") p1) [a, b] [] p2) X.env = (do
      let ov ← eval (.Name (Str.ofString "Exception") p0) X.env
      standAt p1.atName
      let (f, first) ← holding [ov] (getMethod ov (Str.ofString "__init__") pl)
      callWith p2 f first (backTo p2 (starEach [a, b] X.env)) (backToKw p2 (keywordEach [] X.env))) := by rfl) :
    wpAny (model X.prog X.w) X.A (eval (.Call (.Attribute (.Name (Str.ofString "Exception") p0) (Str.ofString "__init__") p1) [a, b] [] p2) X.env) Q E s := by
  refine methodCall_KW (wpAny_mono (pv_boot y.ok.C.b_Exception (by boot_fast) (by decide) h0 (by decide) _ s y) (fun f s1 q => ?_) fun _ _ x => x) hm
  obtain ⟨rfl, y1⟩ := q
  refine method_type y1.z.F y1.ok.C.X exc_ty exc_stub T.exI rfl ?_
  refine PyProof.Rows.callWith_builtin1 (wpAny_mono (pvs2 h1 h2 hn1 hn2 _ _ _ (y1.tk _)) (fun vs s2 q => ?_) fun _ _ x => x) hn1 hplain
  refine ctr fun hG355 => ?_; obtain ⟨⟨x, z, rfl, q1, q2⟩, y2⟩ := q; refine hG355 ?_; clear hG355
  exact h x z s2 q1 q2 y2
theorem trap_init {e t0 : Addr} {v : Value} (C : Cx K h₀) (T : KTrap K) (hk : h₀.StaysIn s.heap) (hh : A.handled = none) (hd : A.depth < 950) (hu : A.units < 9000) (O : Own h₀ s.heap [(e, excO t0 none)])
    (hQ : ∀ t1 dx od h' t', Kept h₀ [(e, excO t0 none)] s.heap h' [(dx, od), (e, excO t1 (some dx))] → WordD od v → Q .none { s with heap := h', toks := t' }) : wpAny (model prog w) A (call (.ref 28) [.ref e, v]) Q E s := by
  refine enterY (binds := [(Str.ofString "self", .ref e), (Str.ofString "word", v)]) C hk hh (Nat.lt_trans hu (by decide)) O T.f28 rfl (Nat.lt_trans hd (by decide)) (fun _ _ _ => BindsTo.of_eq rfl) (locs rfl) rfl rfl rfl (by decide) ?_
  intro g L h₁ tk cdv A' X m0 hX0 hX1 hX2 y h0 hL hin
  refine y_expr (ev_excinit y T (pv_loc rfl) (pv_loc rfl) fun x z s1 e1 e2 y1 => ?_)
  rw [e1, e2]
  refine c_excinit y1 T .head fun t1 s2 y2 => ?_
  refine y_asgattr (ev_pv (pv_loc rfl) y2 fun _ s3 e3 y3 => ev_pv (pv_loc rfl) y3 fun _ s4 e4 y4 => ?_)
  rw [e3, e4]
  refine c_setword y4 T .head fun dx od s5 w5 y5 => y_nil ?_
  rw [y5.e]
  refine hQ t1 dx od _ _ (y5.kept h0 hin (List.Sublist.refl _) fun q hq => ?_) w5
  rcases List.mem_cons.mp hq with rfl | hq
  · exact w5.notT
  · rw [List.mem_singleton.mp hq]; exact notT_exc
end
end Mine
end
section
open PySem PySem.W PySem.Calls PyProof.Rows PySem.Spec
set_option Elab.async false
set_option maxRecDepth 100000
set_option maxHeartbeats 4000000
set_option rowWalk.seconds 0
set_option linter.unusedVariables false
namespace Mine
/-- the record e of the exception, its dict dx; first traceback entry T with the mark fl (or none yet) -/
structure ExcR (h B : Heap) (e dx : Addr) (fl : Option Value) : Prop where
  obj : ∃ vs, h.get? e = some { cls := .ref 56, dict := some dx, data := .fields vs } ∧ 1 < vs.size ∧ match fl with
    | none => vs[1]? = some .none
    | some v => ∃ T oT ts, vs[1]? = some (.ref T) ∧ B.get? T = none ∧ T ≠ e ∧ h.get? T = some oT ∧ oT.data = .fields ts ∧ ts[3]? = some v
/-- an exception on its way, over the heap B that stays -/
structure Fly (B : Heap) (l : List Env) (e dx : Addr) (fl : Option Value) (h : Heap) : Prop where
  stays : B.StaysIn h
  new : B.get? e = none
  fr : h.FunFrames B l
  ex : ExcR h B e dx fl
theorem ExcR.keeps {h h' B : Heap} {e dx : Addr} {fl : Option Value} (x : ExcR h B e dx fl) (k : ∀ b o, h.get? b = some o → h'.get? b = some o) : ExcR h' B e dx fl := by
  obtain ⟨vs, h1, h2, h3⟩ := x.obj
  refine ⟨vs, k _ _ h1, h2, ?_⟩
  cases fl with
  | none => exact h3
  | some v => obtain ⟨T, oT, ts, a, b, c, d, e', f⟩ := h3; exact ⟨T, oT, ts, a, b, c, k _ _ d, e', f⟩
section
variable {M : Model} {A : Around} {E : Value → Shared → Prop} {s : Shared} {B : Heap} {env : Env} {outer : List Env} {L e dx : Addr} {fl : Option Value} {Q : Unit → Shared → Prop}
/-- a new traceback entry ahead of the old ones -/
theorem fly_entry {head : Value} {hadNext : Bool} {vs : Array Value} (hfr : A.frames = some (env :: outer)) (hf : env.frame = some L) (st : B.StaysIn s.heap) (ne : B.get? e = none) (fr : s.heap.FunFrames B (env :: outer))
    (he : s.heap.get? e = some { cls := .ref 56, dict := some dx, data := .fields vs }) (hsz : 1 < vs.size)
    (h : ∀ h', Fly B (env :: outer) e dx (some (rawInt L)) h' → s.heap.UpToSlots h' → Q () { s with heap := h' }) :
    wpAny M A (do let a ← frameOf env; let pl ← entryPlaceOf L hadNext; let b ← EntryCells.newEntry head a .none (rawInt L) .none pl; setField (.ref e) 1 b) Q E s := by
  have hene : e ∉ (env :: outer).filterMap (·.frame) := fun hm => by
    obtain ⟨_, o, ho, hnf⟩ := fr.mem hm
    rw [he] at ho; injection ho with ho; subst ho; exact hnf vs rfl
  refine wpAny_bind (wpAny_frameOf_fun hfr fr hf fun h₁ hs₁ => ?_)
  refine wpAny_bind (wpAny_entryPlaceOf fun pl hpl => ?_)
  unfold EntryCells.newEntry newFields
  refine wpAny_bind (wpAny_newObj_type ?_ (hpl.sizeOk5 _ _ _ _ _))
  have he₁ := (hs₁.2.1 e hene).trans he
  have kb₁ : B.StaysIn h₁ := fun b o hbo => (hs₁.2.1 b fun hm => by rw [(fr.mem hm).1] at hbo; cases hbo).trans (st b o hbo)
  generalize hoT : ({ cls := .type "traceback", dict := none, data := .fields ([head, .ref L, .none, rawInt L, .none] ++ (if pl.isEmpty then List.replicate 6 Value.none else pl)).toArray } : Obj) = oT
  have hdT : ∃ ts, oT.data = .fields ts ∧ ts[3]? = some (rawInt L) ∧ oT.isFreed = false := ⟨_, by rw [← hoT], by rw [List.getElem?_toArray]; rfl, by rw [← hoT]; rfl⟩
  obtain ⟨ts, hd1, hd2, hd3⟩ := hdT
  have he₂ := Heap.get?_push_of_some (h := h₁) oT he₁
  have hTe : h₁.objs.size ≠ e := Nat.ne_of_gt (Heap.lt_size he₁)
  have hT₂ : (h₁.push oT).get? h₁.objs.size = some oT := Heap.get?_push_size h₁ hd3
  refine wpAny_setField he₂ rfl hsz (h _ ⟨?_, ne, ?_, ⟨_, Heap.get?_update_self _ he₂ rfl, by simpa using hsz, h₁.objs.size, oT, ts, by simp [hsz], kb₁.fresh, hTe, (Heap.get?_update_other _ _ (Ne.symm hTe)).trans hT₂, hd1, hd2⟩⟩ ?_)
  · exact fun b o hbo => (Heap.get?_update_other _ _ (fun q => by subst q; rw [ne] at hbo; cases hbo)).trans (Heap.get?_push_of_some _ (kb₁ b o hbo))
  · refine fr.of_keeps fun b o hb hnf => ?_
    obtain ⟨sl, hs⟩ := hs₁.2.2 b o hb
    have hbe : e ≠ b := fun q => by subst q; rw [he] at hb; cases hb; exact hnf _ rfl
    exact ⟨_, (Heap.get?_update_other _ _ hbe).trans (Heap.get?_push_of_some _ hs), rfl⟩
  · intro b o hb hnf
    obtain ⟨sl, hs⟩ := hs₁.2.2 b o hb
    have hbe : e ≠ b := fun q => by subst q; rw [he] at hb; cases hb; exact hnf _ rfl
    exact ⟨sl, (Heap.get?_update_other _ _ hbe).trans (Heap.get?_push_of_some _ hs)⟩
/-- noteFrame: the first entry -/
theorem fly_note0 (hfr : A.frames = some (env :: outer)) (hf : env.frame = some L) (F : Fly B (env :: outer) e dx none s.heap) (h : ∀ h', Fly B (env :: outer) e dx (some (rawInt L)) h' → s.heap.UpToSlots h' → Q () { s with heap := h' }) : wpAny M A (noteFrame (.ref e) env) Q E s := by
  refine ctr fun hG100 => ?_; obtain ⟨st, ne, fr, vs, h1, h2, h3⟩ := F; refine hG100 ?_; clear hG100
  unfold noteFrame
  simp only [hf]
  refine wpAny_bind (wpAny_field h1 rfl h3 ?_)
  rw [if_neg (by decide)]
  exact fly_entry hfr hf st ne fr h1 h2 h
/-- noteFrame: a further one -/
theorem fly_note (hfr : A.frames = some (env :: outer)) (hf : env.frame = some L) (F : Fly B (env :: outer) e dx (some .none) s.heap) (h : ∀ h', Fly B (env :: outer) e dx (some (rawInt L)) h' → s.heap.UpToSlots h' → Q () { s with heap := h' }) : wpAny M A (noteFrame (.ref e) env) Q E s := by
  refine ctr fun hG101 => ?_; obtain ⟨st, ne, fr, vs, h1, h2, T, oT, ts, hT1, hnT, hTe, hT, hdT, h3⟩ := F; refine hG101 ?_; clear hG101
  unfold noteFrame
  simp only [hf]
  refine wpAny_bind (wpAny_field h1 rfl hT1 ?_)
  rw [if_pos (show (Value.ref T != Value.none) = true from by simp)]
  refine wpAny_bind (wpAny_field hT hdT h3 ?_)
  rw [if_neg (show ¬ ((Value.none == rawInt L) = true) from by simp [rawInt])]
  refine wpAny_bind (wpAny_setField hT hdT (Array.getElem?_eq_some_iff.mp h3).1 ?_)
  have other : ∀ b, b ≠ T → (s.heap.update T (Obj.mapFields (·.setIfInBounds 3 Value.none))).get? b = s.heap.get? b := fun b hb => Heap.get?_update_other _ _ (Ne.symm hb)
  have noRecord : ∀ b o, s.heap.get? b = some o → (∀ vs, o.data ≠ .fields vs) → b ≠ T := fun b o hb hnf q => by
    rw [q, hT] at hb; injection hb with hb; subst hb; exact hnf ts hdT
  refine fly_entry hfr hf (fun b o hbo => (other b fun q => by rw [q, hnT] at hbo; cases hbo).trans (st b o hbo)) ne (fr.of_keeps fun b o hb hnf => ⟨o, (other b (noRecord b o hb hnf)).trans hb, rfl⟩) ((other e (Ne.symm hTe)).trans h1) h2
    fun h' x1 x2 => h h' x1 fun b o hb hnf => x2 b o ((other b (noRecord b o hb hnf)).trans hb) hnf
/-- setFlight .. none -/
theorem fly_land {v : Value} {l : List Env} (F : Fly B l e dx (some v) s.heap) (h : ∀ h', Fly B l e dx (some .none) h' → s.heap.UpToSlots h' → Q () { s with heap := h' }) : wpAny M A (setFlight (.ref e) none) Q E s := by
  refine ctr fun hG102 => ?_; obtain ⟨st, ne, fr, vs, h1, h2, T, oT, ts, hT1, hnT, hTe, hT, hdT, h3⟩ := F; refine hG102 ?_; clear hG102
  have hsz3 : 3 < ts.size := (Array.getElem?_eq_some_iff.mp h3).1
  have other : ∀ b, b ≠ T → (s.heap.update T (Obj.mapFields (·.setIfInBounds 3 ((none : Option Addr).elim Value.none fun f => rawInt f)))).get? b = s.heap.get? b :=
    fun b hb => Heap.get?_update_other _ _ (Ne.symm hb)
  have noRecord : ∀ b o, s.heap.get? b = some o → (∀ vs, o.data ≠ .fields vs) → b ≠ T := fun b o hb hnf q => by
    rw [q, hT] at hb; injection hb with hb; subst hb; exact hnf ts hdT
  unfold setFlight
  refine wpAny_bind (wpAny_field h1 rfl hT1 ?_)
  rw [if_pos (show (Value.ref T != Value.none) = true from by simp)]
  refine wpAny_setField hT hdT hsz3 (h _ ⟨fun b o hbo => (other b fun q => by rw [q, hnT] at hbo; cases hbo).trans (st b o hbo), ne, fr.of_keeps fun b o hb hnf => ⟨o, (other b (noRecord b o hb hnf)).trans hb, rfl⟩, ⟨vs, (other e (Ne.symm hTe)).trans h1, h2, T, _, _, hT1, hnT, hTe, Heap.get?_update_self _ hT (Obj.isFreed_of_fields (Obj.data_mapFields hdT _)), Obj.data_mapFields hdT _, by simp [hsz3]⟩⟩ fun b o hb hn => ⟨o.slots, (other b (noRecord b o hb hn)).trans hb⟩)
theorem Fly.pop {l : List Env} {h : Heap} (F : Fly B (env :: l) e dx fl h) : Fly B l e dx fl h := ⟨F.stays, F.new, F.fr.2.2, F.ex⟩
/-- leaving the def that raised -/
theorem fly_leave (hfr : A.frames = some (env :: outer)) (hf : env.frame = some L) (F : Fly B (env :: outer) e dx none s.heap) (h : ∀ h', Fly B outer e dx (some .none) h' → s.heap.UpToSlots h' → Q () { s with heap := h' }) : wpAny M A (leaving env (.ref e)) Q E s := by
  unfold leaving
  refine wpAny_bind (fly_note0 hfr hf F fun h₁ F₁ u₁ => ?_)
  exact fly_land (s := { s with heap := h₁ }) F₁ fun h₂ F₂ u₂ => h h₂ F₂.pop (u₁.trans u₂)
end
end Mine
end
section
open PySem PySem.W PySem.Calls PyProof.Rows PySem.Spec
set_option Elab.async false
set_option maxRecDepth 100000
set_option maxHeartbeats 4000000
set_option rowWalk.seconds 0
set_option linter.unusedVariables false
namespace Mine
theorem trap_raiseStmt {M : Model} {A : Around} {E : Value → Shared → Prop} {K : Frag} {env : Env} {s : Shared} {x : Sem Value} {Q : Flow → Shared → Prop} (T : KTrap K) (hh : A.handled = none)
    (h : wpAny M A x (fun v s₁ => ∃ e t dx, v = .ref e ∧ K.In s₁.heap ∧ s₁.heap.get? e = some (excO t (some dx)) ∧ E (.ref e) s₁) E s) : wpAny M A (raiseStmt env (some x) none) Q E s := by
  refine ctr fun hG126 => ?_; obtain ⟨nm, q, N, bs, hdct, sn, sub, ab, col, dd, k0, k1, k2, k3, k5, hK⟩ := T.cls; refine hG126 ?_; clear hG126
  have hcB : (Value.ref 56 :: trapMro).contains (.type "BaseException") = true := by decide
  unfold raiseStmt
  refine wpAny_bind (wpAny_mono h (fun v s₁ h₁ => ?_) fun _ _ x => x)
  refine ctr fun hG127 => ?_; obtain ⟨e, t, dx, rfl, X, he, hE⟩ := h₁; refine hG127 ?_; clear hG127
  have hC := X _ _ hK
  refine ctr fun hG128 => ?_; obtain ⟨hp, g, d, tk, os⟩ := s₁; refine hG128 ?_; clear hG128
  dsimp only at hC he
  repeat (first | with_reducible refine wpAny_loadPart_at he ?_ | with_reducible refine wpAny_loadPart_at hC ?_ | (with_reducible refine wpAny_isSubtype_exc hC ?_; rw [hcB]) | wp_step)
  exact wpAny_raiseNew_none hh hE
theorem Z.grow0 {g h h' : Heap} {L a : Addr} {o : Obj} {m : Str → Option Value} {news Γ : List (Addr × Obj)} (z : Z g L h m news Γ) (hk : ∀ b o, h.get? b = some o → h'.get? b = some o) (e1 : h'.get? a = some o) (hn : h.get? a = none) : Z g L h' m ((a, o) :: news) Γ := by
  refine ⟨⟨?_, fun b ob e => hk _ _ (z.F.keep b ob e), z.F.above⟩, fun p hp => ?_, ?_, z.T⟩
  · refine ctr fun hG129 => ?_; obtain ⟨oL, es, ep, hL, r⟩ := id z.F.ns; refine hG129 ?_; clear hG129
    exact ⟨oL, es, ep, hk _ _ hL, r⟩
  · rcases List.mem_cons.mp hp with rfl | hp
    · refine ⟨e1, fun e => ?_, ?_⟩
      · refine ctr fun hG130 => ?_; obtain ⟨oL, es, ep, hL, r⟩ := id z.F.ns; refine hG130 ?_; clear hG130
        have e' : a = L := e
        rw [← e', hn] at hL; cases hL
      · cases e : g.get? a with
        | none => rfl
        | some ob => rw [z.F.keep _ _ e] at hn; cases hn
    · have q := z.N p hp
      exact ⟨hk _ _ q.1, q.2⟩
  · rw [List.map_cons, List.nodup_cons]
    refine ⟨fun q => ?_, z.nd⟩
    obtain ⟨p, hp, e⟩ := List.mem_map.mp q
    have := z.get hp
    rw [show p.1 = a from e, hn] at this; cases this
section
variable {X : Fn} {m : Str → Option Value} {news Γ : List (Addr × Obj)} {E : Value → Shared → Prop} {s : Shared}
/-- Trap(v) -/
theorem c_trap {v : Value} {Q : Value → Shared → Prop} (y : Y X m news Γ s) (T : KTrap X.K) (hd : X.A.depth < 900) (hu : X.A.units < 8900)
    (h : ∀ e t1 dx od s', WordD od v → Y X m ((dx, od) :: (e, excO t1 (some dx)) :: news) Γ s' → Q (.ref e) s') : wpAny (model X.prog X.w) X.A (call (.ref 56) [v]) Q E s := by
  refine trap_call (z_kin y.z y.ok.C) T (fun h' e hm => ?_) (show 1 ≤ sizeLine from by decide)
  obtain ⟨t, ht, _, _⟩ := hm.there
  have y1 : Y X m ([(e, excO t none)] ++ news) Γ { s with heap := h' } := y.to (t := s.toks) (y.z.grow0 hm.keeps ht hm.new)
  have y2 : Y X m (news ++ [(e, excO t none)]) Γ { s with heap := h' } := y1.perm List.perm_append_comm
  have no : ∀ p ∈ [(e, excO t none)], ¬ IsT p.2 := fun q hq => by rw [List.mem_singleton.mp hq]; exact notT_exc
  refine trap_init y2.ok.C T y2.st y2.ok.hh (by rw [PyProof.Rows.depth_under_make]; exact n_lt (n_t (n_a (n_s hd (Nat.le_refl _)) (Nat.le_refl _)) (Nat.le_refl _)) (n_bl rfl)) (by rw [PyProof.Rows.units_under_make]; exact n_lt (n_t (n_a (n_s hu (Nat.le_refl _)) (Nat.le_refl _)) (Nat.le_refl _)) (n_bl rfl)) (y2.own no) fun t1 dx od h'' t'' kk w5 => ⟨rfl, ?_⟩
  exact h e t1 dx od _ w5 ((y2.callK no kk).perm (List.perm_append_comm (l₁ := [(dx, od), (e, excO t1 (some dx))]) (l₂ := news)))
/-- raise Trap(e1) -/
theorem y_raiseT {e1 : Expr} {vp : Value → Prop} {np cpos pos : Pos} {rest : List Stmt} {Q : Flow → Shared → Prop} (y : Y X m news Γ s) (T : KTrap X.K) (hd : X.A.depth < 900) (hu : X.A.units < 8900) (h1 : PV X m news Γ e1 vp)
    (h : ∀ e t1 dx od v s', vp v → WordD od v → Y X m ((dx, od) :: (e, excO t1 (some dx)) :: news) Γ s' → E (.ref e) s') (hx : X.env.kindOf "Trap" = some .globalImplicit := by rfl) (he : starEach [e1] X.env = (false, eval e1 X.env) :: starEach [] X.env := by rfl) :
    wpAny (model X.prog X.w) X.A (execs (.Raise (some (.Call (.Name (Str.ofString "Trap") np) [e1] [] cpos)) none pos :: rest) X.env) Q E s := by
  walk1
  rw [arm_exec_Raise]
  refine wpAny_bind (wpAny_standAt (trap_raiseStmt T y.ok.hh ?_))
  refine wpAny_bind (wpAny_mono (Q := fun v s₃ => ∃ e t dx, v = .ref e ∧ X.K.In s₃.heap ∧ s₃.heap.get? e = some (excO t (some dx)) ∧ E (.ref e) s₃) ?_ (fun v s₃ h₃ => wpAny_bind (wpAny_standAt (wpAny_pure h₃))) fun _ _ x => x)
  refine ev_call y.ok.C.g_Trap T.keep (pvs1 h1 he) y (fun vs s1 q y1 => ?_) hx (by decide) he rfl
  obtain ⟨v, rfl, hv⟩ := q
  exact c_trap y1 T hd hu fun e t1 dx od s' w5 y5 => ⟨e, t1, dx, rfl, z_kin y5.z y5.ok.C, y5.z.get (.tail _ (.head _)), h e t1 dx od v s' hv w5 y5⟩
end
end Mine
end
section
open PySem PySem.W PySem.Calls PyProof.Rows PySem.Spec
set_option Elab.async false
set_option maxRecDepth 100000
set_option maxHeartbeats 4000000
set_option rowWalk.seconds 0
set_option linter.unusedVariables false
namespace Mine
/-- function entry, the stack of frames in sight -/
theorem enterB {prog : Program} {w : World} {K : Frag} {A : Around} {s : Shared} {h₀ : Heap} {ks : List (Addr × Obj)} {E Q : Value → Shared → Prop}
    {name bind qual : Str} {params : Arguments} {body : List Stmt} {deco : List Expr} {ret : Option Expr} {tps : List TypeParam} {tscope : Option Scope} {spos : Pos} {scope : Scope} {st : Stmt} {f : Addr} {pos : List Value} {kw : List (Str × Value)} {binds : List (Str × Value)}
    (C : Cx K h₀) (hk : h₀.StaysIn s.heap) (hh : A.handled = none) (hu : A.units < 9800) (O : Own h₀ s.heap ks) (hf : FnAt K f qual st) (hst : st = .FunctionDef name params body deco ret tps scope tscope bind spos) (hroom : A.depth < recursionLimit)
    (hbind : ∀ cdv doc pm, BindsTo s (fnOf name qual params body scope .none .none doc pm none cdv .none) ⟨pos, kw⟩ binds) (hloc : ∀ y ∈ binds, scope.names.lookup y.1 = some .local)
    (hco : scope.isCoroutine = false) (hgen : scope.isGenerator = false) (hkk : scope.kind = .function)
    (hcell : ∀ x ∈ scope.names, x.2 ≠ .cell)
    (h : ∀ g L h₁ tk cdv, let X : Fn := ⟨prog, w, K, A.deeper (envOf qual scope L f cdv), envOf qual scope L f cdv, s, g, L⟩; let m0 : Str → Option Value := fun y => binds.reverse.lookup y;
      Y X m0 ks [] { s with heap := h₁, toks := tk } → h₀.StaysIn g → L = s.heap.objs.size → (∀ a o, s.heap.get? a = some o → a ∉ ks.map (·.1) → g.get? a = some o) →
      wpAny (model X.prog X.w) X.A (execs body X.env) (KRet Q) (KLv X E) { s with heap := h₁, toks := tk }) :
    wpAny (model prog w) A (call (.ref f) pos kw) Q E s := by
  subst hst
  refine ctr fun hG356 => ?_; obtain ⟨oc, od, pm, cdv, doc, osl, ho, hcd⟩ := hf; refine hG356 ?_; clear hG356
  refine wpAny_call (codeAny_call_def (fd := fnOf name qual params body scope .none .none doc pm none cdv .none) (body := body) (binds := binds) hroom (hk _ _ (C.X _ _ ho)) rfl (C.nolimit.keeps hk) (codeRec_of (C.X.keeps hk) hcd) rfl (hbind _ _ _) hcell hloc (fun h₁ hns hk₁ => ?_) hco hgen hkk)
  have hin : ∀ a o, h₀.get? a = some o → a ∉ ks.map (·.1) := fun a o e q => by
    obtain ⟨p, hp, rfl⟩ := List.mem_map.mp q
    rw [O.off p hp] at e; cases e
  exact h (hideAll s.heap (ks.map (·.1))) s.heap.objs.size h₁ (s.toks + binds.length) cdv
    ⟨⟨⟨hns, fun b o e => hk₁ b o (of_hideAll _ e), Nat.le_of_eq (hideAll_size _ _)⟩, by rw [List.append_nil]; exact fun p hp => ⟨hk₁ _ _ (O.at_ p hp), Nat.ne_of_lt (Heap.lt_size (O.at_ p hp)), hideAll_none _ (List.mem_map_of_mem hp)⟩, O.nd, fun _ h => nomatch h⟩, rfl,
      ⟨hkk, rfl, rfl, rfl, hh, C.keeps fun a o e => hideAll_get _ (hk a o e) (hin a o e), by show A.units + 3 + 64 < cLine; simp only [cLine]; exact n_lt (n_t (n_a (n_t (n_a (n_s hu (Nat.le_refl _)) (Nat.le_refl _)) (Nat.le_refl _)) (Nat.le_refl _)) (Nat.le_refl _)) (n_bl rfl)⟩⟩
    (fun a o e => hideAll_get _ (hk a o e) (hin a o e)) rfl (fun a o e n => hideAll_get _ e n)
theorem frames_move {h g B B' : Heap} : ∀ {l : List Env}, h.FunFrames B l → (∀ b ∈ l.filterMap (·.frame), ∀ o, h.get? b = some o → g.get? b = some o) → (∀ b ∈ l.filterMap (·.frame), B'.get? b = none) → g.FunFrames B' l
  | [], _, _, _ => trivial
  | env :: r, ⟨hk, ⟨L, o, hf, hn, ho, hd⟩, hr⟩, k, n =>
    have hm : L ∈ (env :: r).filterMap (·.frame) := List.mem_filterMap.mpr ⟨env, .head _, hf⟩
    ⟨hk, ⟨L, o, hf, n L hm, k L hm o ho, hd⟩, frames_move hr (fun b hb => k b (by obtain ⟨x, hx, e⟩ := List.mem_filterMap.mp hb; exact List.mem_filterMap.mpr ⟨x, .tail _ hx, e⟩)) fun b hb => n b (by obtain ⟨x, hx, e⟩ := List.mem_filterMap.mp hb; exact List.mem_filterMap.mpr ⟨x, .tail _ hx, e⟩)⟩
/-- the frames around a call, told apart from what the call owns -/
structure Frs (h₀ : Heap) (A : Around) (outer : List Env) (h : Heap) (ks : List (Addr × Obj)) : Prop where
  stack : A.frames = some outer
  fr : h.FunFrames h₀ outer
  off : ∀ b ∈ outer.filterMap (·.frame), b ∉ ks.map (·.1)
theorem Frs.below {h₀ g : Heap} {A : Around} {outer : List Env} {h : Heap} {ks : List (Addr × Obj)} (F : Frs h₀ A outer h ks) (h0 : h₀.StaysIn g) (hin : ∀ a o, h.get? a = some o → a ∉ ks.map (·.1) → g.get? a = some o) : Below A h₀ outer g :=
  ⟨F.stack, h0, frames_move F.fr (fun b hb o e => hin b o e (F.off b hb)) fun b hb => (F.fr.mem hb).1⟩
/-- the same, for a call out of a body -/
theorem Below.frs {A : Around} {h₀ g h : Heap} {outer : List Env} {L a : Addr} {m : Str → Option Value} {name : Str} {scope : Scope} {cd : Value} {loc ks Γ : List (Addr × Obj)} (K : Below A h₀ outer g) (z : Z g L h m (loc ++ ks) Γ) (hk : scope.kind = .function := by rfl) :
    Frs h₀ (A.deeper (envOf name scope L a cd)) (envOf name scope L a cd :: outer) h ks := by
  have P := K.push (name := name) (scope := scope) (a := a) (cd := cd) z.F hk
  refine ⟨P.stack, P.frames, fun b hb q => ?_⟩
  obtain ⟨p, hp, rfl⟩ := List.mem_map.mp q
  have hN := (z.N p (List.mem_append_left _ (List.mem_append_right _ hp))).2
  rcases kts_mem hb with e | hm
  · exact hN.1 e
  · obtain ⟨_, o, ho, _⟩ := K.frames.mem hm
    rw [hN.2] at ho; cases ho
/-- an exception that came back from a call: G is the heap ahead of the call -/
structure Trapped (G : Heap) (outer : List Env) (e dx : Addr) (od : Obj) (h' : Heap) : Prop where
  fly : ∃ B, Fly B outer e dx (some .none) h' ∧ (∀ b o, G.get? b = some o → b ∉ outer.filterMap (·.frame) → B.get? b = some o) ∧ B.get? dx = some od
  up : G.UpToSlots h'
  ne : G.get? e = none
  nd : G.get? dx = none
section
variable {prog : Program} {w : World} {K : Frag} {A : Around} {E : Value → Shared → Prop} {s : Shared} {h₀ hb : Heap} {P : Addr → Obj → Prop} {o : Addr} {p : HP} {H : H} {ks : List (Addr × Obj)} {Q : Value → Shared → Prop} {outer : List Env}
theorem unowned_trap {k : Nat} {t : T} {x : Value} (C : Cx K h₀) (KT : KTrap K) (hk : h₀.StaysIn s.heap) (hh : A.handled = none) (hd : A.depth < 880) (hu : A.units < 7800) (fr : Frs hb A outer s.heap ks) (hP : ∀ a o, P a o → s.heap.get? a = some o) (hv : VR P x (V.soft true k).py) (O : Own h₀ s.heap ks) (R : HRep prog w P o p H ks) (ht : H.ts[k]? = some t) (hE : t.st.isLive = false)
    (hQ : ∀ e dx od h' t' v, IsS (Str.ofString "unowned") v → WordD od v → Trapped s.heap outer e dx od h' → E (.ref e) { s with heap := h', toks := t' }) : wpAny (model prog w) A (call (.ref 213) [.ref o, x]) Q E s := by
  refine enterB (binds := [(Str.ofString "self", .ref o), (Str.ofString "value", x)]) C hk hh (Nat.lt_trans hu (by decide)) O C.KF.f213 rfl (Nat.lt_trans hd (by decide)) (fun _ _ _ => BindsTo.of_eq rfl) (locs rfl) rfl rfl rfl (by decide) ?_
  intro g L h₁ tk cdv X m0 y h0 hL hin
  have hvg : VR (Gt g) x (V.soft true k).py := hv.mono2 (gt_of O hin hP)
  refine ex4 R.hd fun es n od0 lv hd0 => ?_
  obtain ⟨tp, htp⟩ := R.place ht
  refine ex8 (R.th ht htp) fun es2 n2 kd nm sv wv uv stv th => ?_
  refine ctr fun hG359 => ?_; obtain ⟨t1, o1, n1, u1, z1, rfl, g1, g2, g3⟩ := VR.two hvg; refine hG359 ?_; clear hG359
  have tg : ∀ {Γ}, TT X.g Γ t1 _ := fun {Γ} => TT.mk (.inl g1) g2 g3
  refine y_if_t (pb_nes (pv_attrS (pv_ditem (pv_attr (pv_loc rfl) hd0.m1 hd0.m2 hd0.er (.inr rfl) fun ok => ok.C.a_things) (pv_item' (pv_loc rfl) tg) hd0.m3 hd0.hod (fun x e => by subst e; exact isI_is (X := X) ⟨_, rfl⟩) (keyed_at htp)) th.t1 th.t2 th.er (.inl rfl) (fun ok => ok.C.a_state) th.k6) pv_str (by rw [live_word, hE]; rfl)) y fun s2 y2 => ?_
  refine y_raiseT y2 KT (show A.depth + 1 < 900 by exact n_lt (n_t (n_a (n_s hd (Nat.le_refl _)) (Nat.le_refl _)) (Nat.le_refl _)) (n_bl rfl)) (show A.units + 3 < 8900 by exact n_lt (n_t (n_a (n_s hu (Nat.le_refl _)) (Nat.le_refl _)) (Nat.le_refl _)) (n_bl rfl)) pv_str fun e t2 dx od v s3 hv3 w3 y3 => ?_
  have stay : ∀ b ob, s.heap.get? b = some ob → s3.heap.get? b = some ob := fun b ob eb => by
    by_cases hm : b ∈ ks.map (·.1)
    · obtain ⟨q, hq, rfl⟩ := List.mem_map.mp hm
      rw [O.at_ q hq] at eb; cases eb
      exact y3.z.get (.tail _ (.tail _ hq))
    · exact y3.z.F.keep b ob (hin b ob eb hm)
  have nd3 := y3.z.nd
  rw [List.map_cons, List.map_cons, List.nodup_cons, List.nodup_cons] at nd3
  have fresh : ∀ q ∈ [(dx, od), (e, excO t2 (some dx))], q.1 ∉ ks.map (·.1) → s.heap.get? q.1 = none := fun q hq hn => by
    cases eb : s.heap.get? q.1 with
    | none => rfl
    | some ob =>
      have q1 := (y3.z.N q (List.mem_append_left _ (List.mem_append_left ks hq))).2.2
      rw [show X.g.get? q.1 = some ob from hin _ _ eb hn] at q1; cases q1
  have ne : s.heap.get? e = none := fresh (e, _) (.tail _ (.head _)) nd3.2.1
  have nd : s.heap.get? dx = none := fresh (dx, _) (.head _) fun q => nd3.1 (.tail _ q)
  have hLn : s.heap.get? L = none := by rw [hL]; exact Heap.get?_none_of_le (Nat.le_refl _)
  have hBs : ∀ b ob, s3.heap.get? b = some ob → b ≠ e → b ∉ (X.env :: outer).filterMap (·.frame) → (hideAll s3.heap (e :: (X.env :: outer).filterMap (·.frame))).get? b = some ob := fun b ob eb h1 h2 => hideAll_get _ eb fun q => (List.mem_cons.mp q).elim h1 h2
  have mem : ∀ b, b ∈ (X.env :: outer).filterMap (·.frame) → b = L ∨ b ∈ outer.filterMap (·.frame) := fun b hm => kts_mem hm
  have fro : ∀ b ∈ outer.filterMap (·.frame), ∃ ob, s.heap.get? b = some ob := fun b hm => let ⟨_, ob, h1, _⟩ := fr.fr.mem hm; ⟨ob, h1⟩
  refine fly_leave (B := hideAll s3.heap (e :: (X.env :: outer).filterMap (·.frame))) (env := X.env) (L := L) (dx := dx) (Around.frames_deeper fr.stack) rfl ⟨fun b ob eb => of_hideAll _ eb, hideAll_none _ (.head _), ⟨fun q => (nomatch q : False), ?_, frames_move fr.fr (fun b hm ob eb => stay b ob eb) fun b hm => hideAll_none _ (.tail _ (by rw [List.filterMap_cons]; exact .tail _ hm))⟩, ⟨_, y3.z.get (.tail _ (.head _)), (show 1 < 6 from by decide), rfl⟩⟩ fun h' F' u' => ?_
  · refine ctr fun hG360 => ?_; obtain ⟨oL, es, ep, e1, e2, _⟩ := id y3.z.F.ns; refine hG360 ?_; clear hG360
    exact ⟨L, oL, rfl, hideAll_none _ (.tail _ (.head _)), e1, fun vs q => by rw [e2] at q; cases q⟩
  · have := hQ e dx od h' s3.toks v hv3 w3 ⟨⟨_, F', fun b ob eb hm => hBs b ob (stay b ob eb) (fun q => by subst q; rw [ne] at eb; cases eb) fun q => (mem b q).elim (fun q => by subst q; rw [hLn] at eb; cases eb) hm,
      hBs dx od (y3.z.get (.head _)) (fun q => nd3.1 (by rw [q]; exact .head _)) fun q => (mem dx q).elim (fun q => (y3.z.N (dx, od) (.head _)).2.1 q) fun q => by obtain ⟨ob, h1⟩ := fro dx q; rw [nd] at h1; cases h1⟩,
      fun b ob eb hn => u' b ob (stay b ob eb) hn, ne, nd⟩
    rw [y3.e]
    exact this
end
end Mine
end
section
open PySem PySem.W PySem.Calls PyProof.Rows PySem.Spec
set_option Elab.async false
set_option maxRecDepth 100000
set_option maxHeartbeats 4000000
set_option rowWalk.seconds 0
set_option linter.unusedVariables false
namespace Mine
section
variable {prog : Program} {w : World} {A₀ : Around} {E : Value → Shared → Prop} {s : Shared} {base g G : Heap} {outer : List Env} {L a e dx : Addr} {od : Obj} {m : Str → Option Value} {name n : Str} {scope : Scope} {cd : Value} {news Γ : List (Addr × Obj)}
theorem caught_Z (K : Below A₀ base outer g) (z : Z g L G m news Γ) {B h : Heap} {g' : Heap} {fl : Option Value} (F : Fly B (envOf name scope L a cd :: outer) e dx fl h) (hBG : ∀ b o, G.get? b = some o → b ∉ (envOf name scope L a cd :: outer).filterMap (·.frame) → B.get? b = some o) (hBd : B.get? dx = some od)
    (ne : G.get? e = none) (nd : G.get? dx = none) (T : KtsTurn (outer.filterMap (·.frame)) g g') (Fr' : Fr g' L h m) : ∃ vs, Z g' L h m ((e, { cls := .ref 56, dict := some dx, data := .fields vs }) :: (dx, od) :: news) Γ := by
  obtain ⟨vs, he, _⟩ := F.ex.obj
  refine ctr fun hG86 => ?_; obtain ⟨oL, esL, epL, hL, _⟩ := id z.F.ns; refine hG86 ?_; clear hG86
  have neL : ∀ b, G.get? b = none → b ≠ L := fun b hb q => by rw [q, hL] at hb; cases hb
  have gn : ∀ b, G.get? b = none → g'.get? b = none := fun b hb => T.none_ _ (kts_none z.F.keep hb)
  have old : ∀ p ∈ news ++ Γ, h.get? p.1 = some p.2 ∧ p.1 ≠ L ∧ g'.get? p.1 = none := fun p hp => by
    obtain ⟨q1, q2, q3⟩ := z.N p hp
    refine ⟨F.stays _ _ (hBG _ _ q1 fun hm => ?_), q2, T.none_ _ q3⟩
    rcases kts_mem hm with e | hm
    · exact q2 e
    · obtain ⟨_, o, ho, _⟩ := K.frames.mem hm
      rw [q3] at ho; cases ho
  refine ⟨vs, Fr', fun p hp => ?_, ?_, z.T⟩
  · rcases List.mem_cons.mp hp with rfl | hp
    · exact ⟨he, neL _ ne, gn _ ne⟩
    · rcases List.mem_cons.mp hp with rfl | hp
      · exact ⟨F.stays _ _ hBd, neL _ nd, gn _ nd⟩
      · exact old p hp
  · have out : ∀ b, G.get? b = none → b ∉ news.map (·.1) := fun b hb q => by
      obtain ⟨p, hp, rfl⟩ := List.mem_map.mp q
      rw [z.get hp] at hb; cases hb
    rw [List.map_cons, List.map_cons, List.nodup_cons, List.nodup_cons]
    refine ⟨fun q => ?_, out _ nd, z.nd⟩
    rcases List.mem_cons.mp q with q | q
    · have := F.new
      rw [show e = dx from q, hBd] at this; cases this
    · exact out _ ne q
theorem trap_caught {KF : Frag} {p : Program} {loose : List Str} {mean : ExcName → Option Value} {mg mb : Str → Option Value} {b₀ : Stmt} {suite : List Stmt} {pos np : Pos} {rest : List ExceptHandler} {Q : Flow → Shared → Prop}
    (K : Below A₀ base outer g) (z : Z g L G m news Γ) (tr : Trapped G (envOf name scope L a cd :: outer) e dx od s.heap) (CX : KF.In base) (CT : Top p loose mean mg mb base) (KT : KTrap KF) (ex : nsIn KF mainGlobals (Str.ofString "Trap") = some (some (.ref 56)))
    (k : ∀ h₆ g' tk vs E', KtsTurn (outer.filterMap (·.frame)) g g' → Z g' L h₆ (fun y => if y = n then some (.ref e) else m y) ((e, { cls := .ref 56, dict := some dx, data := .fields vs }) :: (dx, od) :: news) Γ → Below A₀ base outer g' →
      wpAny (model prog w) ((A₀.deeper (envOf name scope L a cd)).mark (some (.ref e))) (execs (b₀ :: suite) (envOf name scope L a cd))
        (fun f s₄ => wpAny (model prog w) (A₀.deeper (envOf name scope L a cd)) (do bindName (envOf name scope L a cd) n .none; unbindBehindTheSuite (envOf name scope L a cd) n pos) (fun _ s₅ => Q f s₅) E s₄) E' { s with heap := h₆, toks := tk })
    (hk : scope.kind = .function := by rfl) (hlo : (envOf name scope L a cd).kindOf n = some .local := by rfl) (hx : (envOf name scope L a cd).kindOf (Str.ofString "Trap") = some .globalImplicit := by rfl) (hd : (Str.ofString "Trap" == ("__debug__" : Str)) = false := by decide) :
    wpAny (model prog w) (A₀.deeper (envOf name scope L a cd)) (noteFrame (.ref e) (envOf name scope L a cd))
      (fun _ s₂ => wpAny (model prog w) (A₀.deeper (envOf name scope L a cd)) (setFlight (.ref e) none) (fun _ s₃ =>
        wpAny (model prog w) (A₀.deeper (envOf name scope L a cd)) (handleBy (.ref e) (envOf name scope L a cd) (.ExceptHandler (some (.Name (Str.ofString "Trap") np)) (some n) (b₀ :: suite) pos :: rest)) Q E s₃) E s₂) E s := by
  refine ctr fun hG87 => ?_; obtain ⟨⟨B, F, hBG, hBd⟩, up, ne, nd⟩ := tr; refine hG87 ?_; clear hG87
  refine fly_note (Around.frames_deeper K.stack) rfl F fun h₄ F₄ u₄ => ?_
  refine fly_land F₄ fun h₅ F₅ u₅ => ?_
  have u05 := up.trans (u₄.trans u₅)
  obtain ⟨g₅, T₅, Fr₅, K₅⟩ := kts_ground K z.F hBG F₅.stays u05
  refine wpAny_handleBy_cons (codeAny_handlers_test (name_K Fr₅ (CX.keeps K₅.stays) (topRead_of (CT.keeps K₅.stays)) ex ?_ hk hx hd)) (by intro q; cases q)
  obtain ⟨vs, he, _⟩ := F₅.ex.obj
  refine ctr fun hG88 => ?_; obtain ⟨nm, q, N, bs, hdct, sn, sub, ab, col, dd, k0, k1, k2, k3, k5, hK⟩ := KT.cls; refine hG88 ?_; clear hG88
  have hC : h₅.get? 56 = _ := (CX.keeps (K₅.stays)).keeps Fr₅.keep _ _ hK
  refine wpAny_excMatches_sub_self hC he rfl (by decide) (codeAny_handlers_suite_as ?_)
  refine fly_land (s := { s with heap := h₅ }) F₅ fun h₆ F₆ u₆ => ?_
  obtain ⟨g₆, T₆, Fr₆, K₆⟩ := kts_ground K z.F hBG F₆.stays (u05.trans u₆)
  obtain ⟨vs6, z6⟩ := caught_Z K z F₆ hBG hBd ne nd T₆ Fr₆
  refine z_store (s := { s with heap := h₆ }) z6 (fun h₇ z7 => ?_) hk hlo
  exact k h₇ g₆ _ vs6 _ T₆ z7 K₆
end
end Mine
end
section
open PySem PySem.W PySem.Calls PyProof.Rows PySem.Spec
set_option Elab.async false
set_option maxRecDepth 100000
set_option maxHeartbeats 4000000
set_option rowWalk.seconds 0
set_option linter.unusedVariables false
namespace Mine
theorem WordD.look {od : Obj} {v : Value} (h : WordD od v) : lookIn (Str.ofString "word") od = some (some v) := by
  refine ctr fun hG361 => ?_; obtain ⟨es, ep, e1, e2, e3⟩ := h; refine hG361 ?_; clear hG361
  have := e3 (Str.ofString "word")
  rw [if_pos rfl] at this
  unfold nsFind findBy at this
  rw [← Array.find?_toList] at this
  unfold lookIn
  rw [e1]
  dsimp only
  cases hf : es.toList.find? (·.key.isStr (Str.ofString "word")) with
  | none => rw [hf] at this; cases this
  | some en => rw [hf] at this; cases this; rfl
section
variable {prog : Program} {w : World} {A : Around} {K : Frag} {E : Value → Shared → Prop} {s : Shared} {e dx : Addr} {oe od : Obj} {vs : Array Value} {v : Value} {Q : Value → Shared → Prop}
theorem trap_word {expr : Bool} (X : K.In s.heap) (T : KTrap K) (he : s.heap.get? e = some oe) (hc : oe.cls = .ref 56) (hd : oe.dict = some dx) (hf : oe.data = .fields vs) (hdx : s.heap.get? dx = some od) (hw : WordD od v) (hv : handedIn v = true) (h : Q v { s with toks := s.toks + 1 }) :
    wpAny (model prog w) A (getAttr (.ref e) (Str.ofString "word") expr) Q E s := by
  have I : InstAt s.heap e oe 56 (some od) := ⟨he, hc, by unfold notCls; rw [hf], by rw [hd]; exact hdx⟩
  have FB := PySem.F.attrBase_Exception
  have hfo : findObj K 56 (some od) (Str.ofString "word") = some (.value v) := findObj_own T.dct T.word noGet_none hw.look
  refine ctr fun hG362 => ?_; obtain ⟨hh, g, d, t, os⟩ := s; refine hG362 ?_; clear hG362
  have L0 := I.type (M := model prog w)
  have L1 := looks_findIn (M := model prog w) X T.ga
  have L2 := looks_findIn (M := model prog w) X T.gh
  have L3 := looks_find (M := model prog w) X I hfo
  have sub : Looks (model prog w) hh (isInstance (.ref e) (.type "BaseException")) true := trap_sub X T he hc "BaseException" (by decide)
  unfold getAttr getAttrBy
  refine wpAny_bind (wpAny_mkText (wpAny_holding (wpAny_bind (L0.at (wpAny_bind (L1.at ?_))))))
  dsimp only
  rw [if_neg (by rw [show (Value.builtin "BaseException.__getattribute__" == Value.builtin "object.__getattribute__") = false by decide +kernel, Bool.and_false]; exact Bool.false_ne_true)]
  unfold getAttrByItsOwn
  refine wpAny_bind (L2.at ?_)
  refine wpAny_bind (wpAny_attempt (wpAny_holding ?_))
  have hcg : callGetattribute (.ref e) (.str (Str.ofString "word") t) (.builtin "BaseException.__getattribute__") expr = boundAndCalled (.builtin "BaseException.__getattribute__") (.ref e) (.str (Str.ofString "word") t) := by cases expr <;> rfl
  rw [hcg]
  unfold boundAndCalled
  rw [FB.ga.bind]
  have hk : builtinKind "BaseException.__getattribute__" = some .slot := by decide +kernel
  have hsp : splitId "BaseException.__getattribute__" = some ("BaseException", "__getattribute__") := by decide +kernel
  refine wpAny_bind (wpAny_pure (wpAny_call (codeAny_call_builtin (args := ⟨[.ref e, .str (Str.ofString "word") t], []⟩) FB.ga.plain PySem.F.entry_bexc_ga (@check_slot (model prog w) _ _ ⟨hh, g, d, t + 1, os⟩ "BaseException.__getattribute__" "BaseException" "__getattribute__" (.ref e) [.str (Str.ofString "word") t] [] _ hk hsp sub (PySem.F.args_bexc_ga _ _) ?_))))
  refine wpAny_bind (wpAny_pure (wpAny_bind (wpAny_pure ?_)))
  refine wpAny_bind (L0.at ?_)
  refine wpAny_bind (L3.at ?_)
  refine wpAny_pure ?_
  show wpAny _ _ (handedOut v) _ _ _
  rw [handedOut_of hv]
  exact wpAny_pure h
end
end Mine
end
section
open PySem PySem.W PySem.Calls PyProof.Rows PySem.Spec
set_option Elab.async false
set_option maxRecDepth 100000
set_option maxHeartbeats 4000000
set_option rowWalk.seconds 0
set_option linter.unusedVariables false
namespace Mine
/-- an expression that changes nothing but the tokens, under any activation -/
noncomputable def HPx (prog : Program) (w : World) (A : Around) (env : Env) (s : Shared) (e : Expr) (vp : Value → Prop) : Prop :=
  ∀ (t : Tok) (E : Value → Shared → Prop) (Q : Value → Shared → Prop), (∀ v t', vp v → Q v { s with toks := t' }) → wpAny (model prog w) A (eval e env) Q E { s with toks := t }
section
variable {prog : Program} {w : World} {A : Around} {s : Shared} {name : Str} {scope : Scope} {L a : Addr} {cd : Value} {g : Heap} {m : Str → Option Value} {news Γ : List (Addr × Obj)}
end
section
variable {prog : Program} {w : World} {A : Around} {s : Shared} {env : Env} {g : Heap} {L : Addr} {m : Str → Option Value} {news Γ : List (Addr × Obj)}
theorem hp_str {x : Str} {k : Nat} {pos : Pos} : HPx prog w A env s (.Constant (.str x) k pos) (IsS x) := by
  intro t E Q h
  repeat' walk1
  exact h _ _ ⟨_, rfl⟩
theorem hp_loc {x : Str} {pos : Pos} {v : Value} (hk : env.scope.kind = .function) (ns : s.heap.Ns L m) (hL : env.locals = L) (hv : m x = some v) (hl : env.kindOf x = some .local) (hd : (x == ("__debug__" : Str)) = false) : HPx prog w A env s (.Name x pos) (· = v) :=
  fun t E Q h => wpAny_Name (wpAny_loadName_local hk hl (by rw [hL]; exact ns) hv (h _ _ rfl)) hd
theorem hp_item0 {e : Expr} {k : Nat} {p1 p2 : Pos} {t1 : Addr} {x : Value} {vs : List Value} (h1 : HPx prog w A env s e (· = .ref t1)) (ht : IsTup s.heap t1 (x :: vs).toArray) : HPx prog w A env s (.Subscript e (.Constant (.int 0) k p1) p2) (· = x) := by
  intro t E Q h
  walk1
  refine h1 t _ _ fun v t' e => ?_
  subst e
  repeat' (first | (with_reducible show wpAny _ _ (subscriptTail _ _ _ _) _ _ _; fail) | walk1)
  exact item_tupleT (j := 0) ht (by decide) (by decide) (by simp [seqIndex?]) rfl (h _ _ rfl)
theorem hp_eqs {a b : Expr} {pos : Pos} {x : Str} (h1 : HPx prog w A env s a (IsS x)) (h2 : HPx prog w A env s b (IsS x)) (hm : behindInMarks .Eq b = false := by with_unfolding_all rfl) : HPx prog w A env s (.Compare a [.Eq] [b] pos) (· = .bool true) := by
  intro t E Q h
  refine wpAny_Compare1 (h1 t _ _ fun v t1 q1 => h2 t1 _ _ fun z t2 q2 => ?_) hm
  obtain ⟨u1, rfl⟩ := q1
  obtain ⟨u2, rfl⟩ := q2
  exact z_eqs true (by simp) (h _ _ rfl)
theorem hp_not {a : Expr} {pos : Pos} (h1 : HPx prog w A env s a (· = .bool false)) : HPx prog w A env s (.UnaryOp .Not a pos) (· = .bool true) := by
  intro t E Q h
  walk1
  refine h1 t _ _ fun v t1 q1 => ?_
  subst q1
  repeat' walk1
  exact h _ _ rfl
theorem hp_and3 {a b c : Expr} {pos : Pos} {v : Value} (h1 : HPx prog w A env s a (· = .bool true)) (h2 : HPx prog w A env s b (· = .bool true)) (h3 : HPx prog w A env s c (· = v)) : HPx prog w A env s (.BoolOp .And [a, b, c] pos) (· = v) := by
  intro t E Q h
  repeat' walk1
  refine h1 t _ _ fun v1 t1 q1 => ?_
  subst q1
  repeat' walk1
  refine h2 t1 _ _ fun v2 t2 q2 => ?_
  subst q2
  repeat' walk1
  exact h3 t2 _ _ fun v3 t3 q3 => h _ _ q3
theorem hp_ret {e : Expr} {pos : Pos} {rest : List Stmt} {v : Value} {Q : Flow → Shared → Prop} {E : Value → Shared → Prop} (h1 : HPx prog w A env s e (· = v)) (h : ∀ t', Q (.ret v) { s with toks := t' }) : wpAny (model prog w) A (execs (.Return (some e) pos :: rest) env) Q E s := by
  repeat' walk1
  exact h1 s.toks _ _ fun v t q => by subst q; exact h t
theorem hp_word {K : Frag} {x : Expr} {p : Pos} {e dx : Addr} {oe od : Obj} {vs : Array Value} {v : Value} (h1 : HPx prog w A env s x (· = .ref e)) (X : K.In s.heap) (T : KTrap K) (he : s.heap.get? e = some oe) (hc : oe.cls = .ref 56) (hd : oe.dict = some dx) (hf : oe.data = .fields vs) (hdx : s.heap.get? dx = some od) (hw : WordD od v) (hv : IsS (Str.ofString "unowned") v)
    (hb : attributeBase x (Str.ofString "word") env (eval x env) = eval x env) : HPx prog w A env s (.Attribute x (Str.ofString "word") p) (IsS (Str.ofString "unowned")) := by
  intro t E Q h
  rw [PySem.arm_eval_Attribute, hb]
  refine wpAny_bind (h1 t _ _ fun o t1 q => ?_)
  subst q
  obtain ⟨u, rfl⟩ := hv
  refine wpAny_bind (wpAny_standAt (wpAny_bind (wpAny_holding (trap_word (s := { s with toks := t1 }) X T he hc hd hf hdx hw rfl ?_))))
  exact wpAny_bind (wpAny_letTemporaryGo (wpAny_pure (h _ _ ⟨u, rfl⟩)))
end
end Mine
end
section
open PySem PySem.W PySem.Calls PyProof.Rows PySem.Spec
set_option Elab.async false
set_option maxRecDepth 100000
set_option maxHeartbeats 4000000
set_option rowWalk.seconds 0
set_option linter.unusedVariables false
namespace Mine
section
variable {X : Fn} {m : Str → Option Value} {news Γ : List (Addr × Obj)} {E : Value → Shared → Prop} {s : Shared}
theorem pv_neg1 {k : Nat} {p1 p2 : Pos} : PV X m news Γ (.UnaryOp .USub (.Constant (.int 1) k p1) p2) (IsI (-1)) := by
  intro E s y
  repeat' walk1
  all_goals first | exact y.tk _ | exact ⟨_, rfl⟩ | exact ⟨⟨_, rfl⟩, y.tk _⟩
/-- the last of a list -/
theorem pv_last {e : Expr} {k n : Nat} {p p1 p2 : Pos} {l : Addr} {its : List Value} {v : Value} (h1 : PV X m news Γ e (· = .ref l)) (hm : (l, listOf (its ++ [v]).toArray n) ∈ news) (hz : its.length ≤ 1000)
    (hs : ∀ o i, subscripted (.UnaryOp .USub (.Constant (.int 1) k p1) p2) false o i = operate [o, i] (getItem o i) := by intro _ _; rfl) : PV X m news Γ (.Subscript e (.UnaryOp .USub (.Constant (.int 1) k p1) p2) p) (· = v) :=
  fun E s y => ev_sub h1 pv_neg1 y fun x s' q y' => by
    obtain ⟨t, rfl⟩ := q
    refine tail_any (y'.z.isList hm).typeIs slot_list_getitem.lookup (wpAny_getItem_list_neg (y'.z.isList hm) (by decide) (by simp; lia) (by decide) ?_ ⟨rfl, y'⟩) (hs _ _)
    rw [List.size_toArray, List.length_append, List.length_singleton, show ((-1 : Int) + ((its.length + 1 : Nat) : Int)).toNat = its.length by lia]
    simp
theorem pv_and2 {a b : Expr} {pos : Pos} {r : Bool} (h1 : PV X m news Γ a (· = .bool true)) (h2 : PV X m news Γ b (· = .bool r)) : PV X m news Γ (.BoolOp .And [a, b] pos) (· = .bool r) := fun E s y =>
  ev_and2 (wpAny_mono (h1 E s y) (fun v s1 q => ⟨q.1, h2 E s1 q.2⟩) fun _ _ x => x)
theorem pv_and2_f {a b : Expr} {pos : Pos} (h1 : PV X m news Γ a (· = .bool false)) : PV X m news Γ (.BoolOp .And [a, b] pos) (· = .bool false) := by
  intro E s y
  repeat' walk1
  refine wpAny_mono (h1 _ _ (by assumption)) (fun v s1 q => ?_) fun _ _ x => x
  obtain ⟨rfl, y1⟩ := q
  repeat' walk1
  all_goals first | exact ⟨rfl, y1⟩ | rfl | exact y1
theorem pb_bool {x : Str} {pos : Pos} {b : Bool} (hx : m x = some (.bool b)) (hl : X.env.kindOf x = some .local := by rfl) (hd : (x == ("__debug__" : Str)) = false := by decide)
    (hi : ∀ whole, isTrue (.Name x pos) X.env whole = (do let v ← whole; standAt (Expr.pos (.Name x pos)); holding [v] (truthy v)) := by intro _; rfl) : PB X m news Γ (.Name x pos) b := fun E s y =>
  wpAny_isTrue_value (wpAny_mono (pv_loc hx hl hd _ s y) (fun v s' q => by obtain ⟨rfl, y'⟩ := q; exact wpAny_truthy_bool ⟨rfl, y'⟩) fun _ _ x => x) (hi _)
theorem pv_ifexp {t a b : Expr} {pos : Pos} {vp : Value → Prop} (r : Bool) (h1 : PB X m news Γ t r) (h : PV X m news Γ (bif r then a else b) vp) : PV X m news Γ (.IfExp t a b pos) vp := fun E s y => ev_ifexp r h1 y fun s' y' => h E s' y'
theorem y_try {body rest : List Stmt} {hd : ExceptHandler} {hs : List ExceptHandler} {pos : Pos} {Q : Flow → Shared → Prop}
    (h : wpAny (model X.prog X.w) X.A (execs body X.env) (KIf X rest Q E)
      (fun e s₁ => wpAny (model X.prog X.w) X.A (noteFrame e X.env) (fun _ s₂ => wpAny (model X.prog X.w) X.A (setFlight e none) (fun _ s₃ => wpAny (model X.prog X.w) X.A (handleBy e X.env (hd :: hs)) (KIf X rest Q E) E s₃) E s₂) E s₁) s) :
    wpAny (model X.prog X.w) X.A (execs (.Try body (hd :: hs) [] [] pos :: rest) X.env) Q E s := by
  walk1
  refine wpAny_Try_except (wpAny_mono h (fun f s₁ h₁ => ?_) fun _ _ x => x)
  cases f with
  | next => exact y_nil h₁
  | _ => exact h₁
/-- isinstance(nx, tuple) and nx[:1] in ((W1,), (W2,)) -/
theorem pb_tag2 {nx W1 W2 : Str} {k k2 k3 k4 k5 k6 : Nat} {p0 p1 p2 p3 p4 p5 p6 p7 p8 p9 p10 p11 p12 p13 p14 : Pos} {x : Value} {v : V} (hx : m nx = some x) (hv : VR (Or (Gt X.g) Γ) x v.py) (b : Bool) (hb : (!v.isInt && (v.hdw == W1 || v.hdw == W2)) = b) (hW1 : PyData.canLay0 (.str W1) = true) (hW2 : PyData.canLay0 (.str W2) = true)
    (h0 : X.env.kindOf nx = some .local := by rfl) (hdb : (nx == ("__debug__" : Str)) = false := by decide) (h1 : X.env.kindOf "isinstance" = some .globalImplicit := by rfl) (h2 : X.env.kindOf "tuple" = some .globalImplicit := by rfl) :
    PB X m news Γ (.BoolOp .And [.Call (.Name (Str.ofString "isinstance") p1) [.Name nx p0, .Name (Str.ofString "tuple") p2] [] p3,
      .Compare (.Subscript (.Name nx p4) (.Slice none (some (.Constant (.int 1) k p5)) none p6) p7) [.In] [.Tuple [.Tuple [.Constant (.str W1) k2 p8] k3 p9, .Tuple [.Constant (.str W2) k4 p12] k5 p13] k6 p14] p10] p11) b := by
  rcases v.two with ⟨i, rfl⟩ | ⟨hi, d, rest, e⟩
  · refine (VR.iI hv).elim fun u ex => ?_
    rw [ex] at hx
    rw [show b = false from hb.symm]
    exact pb_and2_f (pb_isi_f (pv_loc hx h0 hdb) h1 h2)
  · rw [hi] at hb
    simp only [Bool.not_false, Bool.true_and] at hb
    refine ex5 (VR.hdp (e ▸ hv)) fun t o n u vs k => an5 k fun ex q1 q2 q3 r => ex2 r.cI fun d0 ys l => ?_
    rw [l.1] at q3
    rw [ex] at hx
    have tt : TT X.g Γ _ _ := TT.mk q1 q2 q3
    clear k l
    refine pb_and2_tr (pb_isi_t (pv_loc hx h0 hdb) tt h1 h2) (fun E s y => ?_)
    refine wpAny_isTrue_Compare1 (ev_head hx tt y (fun t1 s1 y1 => ev_tup2E (ev_tup (pvs1 pv_str) y1 (Nat.le_of_ble_eq_true rfl) (fun vs e => by obtain ⟨_, rfl, _⟩ := e; rfl) fun vs t2 s2 e2 y2 => ev_tup (pvs1 pv_str) y2 (Nat.le_of_ble_eq_true rfl) (fun vs e => by obtain ⟨_, rfl, _⟩ := e; rfl) fun vs3 t3 s3 e3 y3 => ⟨_, _, _, y3, fun t4 s4 y4 => ?_⟩)) h0 hdb)
    obtain ⟨_, rfl, ⟨_, rfl⟩⟩ := e2
    obtain ⟨_, rfl, ⟨_, rfl⟩⟩ := e3
    refine z_in b y4.z (VR.tup (.head _) (.cons (VR.tup (.tail _ (.tail _ (.head _))) (.cons (.str _ _) .nil)) (.cons (VR.tup (.tail _ (.head _)) (.cons (.str _ _) .nil)) .nil))) (VR.tup (.tail _ (.tail _ (.tail _ (.head _)))) (.cons (.str _ _) .nil)) ?_ ?_ ?_ y4.ok.hu ?_ ?_
    · simp only [PyData.canLayAll0, PyData.canLay0, Bool.and_true] at hW1 hW2 ⊢; rw [hW1, hW2]; rfl
    · have := hdw_lay v
      simp only [PyData.canLayAll0, PyData.canLay0, Bool.and_true] at this ⊢; exact this
    · simp [PyData.depthAll, PyData.depth]
    · simp only [List.any_cons, List.any_nil, PyData.eqv, PyData.eqvAll, Bool.and_true, Bool.or_false]
      rw [← hb, Bool.beq_comm (a := v.hdw) (b := W1), Bool.beq_comm (a := v.hdw) (b := W2)]
    · exact wpAny_truthy_bool ⟨rfl, y4.to (t := s4.toks) y4.z.pushG_drop.pushG_drop.pushG_drop.pushG_drop⟩
end
end Mine
end
section
open PySem PySem.W PySem.Calls PyProof.Rows PySem.Spec
set_option Elab.async false
set_option maxRecDepth 100000
set_option maxHeartbeats 4000000
set_option linter.unusedVariables false
namespace Mine
/-- behind a call that may have caught an exception: the frames around it may differ in their slots -/
structure KeptF (fs : List Addr) (h₀ : Heap) (ks : List (Addr × Obj)) (h h' : Heap) (ks' : List (Addr × Obj)) : Prop where
  keep : ∀ a o, h.get? a = some o → a ∉ ks.map (·.1) → a ∉ fs → h'.get? a = some o
  slot : ∀ a o, h.get? a = some o → a ∈ fs → ∃ sl, h'.get? a = some { o with slots := sl }
  own : Own h₀ h' ks'
  fresh : ∀ p ∈ ks', p.1 ∈ ks.map (·.1) ∨ h.get? p.1 = none
theorem Kept.toF {fs : List Addr} {h₀ h h' : Heap} {ks ks' : List (Addr × Obj)} (k : Kept h₀ ks h h' ks') (hf : ∀ b ∈ fs, b ∉ ks.map (·.1)) : KeptF fs h₀ ks h h' ks' :=
  ⟨fun a o e n _ => k.keep a o e n, fun a o e m => ⟨o.slots, k.keep a o e (hf a m)⟩, k.own, k.fresh⟩
theorem KeptF.of_turn {fs : List Addr} {h₀ g g' h h' : Heap} {L : Addr} {m' : Str → Option Value} {ks news ks' Γ : List (Addr × Obj)} (T : KtsTurn fs g g') (F : Fr g' L h' m') (N' : News g' L h' (news ++ Γ)) (N0 : ∀ p ∈ ks', g.get? p.1 = none) (h0 : h₀.StaysIn g) (hin : ∀ a o, h.get? a = some o → a ∉ ks.map (·.1) → g.get? a = some o)
    (hf : ∀ b ∈ fs, b ∉ ks.map (·.1)) (hs : ∀ p ∈ ks', p ∈ news) (no : ∀ p ∈ ks', ¬ IsT p.2) (nd : (ks'.map (·.1)).Nodup) : KeptF fs h₀ ks h h' ks' := by
  refine ⟨fun a o e n m => F.keep _ _ (T.other _ _ (hin a o e n) m), fun a o e m => ?_, ⟨fun p hp => (N' p (List.mem_append_left _ (hs p hp))).1, fun p hp => ?_, no, nd⟩, fun p hp => ?_⟩
  · obtain ⟨sl, hsl⟩ := T.frame _ _ (hin a o e (hf a m)) m
    exact ⟨sl, F.keep _ _ hsl⟩
  · exact kts_none h0 (N0 p hp)
  · by_cases q : p.1 ∈ ks.map (·.1)
    · exact .inl q
    · refine .inr ?_
      cases e : h.get? p.1 with
      | none => rfl
      | some o => have := N0 p hp; rw [hin _ _ e q] at this; cases this
theorem tag_loose {v : V} (h : (!v.isInt && (v.hdw == Str.ofString "weak" || v.hdw == Str.ofString "unowned")) = true) : v = .weak0 ∨ ∃ u k, v = .soft u k := by
  cases v with
  | weak0 => exact .inl rfl
  | soft u k => exact .inr ⟨u, k, rfl⟩
  | hold k n => cases k <;> exact absurd h (by dsimp only [V.hdw, V.isInt]; decide +kernel)
  | _ => exact absurd h (by dsimp only [V.hdw, V.isInt]; decide +kernel)
section
variable {X : Fn} {m : Str → Option Value} {news Γ : List (Addr × Obj)} {E : Value → Shared → Prop} {s : Shared}
theorem pv_gti {a b : Expr} {pos : Pos} {x z : Int} {r : Bool} (h1 : PV X m news Γ a (IsI x)) (h2 : PV X m news Γ b (IsI z)) (h : decide (z < x) = r) (hm : behindInMarks .Gt b = false := by with_unfolding_all rfl) : PV X m news Γ (.Compare a [.Gt] [b] pos) (· = .bool r) :=
  pv_cmp h1 h2 (fun _ _ s E q1 q2 y => by obtain ⟨t, rfl⟩ := q1; obtain ⟨u, rfl⟩ := q2; exact z_gti r h ⟨rfl, y⟩) hm
theorem pv_eqs {a b : Expr} {pos : Pos} {x z : Str} {r : Bool} (h1 : PV X m news Γ a (IsS x)) (h2 : PV X m news Γ b (IsS z)) (h : (x == z) = r) (hm : behindInMarks .Eq b = false := by with_unfolding_all rfl) : PV X m news Γ (.Compare a [.Eq] [b] pos) (· = .bool r) :=
  pv_cmp h1 h2 (fun _ _ s E q1 q2 y => by obtain ⟨t, rfl⟩ := q1; obtain ⟨u, rfl⟩ := q2; exact z_eqs r h ⟨rfl, y⟩) hm
theorem y_tryG {body rest : List Stmt} {hd : ExceptHandler} {hs : List ExceptHandler} {pos : Pos} {Q : Flow → Shared → Prop} {G : Shared → Prop} (hG : ∀ s, G s → wpAny (model X.prog X.w) X.A (execs rest X.env) Q E s)
    (h : wpAny (model X.prog X.w) X.A (execs body X.env) (fun f s₁ => match f with | .next => G s₁ | f => Q f s₁)
      (fun e s₁ => wpAny (model X.prog X.w) X.A (noteFrame e X.env) (fun _ s₂ => wpAny (model X.prog X.w) X.A (setFlight e none) (fun _ s₃ => wpAny (model X.prog X.w) X.A (handleBy e X.env (hd :: hs)) (fun f s' => match f with | .next => G s' | f => Q f s') E s₃) E s₂) E s₁) s) :
    wpAny (model X.prog X.w) X.A (execs (.Try body (hd :: hs) [] [] pos :: rest) X.env) Q E s := by
  refine y_try (wpAny_mono h (fun f s₁ h₁ => ?_) fun e s₁ h₁ => wpAny_mono h₁ (fun _ s₂ h₂ => wpAny_mono h₂ (fun _ s₃ h₃ => wpAny_mono h₃ (fun f s₄ h₄ => ?_) fun _ _ x => x) fun _ _ x => x) fun _ _ x => x)
  · cases f with
    | next => exact hG _ h₁
    | _ => exact h₁
  · cases f with
    | next => exact hG _ h₄
    | _ => exact h₄
end
end Mine
end
section
open PySem PySem.W PySem.Calls PyProof.Rows PySem.Spec
set_option Elab.async false
set_option maxRecDepth 100000
set_option maxHeartbeats 4000000
set_option linter.unusedVariables false
namespace Mine
section
variable {prog : Program} {w : World} {K : Frag} {A : Around} {E : Value → Shared → Prop} {s : Shared} {h₀ : Heap} {P : Addr → Obj → Prop} {b a c o : Addr} {pb : BP} {ph : HP} {H : H} {held : List V} {wks hks bks : List (Addr × Obj)} {Q : Value → Shared → Prop}
theorem loose_spec {D M n : Nat} {outer : List Env} (C : Cx K h₀) (KT : KTrap K) (hk : h₀.StaysIn s.heap) (hh : A.handled = none) (hd : A.depth < 650) (hu : A.units < 5500) (fr : Frs h₀ A outer s.heap (wks ++ (hks ++ bks))) (hP : ∀ a o, P a o → s.heap.get? a = some o) (O : Own h₀ s.heap (wks ++ (hks ++ bks))) (W : WRep prog w a c wks) (R : HRep prog w P o ph H hks) (B : BRep prog w P b pb H held bks)
    (N : Bnd D M n H held) (h1D : 1 ≤ D) (hD : D ≤ 50) (hM : M ≤ 2 ^ 21) (hn : n ≤ 59)
    (hQ : ∀ ph' pb' H' held' wks' hks' bks' h' t' Γ, KeptF (outer.filterMap (·.frame)) h₀ (wks ++ (hks ++ bks)) s.heap h' (wks' ++ (hks' ++ bks')) → TupL s.heap h' Γ → WRep prog w a c wks' → HRep prog w P o ph' H' hks' → BRep prog w (Or P Γ) b pb' H' held' bks' → Bnd D (M + 1) (n + 1) H' held' → Q (.bool true) { s with heap := h', toks := t' }) :
    wpAny (model prog w) A (call (.ref 324) [.ref a, .ref o, .ref b]) Q E s := by
  refine enterB (binds := [(Str.ofString "well", .ref a), (Str.ofString "heap", .ref o), (Str.ofString "book", .ref b)]) C hk hh (Nat.lt_trans hu (by decide)) O C.KF.f324 rfl (Nat.lt_trans hd (by decide)) (fun _ _ _ => BindsTo.of_eq rfl) (locs rfl) rfl rfl rfl (by decide) ?_
  intro g L h₁ tk cdv X m0 y h0 hL hin
  have bel := fr.below h0 hin
  have hPg := gt_of O hin hP
  have hX0 : X.A.handled = none := hh
  have hX1 : X.A.depth = A.depth + 1 := rfl
  have hX2 : X.A.units = A.units + 3 := rfl
  refine ex7 B.hd fun ob ot on hls ql cc c2 bh => ?_
  refine ex4 R.hd fun es n0 od lv hd0 => ?_
  have hll : hls.length = held.length := by simpa using bh.hh.length
  have hnl := N.hl
  have hS : sizeLine = 16777216 := rfl
  have fin : ∀ {wk hk bk : List (Addr × Obj)} {Γ' : List (Addr × Obj)} {s' : Shared} {m' : Str → Option Value} {H' : Mine.H} {held' : List V} {ph' : HP} {pb' : BP}, Y X m' (wk ++ (hk ++ bk)) Γ' s' → WRep prog w a c wk → HRep prog w P o ph' H' hk → BRep prog w (Or P Γ') b pb' H' held' bk → Bnd D (M + 1) (n + 1) H' held' → Q (.bool true) s' := fun y' W' R' B' N' => by
    rw [y'.e]
    exact hQ _ _ _ _ _ _ _ _ _ _ ((y'.kept h0 hin (List.Sublist.refl _) (three_noT W' R' B')).toF fr.off) (y'.z.tupL hL) W' R' B' N'
  have iB : ∀ {q : Addr × Obj} {wk hk bk : List (Addr × Obj)}, q ∈ bk → q ∈ wk ++ (hk ++ bk) := fun h => List.mem_append_right _ (List.mem_append_right _ h)
  have iH : ∀ {q : Addr × Obj} {wk hk bk : List (Addr × Obj)}, q ∈ hk → q ∈ wk ++ (hk ++ bk) := fun h => List.mem_append_right _ (List.mem_append_left _ h)
  have iE : ∀ {q : Addr × Obj} {l bk : List (Addr × Obj)}, q ∈ bk → q ∈ l ++ bk := fun h => List.mem_append_right _ h
  -- way, number
  refine y_asgT2 (ev_tup2E (ev_call y.ok.C.g_law_draw y.ok.C.k_law_draw (pvs2 (pv_loc rfl) pv_int) y fun vs s1 e1 y1 => ?_))
  refine ex2 e1 fun _ v1 hKK => an3 hKK fun hE37 hE38 e2 => ?_; clear e1 hKK; subst hE37 hE38
  have y2 := Y.mid (a := []) (b := wks) (c := hks ++ bks) y1
  refine draw_spec y2.ok.C y2.st hX0 (lvA hX1 hd) (lvC hX2 hu) (y2.own W.noT) W e2 (by decide) (by decide) ?_
  intro r i wk1 h' t' kk W1 hr hi0 hi1
  have y3 : Y X _ (wk1 ++ (hks ++ bks)) _ _ := Y.unmid (a := []) (b := wk1) (c := hks ++ bks) (y2.callK (t' := t') W.noT kk)
  clear kk
  refine ev_call y3.ok.C.g_law_live_ref y3.ok.C.k_law_live_ref (pvs2 (pv_loc rfl) (pv_loc rfl)) y3 fun vs s4 e4 y4 => ?_
  obtain rfl := Va2.eq e4
  have y5 := Y.out (a := []) (b := wk1) (c := hks) (d := bks) y4
  refine live_ref_spec (P := Tp P) y5.ok.C y5.st hX0 (lvA hX1 hd) (lvC hX2 hu) (fun a o q => y5.z.old (hPg a o q.2 q.1)) (y5.own (both_noT W1 B)) W1 B.tp (n_t hnl (n_t hn (n_b rfl))) (fun k hm => by obtain ⟨t, ht, _⟩ := N.alive hm (k := k) rfl; exact (List.getElem?_eq_some_iff.mp ht).1) ?_
  intro r2 wk2 h' t' Γ1 kk tl W2 hr2
  have y6 : Y X _ (wk2 ++ (hks ++ bks)) _ _ := Y.inn (a := []) (b := wk2) (c := hks) (d := bks) (y5.calls (t' := t') (y5.own (both_noT W1 B)) kk tl)
  refine ⟨_, _, _, y6, fun t1 s7 y7 => ⟨t1, _, _, _, _, _, rfl, TT.mk (.inr (.head _)) rfl rfl, y7, fun s8 y8 => ?_⟩⟩
  clear kk tl y1 y2 y3 y4 y5 y6 y7
  generalize hΓ8 : (t1, tupO [r, r2]) :: (Γ1 ++ []) = Γ8 at y8
  -- behind an append
  have tail : ∀ {v : V} {Wd : Str} {z : Int} {nv x : Value} {H' : Mine.H} {hk bk Γ' : List (Addr × Obj)} {ph' : HP} {m' : Str → Option Value} {s' : Shared} {Qf : Flow → Shared → Prop} {Ef : Value → Shared → Prop} {k1 k2 k3 k4 k5 k6 k7 : Nat} {p1 p2 p3 p4 p5 p6 p7 p8 p9 p10 p11 p12 p13 p14 p15 p16 p17 p18 p19 p20 p21 p22 : Pos},
      (∀ s', Q (.bool true) s' → Qf (.ret (.bool true)) s') → v.py = .tuple [.str Wd, .int z] → IsI z nv → m' "book" = some (.ref b) → m' "number" = some nv → Y X m' ((wk2 ++ hk) ++ bk) Γ' s' → HRep prog w (Tp P) o ph' (H.links v.links 1) hk → BRep prog w (Or (Tp P) Γ') b pb H (held ++ [v]) bk → Bnd D (M + 1) (n + 1) (H.links v.links 1) (held ++ [v]) → v.dep ≤ 1 → v.size ≤ 1 → (∀ l ∈ v.links, ∃ t, H.ts[l.2]? = some t) →
      wpAny (model X.prog X.w) X.A (execs [.Expr (.Call (.Name (Str.ofString "_law_more") p1) [.Name (Str.ofString "book") p2, .Subscript (.Subscript (.Name (Str.ofString "book") p3) (.Constant (.str (Str.ofString "held")) k1 p4) p5) (.UnaryOp .USub (.Constant (.int 1) k2 p6) p7) p8, .Constant (.int 1) k3 p9] [] p10) p11,
        .Return (some (.Compare (.Subscript (.Subscript (.Name (Str.ofString "book") p12) (.Constant (.str (Str.ofString "held")) k4 p13) p14) (.UnaryOp .USub (.Constant (.int 1) k5 p15) p16) p17) [.Eq] [.Tuple [.Constant (.str Wd) k6 p18, .Name (Str.ofString "number") p19] k7 p20] p21)) p22] X.env)
        Qf Ef s' := by
    intro v Wd z nv x H' hk bk Γ' ph' m' s' Qf Ef k1 k2 k3 k4 k5 k6 k7 p1 p2 p3 p4 p5 p6 p7 p8 p9 p10 p11 p12 p13 p14 p15 p16 p17 p18 p19 p20 p21 p22 hQf hpy hnv mb mn y1 R1 B1 N1 hvd hvs hvl
    refine ex7 B1.hd fun ob1 ot1 on1 hl1 ql1 cc1 c21 bh1 => ?_
    have hh1 := bh1.hh
    rw [List.map_append] at hh1
    refine ctr fun hG178 => ?_; obtain ⟨ws, xv, rfl, hws, hxv⟩ := hh1.snoc; refine hG178 ?_; clear hG178
    have hwl : ws.length = held.length := by simpa using hws.length
    refine y_expr (ev_call y1.ok.C.g_law_more y1.ok.C.k_law_more (pvs3 (pv_loc mb) (pv_last (pv_dstr (pv_loc mb) (iE bh1.m1) bh1.hob) (iE bh1.m4) (n_e hwl (n_t hnl (n_t hn (n_b rfl))))) pv_int) y1 fun vs s2 e2 y2 => ?_)
    refine ex3 e2 fun _ _ st hKK => an4 hKK fun hE39 hE40 hE41 e3 => ?_; clear e2 hKK; subst hE39 hE40 hE41
    refine more_spec (P := Or (Tp P) Γ') (P1 := Or (Tp P) Γ') y2.ok.C y2.st hX0 (lvA hX1 hd) (lvC hX2 hu) (y2.rd hPg) hxv (n_t hvd (n_b rfl)) (n_t hvs (n_b rfl)) (y2.own B1.noT) B1 hvl e3 ?_
    intro bk2 h' t' Γ2 kk tl B2
    have y3 := y2.calls (t' := t') (y2.own B1.noT) kk tl
    refine ex7 B2.hd fun ob2 ot2 on2 hl2 ql2 cc2 c22 bh2 => ?_
    have hh2 := bh2.hh
    rw [List.map_append] at hh2
    refine ctr fun hG181 => ?_; obtain ⟨ws2, xv2, rfl, hws2, hxv2⟩ := hh2.snoc; refine hG181 ?_; clear hG181
    have hwl2 : ws2.length = held.length := by simpa using hws2.length
    refine y_reteff (ev_cmpE (ev_pvq (pv_last (pv_dstr (pv_loc mb) (iE bh2.m1) bh2.hob) (iE bh2.m4) (n_e hwl2 (n_t hnl (n_t hn (n_b rfl))))) y3 fun s4 y4 => ev_tup (pvs2 pv_str (pv_loc mn)) y4 (show 2 ≤ 1000 from by decide) (fun vs e => by obtain ⟨_, _, rfl, _⟩ := e; rfl) fun vs t5 s5 e5 y5 => ?_))
    refine ctr fun hG182 => ?_; obtain ⟨_, _, rfl, ⟨u5, rfl⟩, rfl⟩ := e5; refine hG182 ?_; clear hG182
    obtain ⟨zt, rfl⟩ := hnv
    have hlay := V.lay v
    have hsh := shaped_of hlay (n_suc (n_lt (n_t hvd (Nat.le_refl _)) (n_bl rfl)))
    refine z_eq true y5.z (hxv2.mono2 fun a o t h => h.imp (fun q => hPg a o q.2 q.1) fun h => .tail _ (List.mem_append_right _ h)) (by rw [hpy]; exact VR.tup (.head _) (.cons (.str _ _) (.cons (.int _ _) .nil))) hsh hsh y5.ok.hu (eqv_refl0 _ hlay.1) ?_
    refine hQf _ ?_
    exact fin (Y.uas y5) W2 R1.pt (B2.mono fun _ _ _ h => h.imp (fun h => h.1) fun h => .tail _ (List.mem_append_right _ h)) N1
  by_cases hw0 : i = 0
  · refine y_if_t (pb_eqi ((pv_loc up_hit).mono fun v e => by subst e; exact hr) pv_int (by rw [hw0]; rfl)) y8 fun s9 y9 => ?_
    refine y_expr (ev_lm1 (pv_dstr (pv_loc (up_skip (up_skip rfl))) (iB bh.m1) bh.hob) (iB bh.m4) PySem.F.slot_list_append rfl y9 fun s10 y10 => ev_meth (pv_loc (up_skip (up_skip rfl))) (iH hd0.m1) (iH hd0.m2) hd0.er y10.ok.C.m_weak_to y10.ok.C.n_weak_to y10.ok.C.km_weak_to (pvs1 (pv_loc (up_skip up_hit))) y10 fun vs s11 e11 y11 => ?_)
    obtain rfl := Va1.eq e11
    have y12 := Y.mid (a := wk2) (b := hks) (c := bks) y11
    rcases hr2 with h2 | ⟨k, t, h2, hmem, ht, hlv⟩
    · refine weak_to0_spec (P := Tp P) y12.ok.C y12.st hX0 (lvA hX1 hd) (lvC hX2 hu) (y12.own R.noT) R.tp h2 fun x h' t' Γ2 kk tl hx => ?_
      have y13 := Y.asc (a := wk2) (b := hks) (c := bks) (Y.unmid (a := wk2) (b := hks) (c := bks) (y12.calls (t' := t') (y12.own R.noT) kk tl))
      refine held_push (Pq := Tp P) (v := .weak0) y13 (B.tp.mono fun _ _ _ h => .inl h) (hx.mono2 fun a o t h => h.elim False.elim fun h => .inr (List.mem_append_left _ h)) (n_t hnl (n_t hn (n_b rfl))) fun s14 bk2 B2 y14 => ?_
      exact tail (v := .weak0) (z := 0) (x := x) (H' := H) (fun _ h => h) rfl h2 (up_skip (up_skip rfl)) (up_skip up_hit) y14 R.tp B2 (N.plain rfl h1D (Nat.le_refl _)) (Nat.le_refl _) (Nat.le_refl _) (fun _ h => nomatch h)
    · refine weak_to_spec (P := Tp P) y12.ok.C y12.st hX0 (lvA hX1 hd) (lvC hX2 hu) (y12.own R.noT) R.tp ht h2 fun x hk2 h' t' Γ2 kk tl hx R2 => ?_
      have y13 := Y.asc (a := wk2) (b := hk2) (c := bks) (Y.unmid (a := wk2) (b := hk2) (c := bks) (y12.calls (t' := t') (y12.own R.noT) kk tl))
      refine held_push (Pq := Tp P) (v := .soft false k) y13 (B.tp.mono fun _ _ _ h => .inl h) (hx.mono2 fun a o t h => h.elim False.elim fun h => .inr (List.mem_append_left _ h)) (n_t hnl (n_t hn (n_b rfl))) fun s14 bk2 B2 y14 => ?_
      exact tail (v := .soft false k) (z := (k : Int) + 1) (x := x) (H' := H) (fun _ h => h) rfl h2 (up_skip (up_skip rfl)) (up_skip up_hit) y14 R2 B2 (N.link ⟨t, ht, fun h => nomatch h⟩ rfl h1D (Nat.le_refl _)) (Nat.le_refl _) (Nat.le_refl _) (fun l hl => by rw [List.mem_singleton.mp hl]; exact ⟨t, ht⟩)
  · refine y_if_f (pb_eqi ((pv_loc up_hit).mono fun v e => by subst e; exact hr) pv_int (by simpa using hw0)) y8 fun s9 y9 => ?_
    by_cases hw1 : i = 1 ∧ ¬ IsI 0 r2
    · rcases hr2 with h2 | ⟨k, t, h2, hmem, ht, hlv⟩
      · exact absurd h2 hw1.2
      refine y_if_t (pb_and2_tr (pb_eqi ((pv_loc up_hit).mono fun v e => by subst e; exact hr) pv_int (by rw [hw1.1]; rfl)) (pb_gti ((pv_loc (up_skip up_hit)).mono fun v e => by subst e; exact h2) pv_int (decide_eq_true (n_k1)))) y9 fun s9 y9 => ?_
      refine y_expr (ev_lm1 (pv_dstr (pv_loc (up_skip (up_skip rfl))) (iB bh.m1) bh.hob) (iB bh.m4) PySem.F.slot_list_append rfl y9 fun s10 y10 => ev_meth (pv_loc (up_skip (up_skip rfl))) (iH hd0.m1) (iH hd0.m2) hd0.er y10.ok.C.m_unowned_to y10.ok.C.n_unowned_to y10.ok.C.km_unowned_to (pvs1 (pv_loc (up_skip up_hit))) y10 fun vs s11 e11 y11 => ?_)
      obtain rfl := Va1.eq e11
      have y12 := Y.mid (a := wk2) (b := hks) (c := bks) y11
      refine unowned_to_spec (P := Tp P) y12.ok.C y12.st hX0 (lvA hX1 hd) (lvC hX2 hu) (y12.own R.noT) R.tp ht h2 (fun e => by rw [e] at hlv; cases hlv) fun x hk2 h' t' Γ2 kk tl hx R2 => ?_
      have y13 := Y.asc (a := wk2) (b := hk2) (c := bks) (Y.unmid (a := wk2) (b := hk2) (c := bks) (y12.calls (t' := t') (y12.own R.noT) kk tl))
      refine held_push (Pq := Tp P) (v := .soft true k) y13 (B.tp.mono fun _ _ _ h => .inl h) (hx.mono2 fun a o t h => h.elim False.elim fun h => .inr (List.mem_append_left _ h)) (n_t hnl (n_t hn (n_b rfl))) fun s14 bk2 B2 y14 => ?_
      exact tail (v := .soft true k) (z := (k : Int) + 1) (x := x) (H' := H) (fun _ h => h) rfl h2 (up_skip (up_skip rfl)) (up_skip up_hit) y14 R2 B2 (N.link ⟨t, ht, fun h => nomatch h⟩ rfl h1D (Nat.le_refl _)) (Nat.le_refl _) (Nat.le_refl _) (fun l hl => by rw [List.mem_singleton.mp hl]; exact ⟨t, ht⟩)
    · refine y_if_f ?pb y9 fun s10 y10 => ?_
      case pb =>
        by_cases h1 : i = 1
        · have h2 : IsI 0 r2 := Classical.byContradiction fun h => hw1 ⟨h1, h⟩
          exact pb_and2_tr (pb_eqi ((pv_loc up_hit).mono fun v e => by subst e; exact hr) pv_int (by rw [h1]; rfl)) (pb_gti ((pv_loc (up_skip up_hit)).mono fun v e => by subst e; exact h2) pv_int (by decide))
        · exact pb_and2_f (pb_eqi ((pv_loc up_hit).mono fun v e => by subst e; exact hr) pv_int (by simpa using h1))
      clear tail y8 y9 hr2 hw0 hw1
      have noT : ∀ q ∈ wk2 ++ (hks ++ bks), ¬ IsT q.2 := three_noT W2 R B
      refine y_asgcomp (cl := []) (ev_pvq (pv_dstr (pv_loc (up_skip (up_skip rfl))) (iB bh.m1) bh.hob) y10 fun s11 y11 => ?_) rfl
      let J11 : Nat → List Value → List (Addr × Obj) → List (Addr × Obj) → Prop := fun i ys nw Γ' => nw = wk2 ++ (hks ++ bks) ∧ ys.length ≤ i ∧ i ≤ hls.length ∧ ∃ vs : List V, VRs (Tp P) ys (vs.map V.py) ∧ ∀ v ∈ vs, v ∈ held ∧ (!v.isInt && (v.hdw == Str.ofString "weak" || v.hdw == Str.ofString "unowned")) = true
      refine comp_list (l := pb.h) (n := hls.length) (J := J11) y11 noT
        ⟨rfl, Nat.zero_le _, Nat.zero_le _, [], .nil, fun _ h => nomatch h⟩ (fun i ys nw Γ' h => ⟨by rw [h.1]; exact noT, by have := h.2.1; have := h.2.2.1; exact n_t h.2.1 (n_t h.2.2.1 (n_e hll (n_t hnl (n_t hn (n_b rfl)))))⟩) ?_ (fin_asg rfl ?_)
      · intro i ys nw Γ' hJJ; refine ctr fun hG183 => ?_; obtain ⟨rfl, hy1, hy2, vs, hvs, hvm⟩ := hJJ; refine hG183 ?_; clear hG183
        refine ⟨_, _, iB bh.m4, by simp, fun b' g' C' I oI D dc m' v s2 E2 hgT hlt hv y2 => ?_⟩
        have hv' : hls[i]? = some v := by simpa using hv
        obtain ⟨u', hu1, hu2⟩ := bh.hh.get (i := i) (d := (held[i]'(n_ls hlt (Nat.le_of_eq hll))).py) (by simp [show i < held.length by exact n_ls hlt (Nat.le_of_eq hll)])
        rw [hv'] at hu1; cases hu1
        have hug : VR (Gt g') v (held[i]'(n_ls hlt (Nat.le_of_eq hll))).py := hu2.mono2 fun a o t h => hgT a o t (.inl (hPg a o t h))
        refine tests1 y2 (pb_tag2 up_hit hug.inl _ rfl (by decide +kernel) (by decide +kernel)) fun s3 y3 => ?_
        cases hT : (!(held[i]'(n_ls hlt (Nat.le_of_eq hll))).isInt && ((held[i]'(n_ls hlt (Nat.le_of_eq hll))).hdw == Str.ofString "weak" || (held[i]'(n_ls hlt (Nat.le_of_eq hll))).hdw == Str.ofString "unowned")) with
        | false =>
          rw [if_neg Bool.false_ne_true]
          exact ⟨_, _, _, y3, rfl, by exact n_r hy1, by exact n_suc hlt, vs, hvs, hvm⟩
        | true =>
          rw [if_pos rfl]
          refine ev_pvq (X := X.comp _ _ b' g' C') (pv_loc up_hit) y3 fun s4 y4 => ?_
          refine ⟨_, _, _, y4, rfl, by simp; exact hy1, by exact n_suc hlt, vs ++ [held[i]'(n_ls hlt (Nat.le_of_eq hll))], ?_, fun z hz => ?_⟩
          · rw [List.map_append]
            exact hvs.append (.cons (hu2.mono2 fun a o t h => ⟨h, t⟩) .nil)
          · rcases List.mem_append.mp hz with hz | hz
            · exact hvm z hz
            · rw [List.mem_singleton.mp hz]; exact ⟨List.getElem_mem _, hT⟩
      · intro ys nw Γ' D1 dc s12 hJJ; refine ctr fun hG184 => ?_; obtain ⟨rfl, hy1, hy2, vs, hvs, hvm⟩ := hJJ; refine hG184 ?_; clear hG184; intro y12
        have lay := vals_lay vs 50 fun u hu => Nat.le_trans (N.hd u (hvm u hu).1) hD
        have hvl : ys.length = vs.length := by simpa using hvs.length
        have hPs : ∀ {news Γ m s'}, Y X m news Γ s' → ∀ a o, Tp P a o → s'.heap.get? a = some o := fun y' a o h => y'.z.old (hPg a o h.2 h.1)
        cases ys with
        | nil =>
          refine y_if_t (pb_nil (op := .Eq) true (pv_loc up_hit) (.head _) (fun s' y' => hPs y') hvs lay.1 (Nat.le_trans lay.2 (by decide)) (.inl ⟨rfl, by cases vs with | nil => rfl | cons a b => simp at hvl⟩)) y12 fun s13 y13 => ?_
          refine y_ret pv_bool y13 fun v s14 e14 y14 => ?_
          subst e14
          exact fin (y14.sub (List.sublist_cons_self _ _)) W2 R (B.mono fun _ _ _ h => .inl h) (N.mono (Nat.le_refl _) (Nat.le_succ _) (Nat.le_succ _))
        | cons z0 zr =>
          refine y_if_f (pb_nil (op := .Eq) false (pv_loc up_hit) (.head _) (fun s' y' => hPs y') hvs lay.1 (Nat.le_trans lay.2 (by decide)) (.inl ⟨rfl, by cases vs with | nil => simp at hvl | cons a b => rfl⟩)) y12 fun s13 y13 => ?_
          refine y_asgeff (ev_itemE (ev_pvq (pv_loc up_hit) y13 fun s14 y14 => ev_call y14.ok.C.g_law_draw y14.ok.C.k_law_draw (pvs2 (pv_loc (up_skip (up_skip (up_skip rfl)))) (pv_len (pv_loc up_hit) (.head _) (n_t hy1 (n_e hll (n_t hnl (n_t hn (n_b rfl))))))) y14 fun vs' s15 e15 y15 => ?_))
          refine ex2 e15 fun _ v2 hKK => an3 hKK fun hE42 hE43 e2' => ?_; clear e15 hKK; subst hE42 hE43
          have y16 := Y.mid (a := [(D1, listOf (z0 :: zr).toArray dc)]) (b := wk2) (c := hks ++ bks) y15
          refine draw_spec y16.ok.C y16.st hX0 (lvA hX1 hd) (lvC hX2 hu) (y16.own W2.noT) W2 e2' (by simp only [List.length_cons]; exact n_k2) (n_cm (n_t hy1 (n_e hll (n_t hnl (n_t hn (Nat.le_refl _))))) rfl) ?_
          intro r3 j wk3 h' t' kk W3 hr3 hj0 hj1
          have y17 := Y.unmid (a := [(D1, listOf (z0 :: zr).toArray dc)]) (b := wk3) (c := hks ++ bks) (y16.callK (t' := t') W2.noT kk)
          clear kk
          have hjv : j.toNat < vs.length := by exact n_tl hj0 hj1 (Nat.le_of_eq hvl)
          obtain ⟨x, hx, hxv⟩ := hvs.get (i := j.toNat) (d := (vs[j.toNat]).py) (by simp [hjv])
          refine ⟨D1, z0 :: zr, dc, j, x, _, _, _, rfl, hr3, y17, .head _, hx, hj0, by exact n_cs hj1 (n_t hy1 (n_e hll (n_t hnl (n_t hn (Nat.le_refl _))))) rfl, fun s18 y18 => y_store (y18.sub (List.sublist_cons_self _ _)) fun s19 y19 => ?_⟩
          obtain ⟨hvmem, hvt⟩ := hvm _ (List.getElem_mem hjv)
          generalize vs[j.toNat] = v at hxv hvmem hvt
          clear y12 y13 y14 y15 y16 y17 y18 hvs hvm lay hvl hx hjv hj0 hj1
          obtain ⟨Wd, z, bl, hpy, hbl⟩ : ∃ Wd z bl, v.py = .tuple [.str Wd, .int z] ∧ ((v = .weak0 ∧ Wd = Str.ofString "weak" ∧ z = 0 ∧ bl = false) ∨ ∃ u k t, v = .soft u k ∧ Wd = softWord u ∧ z = (k : Int) + 1 ∧ H.ts[k]? = some t ∧ bl = t.st.isLive) := by
            rcases tag_loose hvt with rfl | ⟨u, k, rfl⟩
            · exact ⟨_, _, false, rfl, .inl ⟨rfl, rfl, rfl, rfl⟩⟩
            · obtain ⟨t, ht, _⟩ := N.can hvmem (if u then (.unowned, k) else (.weak, k)) (by cases u <;> exact .head _)
              exact ⟨_, _, t.st.isLive, rfl, .inr ⟨u, k, t, rfl, rfl, rfl, by cases u <;> exact ht, rfl⟩⟩
          obtain ⟨to, oo, no, uo, zo, rfl, g1, g2, g3⟩ := VR.two (by rw [hpy] at hxv; exact hxv)
          have hgo : X.g.get? to = some oo := hPg _ _ g1.2 g1.1
          have tt : ∀ {Γ}, TT X.g Γ to [Value.str Wd uo, .int z zo] := fun {Γ} => TT.mk (.inl hgo) g2 g3
          refine y_asg (vp := (· = .bool bl)) ?pv y19 fun _ s20 e20 y20 => ?_
          case pv =>
            rcases hbl with ⟨rfl, rfl, rfl, rfl⟩ | ⟨u, k, t, rfl, rfl, rfl, ht, rfl⟩
            · exact pv_and2_f (pv_gti ((pv_item' (pv_loc up_hit) tt).mono fun v e => ⟨_, e⟩) pv_int (by decide))
            · obtain ⟨tp, htp⟩ := B.place ht
              refine ctr fun hG186 => ?_; obtain ⟨kd, sv, wv, uv, stv, n5, c5, fls, f5, th⟩ := B.th ht htp; refine hG186 ?_; clear hG186
              exact pv_and2 (pv_gti ((pv_item' (pv_loc up_hit) tt).mono fun v e => ⟨_, e⟩) pv_int (decide_eq_true (n_k1)))
                (pv_eqs ((pv_litem (its := [kd, .ref tp.f, sv, wv, uv, stv]) (n := n5) (vp := fun _ => True) (pv_ditem (pv_dstr (pv_loc (up_skip (up_skip (up_skip (up_skip rfl))))) (iB bh.m1) bh.hob) (pv_item' (pv_loc up_hit) tt) (iB bh.m2) bh.hot (fun x e => by subst e; exact isI_is (X := X) ⟨_, rfl⟩) (keyed_atB htp)) pv_int (iB th.at_.mem) rfl (by decide) (by decide)).mono fun v e => by subst e; exact th.k6) pv_str (live_word _))
          subst e20
          obtain ⟨mL, hmi, hmv, hmb, hmh, y21⟩ : ∃ mL, mL (Str.ofString "is_live") = some (.bool bl) ∧ mL (Str.ofString "value") = some (.ref to) ∧ mL (Str.ofString "book") = some (.ref b) ∧ mL (Str.ofString "heap") = some (.ref o) ∧ Y X mL (wk3 ++ (hks ++ bks)) (Γ' ++ Γ8) s20 :=
            ⟨_, up_hit, up_skip up_hit, up_skip (up_skip (up_skip (up_skip (up_skip rfl)))), up_skip (up_skip (up_skip (up_skip (up_skip rfl)))), y20⟩
          clear y19 y20
          refine y_tryG (G := fun s1 => ∃ tv hk' Γ1 H' ph', Y X (up (Str.ofString "told_number") tv mL) (wk3 ++ (hk' ++ bks)) Γ1 s1 ∧ HRep prog w (Tp P) o ph' H' hk' ∧ ((bl = false ∧ Wd = Str.ofString "weak" ∧ IsI 0 tv ∧ H' = H) ∨ (bl = true ∧ ∃ (k : Nat) (t : T), z = (k : Int) + 1 ∧ IsI ((k : Int) + 1) tv ∧ H' = H.link (.strong, k) 1 ∧ H.ts[k]? = some t ∧ t.st.isLive = true))) ?_ ?_
          · intro s24 hJJ; refine ctr fun hG187 => ?_; obtain ⟨tv, hk3, Γ3, H3, ph3, y24, R3, hc⟩ := hJJ; refine hG187 ?_; clear hG187
            rcases hc with ⟨rfl, rfl, htv, rfl⟩ | ⟨rfl, k, t, rfl, htv, rfl, ht, hlv⟩
            · refine y_if_f (pb_or2_fr (pb_and2_f (pb_eqs ((pv_item' (pv_loc (up_skip hmv)) tt).mono fun v e => ⟨_, e⟩) pv_str (by decide +kernel))) (pb_nei ((pv_loc up_hit).mono fun v e => by subst e; exact htv) (pv_ifexp false (pb_bool (up_skip hmi)) pv_int) (by decide))) y24 fun s25 y25 => ?_
              refine y_if_f (pb_bool (up_skip hmi)) y25 fun s26 y26 => ?_
              refine y_ret pv_bool y26 fun v' s27 e27 y27 => ?_
              subst e27
              exact fin y27 W3 R3.pt (B.mono fun _ _ _ h => .inl h) (N.mono (Nat.le_refl _) (Nat.le_succ _) (Nat.le_succ _))
            · refine y_if_f ?pb2 y24 fun s25 y25 => ?_
              case pb2 =>
                refine pb_or2_fr ?pb3 (pb_nei ((pv_loc up_hit).mono fun v e => by subst e; exact htv) (pv_ifexp true (pb_bool (up_skip hmi)) ((pv_item' (pv_loc (up_skip hmv)) tt).mono fun v e => (⟨_, e⟩ : IsI ((k : Int) + 1) v))) (by simp))
                case pb3 =>
                  cases hWu : (Wd == Str.ofString "unowned") with
                  | true => exact pb_and2_tr (pb_eqs ((pv_item' (pv_loc (up_skip hmv)) tt).mono fun v e => ⟨_, e⟩) pv_str hWu) (pb_not_f (pb_bool (up_skip hmi)))
                  | false => exact pb_and2_f (pb_eqs ((pv_item' (pv_loc (up_skip hmv)) tt).mono fun v e => ⟨_, e⟩) pv_str hWu)
              refine y_if_t (pb_bool (up_skip hmi)) y25 fun s26 y26 => ?_
              refine y_expr (ev_lm1 (pv_dstr (pv_loc (up_skip hmb)) (iB bh.m1) bh.hob) (iB bh.m4) PySem.F.slot_list_append rfl y26 fun s27 y27 => ev_tup (pvs2 pv_str (pv_item' (pv_loc (up_skip hmv)) tt)) y27 (by decide) (fun vs e => by obtain ⟨_, _, rfl, _⟩ := e; rfl) fun vs5 t5 s28 e28 y28 => ?_)
              refine ctr fun hG188 => ?_; obtain ⟨_, _, rfl, ⟨u5, rfl⟩, rfl⟩ := e28; refine hG188 ?_; clear hG188
              refine held_push (Pq := Tp P) (v := .hold .ref k) (Y.asc y28) (B.tp.mono fun _ _ _ h => .inl h) (VR.tup (.head _) (.cons (.str _ _) (.cons (.int _ _) .nil))) (n_t hnl (n_t hn (n_b rfl))) fun s29 bk2 B2 y29 => ?_
              refine y_expr (ev_callS y29.ok.C.g_law_more y29.ok.C.k_law_more y29 fun s30 y30 => spliced_more (ev_pvq (pv_loc (up_skip hmb)) y30 fun s31 y31 => spliced_more (ev_tup (pvs2 pv_str (pv_item' (pv_loc (up_skip hmv)) tt)) y31 (by decide) (fun vs e => by obtain ⟨_, _, rfl, _⟩ := e; rfl) fun vs6 t6 s32 e32 y32 => spliced_more (ev_pv pv_int y32 fun st s33 e33 y33 => spliced_none ⟨z_kin y33.z y33.ok.C, ?_⟩) rfl) rfl) rfl)
              refine ctr fun hG189 => ?_; obtain ⟨_, _, rfl, ⟨u6, rfl⟩, rfl⟩ := e32; refine hG189 ?_; clear hG189
              have B3 := B2.up1 (q := (t6, tupO [Value.str (Str.ofString "ref") u6, .int ((k : Int) + 1) zo]))
              refine more_spec (v := .hold .ref k) (P1 := Or (Tp P) ((t6, tupO [Value.str (Str.ofString "ref") u6, .int ((k : Int) + 1) zo]) :: (t5, tupO [Value.str (Str.ofString "ref") u5, .int ((k : Int) + 1) zo]) :: Γ3)) y33.ok.C y33.st hX0 (lvA hX1 hd) (lvC hX2 hu) (y33.rd hPg) (VR.tup (.head _) (.cons (.str _ _) (.cons (.int _ _) .nil))) (show 1 ≤ 60 from by decide) (show 1 ≤ 2 ^ 22 from by decide) (y33.own B3.noT) B3 (fun l hl => by rw [List.mem_singleton.mp hl]; exact ⟨t, ht⟩) e33 ?_
              intro bk3 h' t' Γ4 kk tl B4
              refine y_nil ?_
              refine y_ret pv_bool (y33.calls (t' := t') (y33.own B3.noT) kk tl) fun v' s34 e34 y34 => ?_
              subst e34
              exact fin (Y.uas y34) W3 R3.pt (B4.mono fun _ _ _ h => h.imp (fun h => h.1) fun h => List.mem_append_right _ h) (N.link (l := (.strong, k)) ⟨t, ht, fun _ => hlv⟩ rfl h1D (Nat.le_refl _))
          · rcases hbl with ⟨rfl, rfl, rfl, rfl⟩ | ⟨u, k, t, rfl, rfl, rfl, ht, rfl⟩
            · refine y_asgeff (ev_ifexp true (pb_eqs ((pv_item' (pv_loc hmv) tt).mono fun v e => ⟨_, e⟩) pv_str (by decide +kernel)) y21 fun s22 y22 => ev_meth (pv_loc hmh) (iH hd0.m1) (iH hd0.m2) hd0.er y22.ok.C.m_weak_read y22.ok.C.n_weak_read y22.ok.C.km_weak_read (pvs1 (pv_loc hmv)) y22 fun vs s23 e23 y23 => ?_)
              obtain rfl := Va1.eq e23
              have y24 := Y.mid (a := wk3) (b := hks) (c := bks) y23
              refine weak_read0_spec (P := Tp P) y24.ok.C y24.st hX0 (lvA hX1 hd) (lvC hX2 hu) (fun a o q => y24.z.old (hPg a o q.2 q.1)) hxv (y24.own R.noT) R.tp fun r h' t' kk hr => ?_
              exact y_store (Y.unmid (a := wk3) (b := hks) (c := bks) (y24.callK (t' := t') R.noT kk)) fun s25 y25 => y_nil ⟨_, hks, _, H, ph, y25, R.tp, .inl ⟨rfl, rfl, hr, rfl⟩⟩
            · cases u with
              | false =>
                refine y_asgeff (ev_ifexp true (pb_eqs ((pv_item' (pv_loc hmv) tt).mono fun v e => ⟨_, e⟩) pv_str (by decide +kernel)) y21 fun s22 y22 => ev_meth (pv_loc hmh) (iH hd0.m1) (iH hd0.m2) hd0.er y22.ok.C.m_weak_read y22.ok.C.n_weak_read y22.ok.C.km_weak_read (pvs1 (pv_loc hmv)) y22 fun vs s23 e23 y23 => ?_)
                obtain rfl := Va1.eq e23
                have y24 := Y.mid (a := wk3) (b := hks) (c := bks) y23
                refine weak_read_spec (P := Tp P) y24.ok.C y24.st hX0 (lvA hX1 hd) (lvC hX2 hu) (fun a o q => y24.z.old (hPg a o q.2 q.1)) hxv (y24.own R.noT) R.tp ht (fun hE r h' t' kk hr => ?_) (fun hE r hk' h' t' kk hr R' => ?_)
                · exact y_store (Y.unmid (a := wk3) (b := hks) (c := bks) (y24.callK (t' := t') R.noT kk)) fun s25 y25 => y_nil ⟨_, hks, _, H, ph, y25, R.tp, .inl ⟨hE, rfl, hr, rfl⟩⟩
                · exact y_store (Y.unmid (a := wk3) (b := hk') (c := bks) (y24.callK (t' := t') R.noT kk)) fun s25 y25 => y_nil ⟨_, hk', _, _, ph, y25, R', .inr ⟨hE, k, t, rfl, hr, rfl, ht, hE⟩⟩
              | true =>
                refine y_asgeff (ev_ifexp false (pb_eqs ((pv_item' (pv_loc hmv) tt).mono fun v e => ⟨_, e⟩) pv_str (by decide +kernel)) y21 fun s22 y22 => ev_meth (pv_loc hmh) (iH hd0.m1) (iH hd0.m2) hd0.er y22.ok.C.m_unowned_read y22.ok.C.n_unowned_read y22.ok.C.km_unowned_read (pvs1 (pv_loc hmv)) y22 fun vs s23 e23 y23 => ?_)
                obtain rfl := Va1.eq e23
                have y24 := Y.mid (a := wk3) (b := hks) (c := bks) y23
                by_cases hE : t.st.isLive = true
                · refine unowned_read_spec (P := Tp P) y24.ok.C y24.st hX0 (lvA hX1 hd) (lvC hX2 hu) (fun a o q => y24.z.old (hPg a o q.2 q.1)) hxv (y24.own R.noT) R.tp ht hE (fun r hk' h' t' kk hr R' => ?_)
                  exact y_store (Y.unmid (a := wk3) (b := hk') (c := bks) (y24.callK (t' := t') R.noT kk)) fun s25 y25 => y_nil ⟨_, hk', _, _, ph, y25, R', .inr ⟨hE, k, t, rfl, hr, rfl, ht, hE⟩⟩
                · have hE' : t.st.isLive = false := by simpa using hE
                  refine ctr fun hG190 => ?_; obtain ⟨pT, lT, mT, mgT, mbT, hT⟩ := C.T; refine hG190 ?_; clear hG190
                  refine unowned_trap (P := Tp P) (hb := h₀) (outer := X.env :: outer) y24.ok.C KT y24.st hX0 (lvA hX1 hd) (lvC hX2 hu) (Mine.Below.frs bel y24.z) (fun a o q => y24.z.old (hPg a o q.2 q.1)) hxv (y24.own R.noT) R.tp ht hE' fun e dx od' h' t' v5 hv5 w5 tr => ?_
                  refine trap_caught (s := { s23 with heap := h', toks := t' }) bel y24.z tr C.X hT KT C.g_Trap (fun h₆ g' tk vs6 E6 T6 z6 K6 => ?_)
                  have iT : ∀ {q : Addr × Obj} {r : List (Addr × Obj)} {z1 z2 : Addr × Obj}, q ∈ r → q ∈ z1 :: z2 :: r := fun h => .tail _ (.tail _ h)
                  obtain ⟨slo, hslo⟩ := T6.up hgo
                  have htup : IsTup h₆ to [Value.str (softWord true) uo, .int ((k : Int) + 1) zo].toArray := ⟨_, z6.F.keep _ _ hslo, g2, no, g3⟩
                  refine hp_ret (hp_and3 (hp_eqs (fun t E Q h => hp_item0 (hp_loc rfl z6.F.ns rfl (m_skip (by decide) hmv) rfl (by decide)) htup t E Q fun v t' e => h v t' ⟨_, e⟩) hp_str) (hp_not (hp_loc rfl z6.F.ns rfl (m_skip (by decide) (by rw [hmi, hE'])) rfl (by decide)))
                    (hp_eqs (hp_word (hp_loc rfl z6.F.ns rfl m_hit rfl (by decide)) (C.X.keeps fun a o q => z6.F.keep _ _ (K6.stays a o q)) KT (z6.get (.head _)) rfl rfl rfl (z6.get (.tail _ (.head _))) w5 hv5 rfl) hp_str)) fun t6 => ?_
                  refine name_goes z6.F z6.N fun h₇ m₇ F₇ N₇ => ?_
                  have key : ∀ p ∈ wk3 ++ (hks ++ bks), X.g.get? p.1 = none := fun p hp => (y23.z.N p (List.mem_append_left _ hp)).2.2
                  have hnT := three_noT W3 R B
                  have B7 : BRep prog w (Or P (Γ' ++ Γ8)) b pb H held bks := B.mono fun _ _ _ h => .inl h
                  have := hQ ph pb H held wk3 hks bks h₇ (t6 + 1) (Γ' ++ Γ8) (KeptF.of_turn (news := (e, { cls := .ref 56, dict := some dx, data := .fields vs6 }) :: (dx, od') :: ((wk3 ++ bks) ++ hks)) T6 F₇ N₇ key h0 hin fr.off (fun p hp => iT (by simp only [List.mem_append] at hp ⊢; rcases hp with h | h | h <;> simp [h])) hnT y23.z.nd)
                    (fun p hp => ⟨(N₇ p (List.mem_append_right _ hp)).1, (y23.z.T p hp).1, hL ▸ Nat.le_of_lt (y23.z.T p hp).2⟩) W3 R B7 (N.mono (Nat.le_refl _) (Nat.le_succ _) (Nat.le_succ _))
                  rw [y23.e]
                  exact this
end
end Mine
end
section
open PySem PySem.W PySem.Calls PyProof.Rows PySem.Spec
set_option Elab.async false
set_option maxRecDepth 100000
set_option maxHeartbeats 4000000
set_option linter.unusedVariables false
namespace Mine
theorem KeptF.through {h₀ g h hs h' : Heap} {L a : Addr} {m : Str → Option Value} {name : Str} {scope : Scope} {cd : Value} {outer : List Env} {A : Around} {ks0 ks ks' Γ : List (Addr × Obj)} (K : Below A h₀ outer g) (z : Z g L hs m ks Γ) (hin : ∀ a o, h.get? a = some o → a ∉ ks0.map (·.1) → g.get? a = some o) (hf : ∀ b ∈ outer.filterMap (·.frame), b ∉ ks0.map (·.1))
    (k : KeptF ((envOf name scope L a cd :: outer).filterMap (·.frame)) h₀ ks hs h' ks') : KeptF (outer.filterMap (·.frame)) h₀ ks0 h h' ks' := by
  have nk : ∀ b o, g.get? b = some o → b ∉ ks.map (·.1) := fun b o e q => by
    obtain ⟨p, hp, rfl⟩ := List.mem_map.mp q
    rw [(z.N p (List.mem_append_left _ hp)).2.2] at e; cases e
  have nL : ∀ b o, g.get? b = some o → b ≠ L := fun b o e q => by rw [q, kts_self z.F] at e; cases e
  have back : ∀ b, g.get? b = none → b ∈ ks0.map (·.1) ∨ h.get? b = none := fun b hb => by
    by_cases q : b ∈ ks0.map (·.1)
    · exact .inl q
    · refine .inr ?_
      cases e : h.get? b with
      | none => rfl
      | some o => rw [hin _ _ e q] at hb; cases hb
  refine ⟨fun b o e n m => ?_, fun b o e m => ?_, k.own, fun p hp => ?_⟩
  · have eg := hin b o e n
    exact k.keep b o (z.F.keep _ _ eg) (nk b o eg) fun q => (kts_mem q).elim (nL b o eg) m
  · have eg := hin b o e (hf b m)
    exact k.slot b o (z.F.keep _ _ eg) (by rw [List.filterMap_cons]; exact .tail _ m)
  · rcases k.fresh p hp with q | q
    · obtain ⟨p', hp', e⟩ := List.mem_map.mp q
      exact back _ (e ▸ (z.N p' (List.mem_append_left _ hp')).2.2)
    · exact back _ (kts_none z.F.keep q)
theorem Own.base {h₀ g h : Heap} {ks : List (Addr × Obj)} (O : Own g h ks) (h0 : h₀.StaysIn g) : Own h₀ h ks := ⟨O.at_, fun p hp => kts_none h0 (O.off p hp), O.no, O.nd⟩
theorem Bnd.down {D M n : Nat} {H H' : Mine.H} {held : List V} (N : Bnd D M n H held) (I : Inv none H' (lks held)) (B : Bd D (fsz H.ts) H') (hl : H'.ts.length = H.ts.length) : Bnd D M n H' held :=
  ⟨I, ⟨B.dep, Nat.le_refl _, B.nm⟩, N.hd, Nat.le_trans (Nat.add_le_add_right B.sz _) N.sz, by rw [hl]; exact N.ts, N.hl⟩
section
variable {prog : Program} {w : World} {K : Frag} {A : Around} {E : Value → Shared → Prop} {s : Shared} {h₀ : Heap} {P : Addr → Obj → Prop} {b a c o : Addr} {pb : BP} {ph : HP} {H : H} {held : List V} {wks hks bks : List (Addr × Obj)} {Q : Value → Shared → Prop}
theorem act_spec {D M n : Nat} {outer : List Env} (C : Cx K h₀) (KT : KTrap K) (hk : h₀.StaysIn s.heap) (hh : A.handled = none) (hd : A.depth < 640) (hu : A.units < 5400) (fr : Frs h₀ A outer s.heap (wks ++ (hks ++ bks))) (hP : ∀ a o, P a o → s.heap.get? a = some o) (O : Own h₀ s.heap (wks ++ (hks ++ bks))) (W : WRep prog w a c wks) (R : HRep prog w P o ph H hks) (B : BRep prog w P b pb H held bks)
    (N : Bnd D M n H held) (h1D : 1 ≤ D) (hD : D ≤ 48) (hM : M ≤ 2 ^ 20) (hn : n ≤ 58)
    (hQ : ∀ ph' pb' H' held' wks' hks' bks' h' t' Γ, KeptF (outer.filterMap (·.frame)) h₀ (wks ++ (hks ++ bks)) s.heap h' (wks' ++ (hks' ++ bks')) → TupL s.heap h' Γ → WRep prog w a c wks' → HRep prog w (Or P Γ) o ph' H' hks' → BRep prog w (Or P Γ) b pb' H' held' bks' → Bnd (D + 2) (2 * M + 3) (n + 1) H' held' → Q (.bool true) { s with heap := h', toks := t' }) :
    wpAny (model prog w) A (call (.ref 348) [.ref a, .ref o, .ref b]) Q E s := by
  refine enterB (binds := [(Str.ofString "well", .ref a), (Str.ofString "heap", .ref o), (Str.ofString "book", .ref b)]) C hk hh (Nat.lt_trans hu (by decide)) O C.KF.f348 rfl (Nat.lt_trans hd (by decide)) (fun _ _ _ => BindsTo.of_eq rfl) (locs rfl) rfl rfl rfl (by decide) ?_
  intro g L h₁ tk cdv X m0 y h0 hL hin
  have bel := fr.below h0 hin
  have hPg := gt_of O hin hP
  have hX0 : X.A.handled = none := hh
  have hX1 : X.A.depth = A.depth + 1 := rfl
  have hX2 : X.A.units = A.units + 3 := rfl
  refine ex7 B.hd fun ob ot on hls ql cc c2 bh => ?_
  refine ex4 R.hd fun es n0 od lv hd0 => ?_
  have hll : hls.length = held.length := by simpa using bh.hh.length
  have hnl := N.hl
  have hts := N.ts
  have hsz := N.sz
  have fin : ∀ {wk hk bk : List (Addr × Obj)} {Γ' : List (Addr × Obj)} {s' : Shared} {m' : Str → Option Value} {H' : Mine.H} {held' : List V} {ph' : HP} {pb' : BP}, Y X m' (wk ++ (hk ++ bk)) Γ' s' → WRep prog w a c wk → HRep prog w (Or P Γ') o ph' H' hk → BRep prog w (Or P Γ') b pb' H' held' bk → Bnd (D + 2) (2 * M + 3) (n + 1) H' held' → Q (.bool true) s' := fun y' W' R' B' N' => by
    rw [y'.e]
    exact hQ _ _ _ _ _ _ _ _ _ _ ((y'.kept h0 hin (List.Sublist.refl _) (three_noT W' R' B')).toF fr.off) (y'.z.tupL hL) W' R' B' N'
  have iB : ∀ {q : Addr × Obj} {wk hk bk : List (Addr × Obj)}, q ∈ bk → q ∈ wk ++ (hk ++ bk) := fun h => List.mem_append_right _ (List.mem_append_right _ h)
  have iH : ∀ {q : Addr × Obj} {wk hk bk : List (Addr × Obj)}, q ∈ hk → q ∈ wk ++ (hk ++ bk) := fun h => List.mem_append_right _ (List.mem_append_left _ h)
  have hPs : ∀ {news Γ m s'}, Y X m news Γ s' → ∀ a o, Tp P a o → s'.heap.get? a = some o := fun y' a o h => y'.z.old (hPg a o h.2 h.1)
  have hhT : VRs (Tp P) hls (held.map V.py) := bh.hh.mono2 fun a o t h => ⟨h, t⟩
  have lay := vals_lay held 50 fun u hu => Nat.le_trans (N.hd u hu) (n_t hD (n_b rfl))
  have hnil : ∀ {r : Bool} {m' : Str → Option Value} {news Γ : List (Addr × Obj)} {p1 p2 p3 p4 p5 : Pos} {k : Nat}, held.isEmpty = !r → m' (Str.ofString "book") = some (.ref b) → (b, ob) ∈ news → (pb.h, listOf hls.toArray cc) ∈ news → PB X m' news Γ (.Compare (.Subscript (.Name (Str.ofString "book") p1) (.Constant (.str (Str.ofString "held")) k p2) p3) [.NotEq] [.List [] p4] p5) r := fun hr mb m1 m4 =>
    pb_nil (op := .NotEq) _ (pv_dstr (pv_loc mb) m1 bh.hob) m4 (fun s' y' => hPs y') hhT lay.1 (Nat.le_trans lay.2 (by decide)) (.inr ⟨rfl, by simpa using hr⟩)
  refine y_asgeff (ev_call y.ok.C.g_law_draw y.ok.C.k_law_draw (pvs2 (pv_loc rfl) pv_int) y fun vs s1 e1 y1 => ?_)
  refine ex2 e1 fun _ v1 hKK => an3 hKK fun hE44 hE45 e2 => ?_; clear e1 hKK; subst hE44 hE45
  have y2 := Y.mid (a := []) (b := wks) (c := hks ++ bks) y1
  refine draw_spec y2.ok.C y2.st hX0 (lvA hX1 hd) (lvC hX2 hu) (y2.own W.noT) W e2 (by decide) (by decide) ?_
  intro r i wk1 h' t' kk W1 hr hi0 hi1
  have y3 : Y X _ (wk1 ++ (hks ++ bks)) _ _ := Y.unmid (a := []) (b := wk1) (c := hks ++ bks) (y2.callK (t' := t') W.noT kk)
  clear kk y1 y2
  refine y_store y3 fun s4 y4 => ?_
  clear y3
  have ret : ∀ {wk hk bk : List (Addr × Obj)} {Γ' : List (Addr × Obj)} {s' : Shared} {m' : Str → Option Value} {H' : Mine.H} {held' : List V} {ph' : HP} {pb' : BP} {Ef : Value → Shared → Prop} {k : Nat} {p1 p2 : Pos}, Y X m' (wk ++ (hk ++ bk)) Γ' s' → WRep prog w a c wk → HRep prog w (Or P Γ') o ph' H' hk → BRep prog w (Or P Γ') b pb' H' held' bk → Bnd (D + 2) (2 * M + 3) (n + 1) H' held' →
      wpAny (model X.prog X.w) X.A (execs [.Return (some (.Constant (.bool true) k p1)) p2] X.env) (KRet Q) Ef s' := fun y' W' R' B' N' =>
    y_ret pv_bool y' fun v s e y'' => by subst e; exact fin y'' W' R' B' N'
  have hri : ∀ {Γ news m' p}, m' (Str.ofString "way") = some r → PV X m' news Γ (.Name (Str.ofString "way") p) (IsI i) := fun hm => (pv_loc hm).mono fun v e => by subst e; exact hr
  have O4 := y4.own (loc := []) (three_noT W1 R B)
  by_cases c1 : i < 2
  · refine y_if_t (pb_lti (hri up_hit) pv_int (decide_eq_true c1)) y4 fun s5 y5 => ?_
    refine y_expr (ev_call y5.ok.C.g_law_make y5.ok.C.k_law_make (pvs3 (pv_loc (up_skip rfl)) (pv_loc (up_skip rfl)) (pv_loc (up_skip rfl))) y5 fun vs s6 e6 y6 => ?_)
    obtain rfl := Va3.eq e6
    refine make_spec (P := Tp P) y6.ok.C y6.st hX0 (lvA hX1 hd) (lvC hX2 hu) (hPs y6) (y6.own (loc := []) (three_noT W1 R B)) W1 R.tp B.tp (fun u hu => Nat.le_trans (N.hd u hu) (n_t hD (n_b rfl))) (n_t hnl (n_t hn (n_b rfl))) (n_t hts (n_t hn (n_b rfl))) ?_
    intro ph' pb' kd vs held' wk' hk' bk' h' t' Γ kk tl W' R' B' tk hv2
    have y7 : Y X _ (wk' ++ (hk' ++ bk')) _ _ := y6.calls (loc := []) (t' := t') (y6.own (loc := []) (three_noT W1 R B)) kk tl
    exact y_nil (ret y7 W' (HRep.mono (fun _ _ _ h => .inl h) R'.pt) (B'.mono fun _ _ _ h => h.imp (fun h => h.1) fun h => List.mem_append_left _ h) ((N.make tk h1D hv2).mono (Nat.le_add_right _ _) (n_2 rfl) (Nat.le_refl _)))
  refine y_if_e (pb_lti (hri up_hit) pv_int (decide_eq_false c1)) y4 fun s5 y5 => ?_
  clear y4 O4
  by_cases c2 : i = 2
  · refine y_if_t (pb_eqi (hri up_hit) pv_int (by rw [c2]; rfl)) y5 fun s5 y5 => ?_
    refine y_expr (ev_call y5.ok.C.g_law_join y5.ok.C.k_law_join (pvs2 (pv_loc (up_skip rfl)) (pv_loc (up_skip rfl))) y5 fun vs s6 e6 y6 => ?_)
    obtain rfl := Va2.eq e6
    have y7 := Y.out (a := []) (b := wk1) (c := hks) (d := bks) y6
    refine join_spec (P := Tp P) y7.ok.C y7.st hX0 (lvA hX1 hd) (lvC hX2 hu) (hPs y7) (y7.own (both_noT W1 B)) W1 B.tp (fun u hu => Nat.le_trans (N.hd u hu) (n_t hD (n_b rfl))) (n_t hnl (n_t hn (n_b rfl))) ?_
    intro held' wk' bk' h' t' Γ kk tl W' B' hj
    have y8 : Y X _ (wk' ++ (hks ++ bk')) _ _ := Y.inn (a := []) (b := wk') (c := hks) (d := bk') (y7.calls (t' := t') (y7.own (both_noT W1 B)) kk tl)
    refine y_nil (y_nil ?_)
    exact ret y8 W' (HRep.mono (fun _ _ _ h => .inl h) R) (B'.mono fun _ _ _ h => h.imp (fun h => h.1) fun h => List.mem_append_left _ h) ((N.join hj h1D).mono (Nat.le_refl _) (n_2 rfl) (Nat.le_refl _))
  refine y_if_e (pb_eqi (hri up_hit) pv_int (by simpa using c2)) y5 fun s5 y5 => ?_
  by_cases c3 : i = 3 ∧ held ≠ []
  · have hne : held.isEmpty = !true := by cases held with | nil => exact absurd rfl c3.2 | cons a b => rfl
    have hpos : 0 < held.length := by cases held with | nil => exact absurd rfl c3.2 | cons a b => exact Nat.succ_pos _
    refine y_if_t (pb_and2_tr (pb_eqi (hri up_hit) pv_int (by rw [c3.1]; rfl)) (hnil hne (up_skip rfl) (iB bh.m1) (iB bh.m4))) y5 fun s5 y5 => ?_
    refine y_asgeff (ev_itemE (ev_pvq (pv_dstr (pv_loc (up_skip rfl)) (iB bh.m1) bh.hob) y5 fun s6 y6 => ev_call y6.ok.C.g_law_draw y6.ok.C.k_law_draw (pvs2 (pv_loc (up_skip rfl)) (pv_len (pv_dstr (pv_loc (up_skip rfl)) (iB bh.m1) bh.hob) (iB bh.m4) (by have : sizeLine = 16777216 := rfl; exact n_e hll (n_t hnl (n_t hn (n_b rfl)))))) y6 fun vs s7 e7 y7 => ?_))
    refine ex2 e7 fun _ v2 hKK => an3 hKK fun hE46 hE47 e2 => ?_; clear e7 hKK; subst hE46 hE47
    have y8 := Y.mid (a := []) (b := wk1) (c := hks ++ bks) y7
    refine draw_spec y8.ok.C y8.st hX0 (lvA hX1 hd) (lvC hX2 hu) (y8.own W1.noT) W1 e2 (by lia) (n_cm (n_e hll (n_t hnl (n_t hn (Nat.le_refl _)))) rfl) ?_
    intro r3 j wk3 h' t' kk W3 hr3 hj0 hj1
    have y9 : Y X _ (wk3 ++ (hks ++ bks)) _ _ := Y.unmid (a := []) (b := wk3) (c := hks ++ bks) (y8.callK (t' := t') W1.noT kk)
    clear kk
    have hjv : j.toNat < held.length := by exact n_tl hj0 hj1 (Nat.le_of_eq hll)
    obtain ⟨x, hx, hxv⟩ := hhT.get (i := j.toNat) (d := (held[j.toNat]).py) (by simp [hjv])
    refine ⟨pb.h, hls, cc, j, x, _, _, _, rfl, hr3, y9, iB bh.m4, hx, hj0, by exact n_cs hj1 (n_e hll (n_t hnl (n_t hn (Nat.le_refl _)))) rfl, fun s10 y10 => y_store y10 fun s11 y11 => ?_⟩
    have hvm : held[j.toNat] ∈ held := List.getElem_mem hjv
    generalize held[j.toNat] = v at hxv hvm
    have hvd := N.hd v hvm
    have hvz := size_le hvm
    have hcan := N.can hvm
    -- heap.copied, append
    refine y_expr (ev_lm1 (pv_dstr (pv_loc (up_skip (up_skip rfl))) (iB bh.m1) bh.hob) (iB bh.m4) PySem.F.slot_list_append rfl y11 fun s12 y12 => ev_meth (pv_loc (up_skip (up_skip rfl))) (iH hd0.m1) (iH hd0.m2) hd0.er y12.ok.C.m_copied y12.ok.C.n_copied y12.ok.C.km_copied (pvs1 (pv_loc up_hit)) y12 fun vs s13 e13 y13 => ?_)
    obtain rfl := Va1.eq e13
    have y14 := Y.mid (a := wk3) (b := hks) (c := bks) y13
    refine copied_spec (P := Tp P) (v := v) y14.ok.C y14.st hX0 (lvA hX1 hd) (lvC hX2 hu) (hPs y14) hxv (n_t hvd (n_t hD (n_b rfl))) (n_t hvz (n_t (n_ar hsz) (n_t hM (n_b rfl)))) (y14.own R.noT) R.tp (fun l hl => by obtain ⟨t, h1, h2⟩ := hcan l hl; exact ⟨t, h1, fun e e2 => by have := h2 (by rw [e]; rfl); rw [e2] at this; cases this⟩) ?_
    intro hk2 h' t' Γ2 kk tl R2
    have y15 := Y.asc (a := wk3) (b := hk2) (c := bks) (Y.unmid (a := wk3) (b := hk2) (c := bks) (y14.calls (t' := t') (y14.own R.noT) kk tl))
    clear kk tl
    refine held_push (Pq := Tp P) (v := v) y15 (B.tp.mono fun _ _ _ h => .inl h) hxv.inl (n_t hnl (n_t hn (n_b rfl))) fun s16 bk2 B2 y16 => ?_
    refine y_expr (ev_call y16.ok.C.g_law_more y16.ok.C.k_law_more (pvs3 (pv_loc (up_skip (up_skip rfl))) (pv_loc up_hit) pv_int) y16 fun vs s17 e17 y17 => ?_)
    refine ex3 e17 fun _ _ st hKK => an4 hKK fun hE48 hE49 hE50 e3 => ?_; clear e17 hKK; subst hE48 hE49 hE50
    refine more_spec (P1 := Tp P) (v := v) y17.ok.C y17.st hX0 (lvA hX1 hd) (lvC hX2 hu) (hPs y17) hxv (n_t hvd (n_t hD (n_b rfl))) (n_t hvz (n_t (n_ar hsz) (n_t hM (n_b rfl)))) (y17.own B2.noT) B2 (fun l hl => let ⟨t, h1, _⟩ := hcan l hl; ⟨t, h1⟩) e3 ?_
    intro bk3 h' t' Γ3 kk tl B3
    refine y_reteff (ev_call y17.ok.C.g_law_value_told y17.ok.C.k_law_value_told (pvs1 (pv_loc up_hit)) (y17.calls (t' := t') (y17.own B2.noT) kk tl) fun vs s18 e18 y18 => ?_)
    obtain rfl := Va1.eq e18
    refine told_spec (P := Tp P) (v := v) y18.ok.C y18.st hX0 (lvA hX1 hd) (lvC hX2 hu) (hPs y18) hxv (n_t hvd (n_t hD (n_b rfl))) (n_t hvz (n_t (n_ar hsz) (n_t hM (n_b rfl)))) ?_
    intro h' t' Γ4 kk tl
    have y19 := Y.uas (y18.call0 (t' := t') kk tl)
    exact fin y19 W3 (HRep.mono (fun _ _ _ h => .inl h) R2.pt) (B3.mono fun _ _ _ h => h.imp (fun h => h.1) fun h => List.mem_append_right _ (List.mem_append_right _ h)) ((N.copy hvm).mono (Nat.le_add_right _ _) (n_r (Nat.le_refl _)) (Nat.le_refl _))
  refine y_if_e ?pb3 y5 fun s5 y5 => ?_
  case pb3 =>
    by_cases h3 : i = 3
    · have h0 : held = [] := Classical.byContradiction fun h => c3 ⟨h3, h⟩
      exact pb_and2_tr (pb_eqi (hri up_hit) pv_int (by rw [h3]; rfl)) (hnil (by rw [h0]; rfl) (up_skip rfl) (iB bh.m1) (iB bh.m4))
    · exact pb_and2_f (pb_eqi (hri up_hit) pv_int (by simpa using h3))
  by_cases c4 : i < 6 ∧ held ≠ []
  · have hne : held.isEmpty = !true := by cases held with | nil => exact absurd rfl c4.2 | cons a b => rfl
    refine y_if_t (pb_and2_tr (pb_lti (hri up_hit) pv_int (decide_eq_true c4.1)) (hnil hne (up_skip rfl) (iB bh.m1) (iB bh.m4))) y5 fun s5 y5 => ?_
    refine y_asgeff (ev_call y5.ok.C.g_law_take y5.ok.C.k_law_take (pvs2 (pv_loc (up_skip rfl)) (pv_loc (up_skip rfl))) y5 fun vs s6 e6 y6 => ?_)
    obtain rfl := Va2.eq e6
    have y7 := Y.out (a := []) (b := wk1) (c := hks) (d := bks) y6
    refine take_spec (P := Tp P) y7.ok.C y7.st hX0 (lvA hX1 hd) (lvC hX2 hu) (hPs y7) (y7.own (both_noT W1 B)) W1 B.tp (fun u hu => Nat.le_trans (N.hd u hu) (n_t hD (n_b rfl))) (n_t hnl (n_t hn (n_b rfl))) ?_
    intro x v held' wk' bk' h' t' kk W' B' hxv took
    have y8 : Y X _ (wk' ++ (hks ++ bk')) _ _ := Y.inn (a := []) (b := wk') (c := hks) (d := bk') (y7.callK (t' := t') (both_noT W1 B) kk)
    clear kk
    obtain ⟨pre, post, h1, rfl⟩ := took.resolve_left fun h => c4.2 h.1
    have hvm : v ∈ held := by rw [h1]; simp
    have hvd := N.hd v hvm
    have hvz := size_le hvm
    have N1 := N
    rw [h1] at N1
    refine ctr fun hG53 => ?_; obtain ⟨H', hg, ⟨Nr, hrun⟩, N2⟩ := N1.drop (n_t hD (n_b rfl)) (n_t hM (n_b rfl)) (n_t hn (n_b rfl)); refine hG53 ?_; clear hG53
    refine y_store y8 fun s9 y9 => ?_
    refine y_expr (ev_meth (pv_loc (up_skip (up_skip rfl))) (iH hd0.m1) (iH hd0.m2) hd0.er y9.ok.C.m_destroyed y9.ok.C.n_destroyed y9.ok.C.km_destroyed (pvs1 (pv_loc up_hit)) y9 fun vs s10 e10 y10 => ?_)
    obtain rfl := Va1.eq e10
    have y11 := Y.mid (a := wk') (b := hks) (c := bk') y10
    refine destroyed_spec (P := Tp P) (v := v) y11.ok.C y11.st hX0 (lvA hX1 hd) (lvC hX2 hu) (hPs y11) hxv (n_t hvd (n_t hD (n_b rfl))) (n_t hvz (n_t (n_ar hsz) (n_t hM (n_b rfl)))) (y11.own R.noT) R.tp hrun ?_
    intro ph2 hk2 h' t' Γ2 kk tl R2
    have y12 := Y.unmid (a := wk') (b := hk2) (c := bk') (y11.calls (t' := t') (y11.own R.noT) kk tl)
    clear kk tl
    refine y_expr (ev_call y12.ok.C.g_law_gone y12.ok.C.k_law_gone (pvs2 (pv_loc (up_skip (up_skip rfl))) (pv_loc up_hit)) y12 fun vs s13 e13 y13 => ?_)
    obtain rfl := Va2.eq e13
    have y14 := Y.asc (a := wk') (b := hk2) (c := bk') y13
    refine gone_spec 61 (P := Tp P) (P1 := Tp P) y14.ok.C y14.st hX0 (by show A.depth + 1 + _ < 780; exact n_lt (n_t (n_a (n_t (n_a (n_s hd (Nat.le_refl _)) (Nat.le_refl _)) (Nat.le_refl _)) (Nat.le_refl _)) (Nat.le_refl _)) (n_bl rfl)) (by show A.units + 3 + _ < 6900; exact n_lt (n_t (n_a (n_t (n_a (n_s hu (Nat.le_refl _)) (Nat.le_refl _)) (Nat.le_refl _)) (Nat.le_refl _)) (Nat.le_refl _)) (n_bl rfl)) (hPs y14) (hPs y14) hxv (n_t hvd (n_t hD (n_b rfl))) (n_t hvz (n_t (n_ar hsz) (n_t hM (n_b rfl)))) (y14.own B'.noT) B' hg ?_
    intro pb2 bk2 h'' t'' Γ3 kk3 tl3 B3
    have y15 := Y.uas (y14.calls (t' := t'') (y14.own B'.noT) kk3 tl3)
    exact y_nil (y_nil (y_nil (y_nil (ret y15 W' (HRep.mono (fun _ _ _ h => .inl h) R2.pt) (B3.mono fun _ _ _ h => .inl h.1) (N2.mono (Nat.le_add_right _ _) (n_2 (a := 0) rfl) (Nat.le_succ _))))))
  refine y_if_e ?pb4 y5 fun s5 y5 => ?_
  case pb4 =>
    by_cases h4 : i < 6
    · have h0 : held = [] := Classical.byContradiction fun h => c4 ⟨h4, h⟩
      exact pb_and2_tr (pb_lti (hri up_hit) pv_int (decide_eq_true h4)) (hnil (by rw [h0]; rfl) (up_skip rfl) (iB bh.m1) (iB bh.m4))
    · exact pb_and2_f (pb_lti (hri up_hit) pv_int (decide_eq_false h4))
  by_cases c5 : i = 6
  · refine y_if_t (pb_eqi (hri up_hit) pv_int (by rw [c5]; rfl)) y5 fun s5 y5 => ?_
    refine y_reteff (ev_call y5.ok.C.g_law_loose y5.ok.C.k_law_loose (pvs3 (pv_loc (up_skip rfl)) (pv_loc (up_skip rfl)) (pv_loc (up_skip rfl))) y5 fun vs s6 e6 y6 => ?_)
    obtain rfl := Va3.eq e6
    refine loose_spec (P := Tp P) (outer := X.env :: outer) C KT (fun a o e => y6.z.old (h0 a o e)) hX0 (lvA hX1 hd) (lvC hX2 hu) (Mine.Below.frs (loc := []) bel y6.z) (hPs y6) ((y6.own (loc := []) (three_noT W1 R B)).base h0) W1 R.tp B.tp N h1D (n_t hD (n_b rfl)) (n_t hM (n_b rfl)) (n_t hn (n_b rfl)) ?_
    intro ph' pb' H' held' wk' hk' bk' h' t' Γ kk tl W' R' B' N'
    have := hQ ph' pb' H' held' wk' hk' bk' h' t' Γ (KeptF.through bel y6.z hin fr.off kk) (fun p hp => by obtain ⟨q1, q2, q3⟩ := tl p hp; exact ⟨q1, q2, Nat.le_trans (hL ▸ Nat.le_of_lt y6.z.F.ns.lt) q3⟩) W' (HRep.mono (fun _ _ _ h => .inl h) R'.pt) (B'.mono fun _ _ _ h => h.imp (fun h => h.1) id) (N'.mono (Nat.le_add_right _ _) (n_2 rfl) (Nat.le_refl _))
    rw [y6.e]
    exact this
  refine y_if_e (pb_eqi (hri up_hit) pv_int (by simpa using c5)) y5 fun s5 y5 => ?_
  by_cases c6 : i = 7
  · refine y_if_t (pb_eqi (hri up_hit) pv_int (by rw [c6]; rfl)) y5 fun s5 y5 => ?_
    refine y_reteff (ev_and2 (ev_call y5.ok.C.g_law_part_put y5.ok.C.k_law_part_put (pvs3 (pv_loc (up_skip rfl)) (pv_loc (up_skip rfl)) (pv_loc (up_skip rfl))) y5 fun vs s6 e6 y6 => ?_))
    obtain rfl := Va3.eq e6
    refine part_put_spec (P := Tp P) y6.ok.C y6.st hX0 (lvA hX1 hd) (lvC hX2 hu) (hPs y6) (y6.own (loc := []) (three_noT W1 R B)) W1 R.tp B.tp N (n_t hD (n_b rfl)) (n_t hM (n_b rfl)) (n_t hn (n_b rfl)) ?_
    intro ph' pb' H' held' wk' hk' bk' h' t' Γ kk tl W' R' B' N'
    have y7 : Y X _ (wk' ++ (hk' ++ bk')) (Γ ++ []) _ := y6.calls (loc := []) (t' := t') (y6.own (loc := []) (three_noT W1 R B)) kk tl
    clear kk tl
    refine ⟨rfl, ev_call y7.ok.C.g_law_own y7.ok.C.k_law_own (pvs3 (pv_loc (up_skip rfl)) (pv_loc (up_skip rfl)) (pv_loc (up_skip rfl))) y7 fun vs s8 e8 y8 => ?_⟩
    obtain rfl := Va3.eq e8
    have R7 : HRep prog w (Or (Tp P) (Γ ++ [])) o ph' H' hk' := R'.mono fun _ _ _ h => .inl h
    have B7 : BRep prog w (Or (Tp P) (Γ ++ [])) b pb' H' held' bk' := B'.mono fun _ _ _ h => h.imp id fun h => List.mem_append_left _ h
    refine own_spec (P := Or (Tp P) (Γ ++ [])) y8.ok.C y8.st hX0 (lvA hX1 hd) (lvC hX2 hu) (y8.rd hPg) (y8.own (loc := []) (three_noT W' R7 B7)) W' R7 B7 N' (n_t hD (n_b rfl)) (n_t hM (n_b rfl)) (n_t hn (n_b rfl)) ?_
    intro ph2 pb2 H2 held2 wk2 hk2 bk2 h2 t2 Γ2 kk tl W2 R2 B2 N2
    have y9 : Y X _ (wk2 ++ (hk2 ++ bk2)) (Γ2 ++ (Γ ++ [])) _ := y8.calls (loc := []) (t' := t2) (y8.own (loc := []) (three_noT W' R7 B7)) kk tl
    have up : ∀ a o, IsT o → Or (Or (Tp P) (Γ ++ [])) Γ2 a o → Or P (Γ2 ++ (Γ ++ [])) a o := fun a o _ h => (or_or h).imp (fun h => h.1) id
    exact fin y9 W2 (R2.mono fun a o t h => up a o t (.inl h)) (B2.mono up) (N2.mono (Nat.le_add_right _ _) (n_a (Nat.le_refl _) (n_b rfl)) (Nat.le_refl _))
  refine y_if_e (pb_eqi (hri up_hit) pv_int (by simpa using c6)) y5 fun s5 y5 => ?_
  by_cases c7 : i = 8
  · refine y_if_t (pb_eqi (hri up_hit) pv_int (by rw [c7]; rfl)) y5 fun s5 y5 => ?_
    refine y_expr (ev_call y5.ok.C.g_law_taken_down y5.ok.C.k_law_taken_down (pvs2 (pv_loc (up_skip rfl)) (pv_loc (up_skip rfl))) y5 fun vs s6 e6 y6 => ?_)
    obtain rfl := Va2.eq e6
    refine down_spec (P := Tp P) y6.ok.C y6.st hX0 (lvA hX1 hd) (lvC hX2 hu) (hPs y6) (y6.own (two_noT R B)) R.tp B.tp N.inv N.bd (n_t hD (n_b rfl)) (n_t (n_al hsz) (n_t hM (n_b rfl))) (n_t hts (n_t hn (n_b rfl))) ?_
    intro ph' pb' H' hk' bk' h' t' Γ kk tl R' B' I' Bd' hl'
    have y7 : Y X _ (wk1 ++ (hk' ++ bk')) _ _ := y6.calls (t' := t') (y6.own (two_noT R B)) kk tl
    exact y_nil (y_nil (y_nil (y_nil (y_nil (y_nil (y_nil (ret y7 W1 (HRep.mono (fun _ _ _ h => .inl h) R'.pt) (B'.mono fun _ _ _ h => .inl h.1) ((N.down I' Bd' hl').mono (Nat.le_add_right _ _) (n_2 (a := 0) rfl) (Nat.le_succ _)))))))))
  refine y_if_f (pb_eqi (hri up_hit) pv_int (by simpa using c7)) y5 fun s5 y5 => ?_
  exact y_nil (y_nil (y_nil (y_nil (y_nil (y_nil (ret y5 W1 (HRep.mono (fun _ _ _ h => .inl h) R) (B.mono fun _ _ _ h => .inl h) (N.mono (Nat.le_add_right _ _) (n_2 (a := 0) rfl) (Nat.le_succ _))))))))
end
end Mine
end
section
open PySem PySem.W PySem.Calls PyProof.Rows PySem.Spec
set_option Elab.async false
set_option maxRecDepth 100000
set_option maxHeartbeats 4000000
set_option rowWalk.seconds 0
set_option linter.unusedVariables false
namespace Mine
section
variable {X : Fn} {m : Str → Option Value} {news Γ : List (Addr × Obj)} {E : Value → Shared → Prop} {s : Shared}
theorem ev_dict0 {pos : Pos} {Q : Value → Shared → Prop} (y : Y X m news Γ s) (h : ∀ d o s', (d == sysModules) = false → o.IsDictOf (PySem.strKind X.prog X.w) [] → o.IsDictOf (PySem.intKind X.prog X.w) [] → Y X m ((d, o) :: news) Γ s' → Q (.ref d) s') :
    wpAny (model X.prog X.w) X.A (eval (.Dict [] [] pos) X.env) Q E s :=
  newDict_K y.z.F y.z.N y.ok.C.nolimit fun d h' o F' N' l1 lo a _ b _ => h d o _ lo a b (y.to (t := s.toks) (y.z.more l1 F' N'))
theorem ev_list0 {pos : Pos} {Q : Value → Shared → Prop} (y : Y X m news Γ s) (h : ∀ l s', Y X m ((l, listOf #[] 0) :: news) Γ s' → Q (.ref l) s') : wpAny (model X.prog X.w) X.A (eval (.List [] pos) X.env) Q E s :=
  ev_list pvs_nil y (by decide) (fun vs e => by rw [e]; rfl) fun vs l s' e y' => by subst e; exact h l s' y'
end
section
variable {prog : Program} {w : World} {K : Frag} {A : Around} {E : Value → Shared → Prop} {s : Shared} {h₀ : Heap} {R : Result → Shared → Prop}
theorem heap_init {x dx : Addr} (C : Cx K h₀) (hk : h₀.StaysIn s.heap) (hh : A.handled = none) (hd : A.depth < 950) (hu : A.units < 9000) (O : Own h₀ s.heap [(x, instObj 235 dx), (dx, dictOf [] 0)])
    (hR : ∀ h' t' es n td od q lv, Kept h₀ [(x, instObj 235 dx), (dx, dictOf [] 0)] s.heap h' [(x, instObj 235 dx), (dx, dictOf es n), (td, od), (q, listOf #[] 0)] → ERel es (hkv td q lv) → IsI 0 lv → od.IsDictOf (PySem.intKind prog w) [] → (td == sysModules) = false → R (.ok (.ret .none)) { s with heap := h', toks := t' }) :
    codeAny (model prog w) A (.call (.ref 115) ⟨[.ref x], []⟩) R s := by
  refine enterC (binds := [(Str.ofString "self", .ref x)]) C hk hh (Nat.lt_trans hu (by decide)) O C.KF.f115 rfl (Nat.lt_trans hd (by decide)) (fun _ _ _ => BindsTo.of_eq rfl) (locs rfl) rfl rfl rfl (by decide) ?_
  intro g L h₁ tk cdv A' X m0 hX0 hX1 hX2 y h0 hL hin
  refine y_asgattr (ev_dict0 y fun td od s1 lo1 _ hod y1 => ev_pvq (pv_loc rfl) y1 fun s2 y2 => ?_)
  refine c_setattr y2 (.tail _ (.head _)) (.tail (.tail .head)) .nil (.inr rfl) y2.ok.C.t_things fun s3 es n er y => ?_
  refine y_asgattr (ev_pv pv_int y fun lv s1 e1 y1 => ev_pvq (pv_loc rfl) y1 fun s2 y2 => ?_)
  refine c_setattr y2 (.tail _ (.head _)) (.tail (.tail .head)) er (.inr rfl) y2.ok.C.t_last fun s3 es n er y => ?_
  refine y_asgattr (ev_list0 y fun q s1 y1 => ev_pvq (pv_loc rfl) y1 fun s2 y2 => ?_)
  refine c_setattr y2 (.tail _ (.tail _ (.head _))) (.tail (.tail (.tail .head))) er (.inr rfl) y2.ok.C.t_dying fun s3 es n er y => ?_
  refine y_nil ?_
  have y' : Y X _ [(x, instObj 235 dx), (dx, dictOf es n), (td, od), (q, listOf #[] 0)] _ _ := y.perm ((List.perm_append_comm (l₁ := [_, _]) (l₂ := [_, _])).trans (List.Perm.swap _ _ _))
  rw [y.e]
  refine hR _ _ es n td od q lv (y'.kept h0 hin (List.Sublist.refl _) fun z hz => ?_) er e1 hod lo1
  simp only [List.mem_cons, List.not_mem_nil, or_false] at hz
  rcases hz with rfl | rfl | rfl | rfl
  · exact notT_inst
  · exact notT_dict rfl
  · exact dict_notT hod
  · exact notT_list
end
section
variable {X : Fn} {m : Str → Option Value} {news Γ : List (Addr × Obj)} {E : Value → Shared → Prop} {s : Shared}
theorem ev_Heap {p1 p2 : Pos} {Q : Value → Shared → Prop} (y : Y X m news Γ s) (hd : X.A.depth < 900) (hu : X.A.units < 8900)
    (h : ∀ x p hks s', HRep X.prog X.w No x p ⟨[], []⟩ hks → Y X m (hks ++ news) Γ s' → Q (.ref x) s') (hx : X.env.kindOf "Heap" = some .globalImplicit := by rfl) :
    wpAny (model X.prog X.w) X.A (eval (.Call (.Name (Str.ofString "Heap") p1) [] [] p2) X.env) Q E s := by
  refine ev_call0 y.ok.C.g_Heap y.ok.C.k_Heap y (fun s' y => ?_) hx
  have pl := y.ok.C.KF.plain 235 (.inr rfl)
  refine wpAny_call (make_K y.z.F y.z.N (z_kin y.z y.ok.C) pl.2.2.2.2 y.ok.C.KF.initH.1 (isFn_type y.ok.C.KF.initH.2) fun x dx h' F' N' l1 l2 => ?_)
  have z1 : Z X.g X.L h' m ((x, instObj 235 dx) :: (dx, dictOf [] 0) :: news) Γ := by
    refine ⟨F', N', ?_, y.z.T⟩
    rw [List.map_cons, List.map_cons, List.nodup_cons, List.nodup_cons]
    refine ⟨fun q => ?_, fun q => ?_, y.z.nd⟩
    · rcases List.mem_cons.mp q with q | q
      · have q' : x = dx := q
        exact absurd l2 (by rw [q']; exact Nat.lt_irrefl _)
      · obtain ⟨p, hp, e⟩ := List.mem_map.mp q
        have := l1 p (List.mem_append_left _ hp)
        have e' : p.1 = x := e
        exact Nat.lt_irrefl x (Nat.lt_trans (by rw [e'] at this; exact this) l2)
    · obtain ⟨p, hp, e⟩ := List.mem_map.mp q
      have := l1 p (List.mem_append_left _ hp)
      have e' : p.1 = dx := e
      exact Nat.lt_irrefl dx (by rw [e'] at this; exact this)
  have y1 : Y X m ([(x, instObj 235 dx), (dx, dictOf [] 0)] ++ news) Γ { s' with heap := h' } := y.to (t := s'.toks) z1
  have y2 : Y X m (news ++ [(x, instObj 235 dx), (dx, dictOf [] 0)]) Γ { s' with heap := h' } := y1.perm List.perm_append_comm
  have no : ∀ p ∈ [(x, instObj 235 dx), (dx, dictOf [] 0)], ¬ IsT p.2 := fun q hq => by
    simp only [List.mem_cons, List.not_mem_nil, or_false] at hq
    rcases hq with rfl | rfl
    · exact notT_inst
    · exact notT_dict rfl
  refine heap_init (h₀ := X.g) y2.ok.C y2.st y2.ok.hh (by rw [PyProof.Rows.depth_under_make]; exact n_lt (n_t (n_a (n_s hd (Nat.le_refl _)) (Nat.le_refl _)) (Nat.le_refl _)) (n_bl rfl)) (by rw [PyProof.Rows.units_under_make]; exact n_lt (n_t (n_a (n_s hu (Nat.le_refl _)) (Nat.le_refl _)) (Nat.le_refl _)) (n_bl rfl)) (y2.own no) ?_
  intro h'' t' es n td od q lv kk er elv hod lo
  exact ⟨rfl, h x ⟨dx, td, q, []⟩ _ _ (.mk er elv hod lo .nil .nil) ((y2.callK no kk).perm List.perm_append_comm)⟩
end
end Mine
end
section
open PySem PySem.W PySem.Calls PyProof.Rows PySem.Spec
set_option Elab.async false
set_option maxRecDepth 100000
set_option maxHeartbeats 4000000
set_option linter.unusedVariables false
namespace Mine
theorem ns_slots {h h' : Heap} {L : Addr} {m : Str → Option Value} (n : h.Ns L m) (k : ∀ o, h.get? L = some o → ∃ sl, h'.get? L = some { o with slots := sl }) : h'.Ns L m := by
  refine ctr fun hG234 => ?_; obtain ⟨o, es, ep, hL, r⟩ := n; refine hG234 ?_; clear hG234
  obtain ⟨sl, e⟩ := k o hL
  exact ⟨_, es, ep, e, r⟩
/-- a call that may have caught an exception: this frame's slots are free -/
theorem Z.callF {g h h' : Heap} {L : Addr} {m : Str → Option Value} {loc ks ks' Γ Γ' : List (Addr × Obj)} (z : Z g L h m (loc ++ ks) Γ) (O : Own g h ks) (k : KeptF [L] g ks h h' ks') (t : TupL h h' Γ') : Z g L h' m (loc ++ ks') (Γ' ++ Γ) := by
  have hin : ∀ p ∈ ks, p ∈ (loc ++ ks) ++ Γ := fun p hp => List.mem_append_left _ (List.mem_append_right _ hp)
  have nL : L ∉ ks.map (·.1) := fun q => by obtain ⟨p, hp, e⟩ := List.mem_map.mp q; exact (z.N p (hin p hp)).2.1 e
  have nd := z.nd
  rw [List.map_append, List.nodup_append] at nd
  refine ctr fun hG235 => ?_; obtain ⟨oL, es, ep, hL, r⟩ := id z.F.ns; refine hG235 ?_; clear hG235
  have one : ∀ b, b ≠ L → b ∉ [L] := fun b q e => q (List.mem_singleton.mp e)
  have gk : ∀ b o, g.get? b = some o → h'.get? b = some o := fun b o e => k.keep b o (z.F.keep b o e) (fun q => by
    obtain ⟨p, hp, rfl⟩ := List.mem_map.mp q
    rw [(z.N p (hin p hp)).2.2] at e; cases e) (one b fun q => by rw [q, kts_self z.F] at e; cases e)
  refine Z.addT ⟨⟨ns_slots z.F.ns fun o e => k.slot L o e (.head _), gk, z.F.above⟩, fun p hp => ?_, ?_, z.T⟩ t z.F.ns.lt z.F.keep
  · rcases List.mem_append.mp hp with hp | hp
    · rcases List.mem_append.mp hp with hp | hp
      · have q := z.N p (List.mem_append_left _ (List.mem_append_left _ hp))
        exact ⟨k.keep _ _ q.1 (fun e => nd.2.2 p.1 (List.mem_map_of_mem hp) p.1 e rfl) (one _ q.2.1), q.2⟩
      · refine ⟨k.own.at_ p hp, fun e => ?_, ?_⟩
        · rcases k.fresh p hp with q | q
          · exact nL (e ▸ q)
          · rw [e, hL] at q; cases q
        · rcases k.fresh p hp with q | q
          · obtain ⟨q', hq', e⟩ := List.mem_map.mp q; rw [← e]; exact (z.N q' (hin q' hq')).2.2
          · cases e : g.get? p.1 with
            | none => rfl
            | some o => rw [z.F.keep _ _ e] at q; cases q
    · have q := z.N p (List.mem_append_right _ hp)
      refine ⟨k.keep _ _ q.1 (fun e => ?_) (one _ q.2.1), q.2⟩
      obtain ⟨p', hp', e'⟩ := List.mem_map.mp e
      have e2 := O.at_ p' hp'
      rw [e', q.1] at e2
      have e3 : p.2 = p'.2 := Option.some.inj e2
      exact O.no p' hp' (e3 ▸ (z.T p hp).1)
  · rw [List.map_append, List.nodup_append]
    refine ⟨nd.1, k.own.nd, fun a ha b hb e => ?_⟩
    subst e
    obtain ⟨p, hp, rfl⟩ := List.mem_map.mp hb
    rcases k.fresh p hp with q | q
    · exact nd.2.2 _ ha _ q rfl
    · obtain ⟨p', hp', e⟩ := List.mem_map.mp ha
      rw [← e, (z.N p' (List.mem_append_left _ (List.mem_append_left _ hp'))).1] at q; cases q
theorem Y.callF {X : Fn} {m : Str → Option Value} {Γ Γ' : List (Addr × Obj)} {s : Shared} {h' : Heap} {t' : Tok} {loc ks ks' : List (Addr × Obj)} (y : Y X m (loc ++ ks) Γ s) (no : ∀ p ∈ ks, ¬ IsT p.2) (k : KeptF [X.L] X.g ks s.heap h' ks') (t : TupL s.heap h' Γ') : Y X m (loc ++ ks') (Γ' ++ Γ) { s with heap := h', toks := t' } :=
  y.to (y.z.callF (y.own no) k t)
end Mine
end
section
open PySem PySem.W PySem.Calls PyProof.Rows PySem.Spec
set_option Elab.async false
set_option maxRecDepth 100000
set_option maxHeartbeats 4000000
set_option rowWalk.seconds 0
set_option linter.unusedVariables false
namespace Mine
section
variable {X : Fn} {m : Str → Option Value} {news Γ : List (Addr × Obj)} {E : Value → Shared → Prop} {s : Shared}
theorem y_ifE {test : Expr} {body orelse rest : List Stmt} {pos : Pos} {Q : Flow → Shared → Prop}
    (h : wpAny (model X.prog X.w) X.A (isTrue test X.env (eval test X.env)) (fun b s' => wpAny (model X.prog X.w) X.A (execs (bif b then body else orelse) X.env) (KIf X rest Q E) E s') E s) :
    wpAny (model X.prog X.w) X.A (execs (.If test body orelse pos :: rest) X.env) Q E s := by
  repeat' walk1
  refine wpAny_mono h (fun b' s' q => ?_) (fun _ _ x => x)
  cases b' <;> exact q
theorem isTrue_notCall {f : Expr} {as : List Expr} {ks : List Keyword} {p1 p2 : Pos} {whole : Sem Value} {Q : Bool → Shared → Prop} (h : wpAny (model X.prog X.w) X.A (eval (.Call f as ks p1) X.env) (fun v s' => v = .bool true ∧ Q false s') E s) :
    wpAny (model X.prog X.w) X.A (isTrue (.UnaryOp .Not (.Call f as ks p1) p2) X.env whole) Q E s :=
  wpAny_isTrue_Not (wpAny_isTrue_value (wpAny_mono h (fun v s' q => by obtain ⟨rfl, q⟩ := q; exact wpAny_truthy_bool q) fun _ _ x => x))
/-- if not f(..) or not g(..) : both told true -/
theorem y_if_nots {f g : Expr} {as bs : List Expr} {ks ls : List Keyword} {p1 p2 p3 p4 p5 pos : Pos} {body rest : List Stmt} {Q : Flow → Shared → Prop}
    (h : wpAny (model X.prog X.w) X.A (eval (.Call f as ks p1) X.env) (fun v s1 => v = .bool true ∧ wpAny (model X.prog X.w) X.A (eval (.Call g bs ls p3) X.env) (fun v s2 => v = .bool true ∧ wpAny (model X.prog X.w) X.A (execs rest X.env) Q E s2) E s1) E s) :
    wpAny (model X.prog X.w) X.A (execs (.If (.BoolOp .Or [.UnaryOp .Not (.Call f as ks p1) p2, .UnaryOp .Not (.Call g bs ls p3) p4] p5) body [] pos :: rest) X.env) Q E s :=
  y_ifE (wpAny_isTrue_BoolOp (wpAny_allTrue_Or_cons (isTrue_notCall (wpAny_mono h (fun v s1 q => ⟨q.1, wpAny_allTrue_Or_cons (isTrue_notCall (wpAny_mono q.2 (fun v s2 q => ⟨q.1, wpAny_allTrue_Or_nil (y_nil q.2)⟩) fun _ _ x => x))⟩) fun _ _ x => x))))
/-- int(e) -/
theorem pv_intOf {e : Expr} {i : Int} {p1 p2 : Pos} (h1 : PV X m news Γ e (IsI i)) (h0 : X.env.kindOf "int" = some .globalImplicit := by rfl) (he : starEach [e] X.env = (false, eval e X.env) :: starEach [] X.env := by rfl) : PV X m news Γ (.Call (.Name (Str.ofString "int") p1) [e] [] p2) (IsI i) := fun E s y =>
  ev_type1E y.ok.C.b_int (by boot_fast) y (fun s' y' => ev_pv h1 y' fun v s2 e2 y2 => by
    obtain ⟨t, rfl⟩ := e2
    exact call_int_int ⟨⟨t, rfl⟩, y2⟩) (by decide) h0 (by decide) he
/-- x[:k] of a list -/
theorem ev_upto {x : Str} {k k1 : Nat} {p0 p1 p2 p3 : Pos} {l : Addr} {vs : List Value} {Q : Value → Shared → Prop} (h1 : PV X m news Γ (.Name x p0) (· = .ref l)) (hl : ∀ s', Y X m news Γ s' → s'.heap.IsList l vs.toArray) (y : Y X m news Γ s) (hsz : vs.length ≤ 1000)
    (h : ∀ t s', Y X m ((t, listOf (vs.take k).toArray 0) :: news) Γ s' → Q (.ref t) s') :
    wpAny (model X.prog X.w) X.A (eval (.Subscript (.Name x p0) (.Slice none (some (.Constant (.int (k : Int)) k1 p1)) none p2) p3) X.env) Q E s := by
  refine Subscript_ (ev_pvq h1 y fun s1 y1 => ?_)
  repeat' (first | (with_reducible show wpAny _ _ (subscriptTail _ _ _ _) _ _ _; fail) | walk1)
  refine slice_list (lo := none) (hi := some (k : Int)) y1.z.F y1.z.N (hl s1 y1) .none (.int _ _) (fun h' F' N' => ?_) (hsz := by rw [List.size_toArray]; exact Nat.le_trans hsz (Nat.le_of_ble_eq_true rfl))
  rw [slicePick_upto'] at N'
  exact h _ _ (y1.to (t := s1.toks + 1) (y1.z.more (fun p hp => Nat.lt_succ_of_lt (Heap.lt_size (y1.z.N p hp).1)) F' N'))
/-- all(e) of a list of truths -/
theorem ev_all {e : Expr} {p1 p2 : Pos} {Q : Value → Shared → Prop} (y : Y X m news Γ s)
    (h : ∀ s', Y X m news Γ s' → wpAny (model X.prog X.w) X.A (eval e X.env) (fun v s1 => ∃ l vs c m news Γ, v = .ref l ∧ Y X m news Γ s1 ∧ (l, listOf (List.toArray vs) c) ∈ news ∧ (∀ x ∈ vs, x = .bool true) ∧ ∀ s2, Y X m news Γ s2 → Q (.bool true) s2) E s')
    (h0 : X.env.kindOf "all" = some .globalImplicit := by rfl) (he : starEach [e] X.env = (false, eval e X.env) :: starEach [] X.env := by rfl) :
    wpAny (model X.prog X.w) X.A (eval (.Call (.Name (Str.ofString "all") p1) [e] [] p2) X.env) Q E s := by
  repeat' walk1
  refine wpAny_mono (pv_boot y.ok.C.b_all (by boot_fast) (by decide) h0 (by decide) _ _ (by assumption)) (fun v s' q => ?_) fun _ _ x => x
  obtain ⟨rfl, y'⟩ := q
  refine PyProof.Rows.callWith_builtin1 (spliced_more (wpAny_mono (h s' y') (fun v s2 q => spliced_none ?_) fun _ _ x => x) he) he rfl
  refine ctr fun hG27 => ?_; obtain ⟨l, vs, c, m, news, Γ, rfl, y2, hm, ht, hq⟩ := q; refine hG27 ?_; clear hG27
  refine call_all_walk (wpAny_pyIter_list (y2.z.isList hm) ?_)
  have z3 := y2.z.push { cls := .type "list_iterator", data := .fields #[.ref l, .int 0 0] }
  refine ⟨_, _, _, _, _, _, fun _ => true, rfl, Walks.list (A := X.A.in1) y2.ok.hh _ l (Nat.ne_of_lt (y2.z.lt (List.mem_append_left _ hm))) vs.toArray, ⟨⟨_, z3.get (.head _), rfl, rfl⟩, z3.isList (.tail _ hm)⟩, fun i v s Q E hP hQ => ?_, fun h' tk hk => ?_⟩
  · have hv : vs[i]? = some v := by simpa using hP
    rw [ht v (List.mem_of_getElem? hv)]
    exact wpAny_truthy_bool hQ
  · have e1 : ((List.range vs.toArray.size).all fun _ => true) = true := List.all_eq_true.mpr fun _ _ => rfl
    rw [e1]
    exact hq _ (y2.to (t := tk) (z3.dropIt (IsLit.notT (l := l) (i := 0) ⟨rfl, rfl⟩) fun b ob hb eb => hk b ob (fun q => hb (List.mem_singleton.mp q)) eb))
end
end Mine
end
section
open PySem PySem.W PySem.Calls PyProof.Rows PySem.Spec
set_option Elab.async false
set_option maxRecDepth 100000
set_option maxHeartbeats 4000000
set_option rowWalk.seconds 0
set_option linter.unusedVariables false
namespace Mine
noncomputable def mB : Nat → Nat
  | 0 => 0
  | i + 1 => 2 * mB i + 3
theorem mB_le : ∀ i, i ≤ 16 → mB i ≤ 2 ^ 20 := by decide
section
variable {prog : Program} {w : World} {K : Frag} {A : Around} {E : Value → Shared → Prop} {s : Shared} {Q : Flow → Shared → Prop}
theorem enterLaw {qual name bind : Str} {params : Arguments} {body : List Stmt} {deco : List Expr} {ret : Option Expr} {tps : List TypeParam} {tscope : Option Scope} {spos : Pos} {scope : Scope} {st : Stmt} {f : Addr} {cdv : Value} {m : Str → Option Value} {h₁ : Heap} {tk : Tok}
    (C : Cx K s.heap) (hh : A.handled = none) (hu : A.units < 9800) (F : Fr s.heap s.heap.objs.size h₁ m)
    (hst : st = .FunctionDef name params body deco ret tps scope tscope bind spos) (hkk : scope.kind = .function)
    (h : let X : Fn := ⟨prog, w, K, A.deeper (envOf qual scope s.heap.objs.size f cdv), envOf qual scope s.heap.objs.size f cdv, s, s.heap, s.heap.objs.size⟩;
      Y X m [] [] { s with heap := h₁, toks := tk } → wpAny (model X.prog X.w) X.A (execs body X.env) Q E { s with heap := h₁, toks := tk }) :
    wpAny (model prog w) (A.deeper (envOf qual (stScope st) s.heap.objs.size f cdv)) (execs (stBody st) (envOf qual (stScope st) s.heap.objs.size f cdv)) Q E { s with heap := h₁, toks := tk } := by
  subst hst
  exact h ⟨⟨F, fun _ h => (nomatch h), List.Pairwise.nil, fun _ h => (nomatch h)⟩, rfl, ⟨hkk, rfl, rfl, rfl, hh, C, by show A.units + 3 + 64 < cLine; simp only [cLine]; exact n_lt (n_t (n_a (n_t (n_a (n_s hu (Nat.le_refl _)) (Nat.le_refl _)) (Nat.le_refl _)) (Nat.le_refl _)) (Nat.le_refl _)) (n_bl rfl)⟩⟩
theorem bks_perm {α : Type} (a b c d e : α) (hks wks : List α) : (wks ++ (hks ++ [e, d, c, b, a])).Perm (a :: b :: c :: d :: e :: (hks ++ wks)) := by
  refine List.perm_append_comm.trans ?_
  refine (List.perm_append_comm.append_right wks).trans ?_
  rw [List.append_assoc]
  exact (List.reverse_perm [a, b, c, d, e]).append_right (hks ++ wks)
theorem law_walk {h₁ : Heap} {tk : Tok} {f l : Addr} {cdv : Value} {vals : List Value} {zs : List Int} (C : Cx K s.heap) (KT : KTrap K) (hh : A.handled = none) (hd : A.depth < 600) (hu : A.units < 5300) (K0 : Below A s.heap [] s.heap) (hl : s.heap.IsList l vals.toArray) (hI : IntsAre vals zs) (hn : vals.length ≤ 1000)
    (F : Fr s.heap s.heap.objs.size h₁ fun x => [(Str.ofString "script", Value.ref l)].reverse.lookup x)
    (hQ : ∀ h' m t, Fr s.heap s.heap.objs.size h' m → Q (.ret (.bool true)) { s with heap := h', toks := t }) :
    wpAny (model prog w) (A.deeper (envOf (Str.ofString "law") (stScope (topSt 30)) s.heap.objs.size f cdv)) (execs (stBody (topSt 30)) (envOf (Str.ofString "law") (stScope (topSt 30)) s.heap.objs.size f cdv)) Q E { s with heap := h₁, toks := tk } := by
  with_reducible refine' enterLaw (st := topSt 30) C hh ?hu F ?hst ?hkk ?_
  case hu => exact Nat.lt_trans hu (by decide)
  case hst => exact rfl
  case hkk => rfl
  intro X y
  have hX0 : X.A.handled = none := hh
  have hX1 : X.A.depth = A.depth + 1 := rfl
  have hX2 : X.A.units = A.units + 3 := rfl
  -- the well
  with_reducible refine y_asgeff ?_ ?hs
  case hs => rfl
  with_reducible refine ev_dict3 y ?_ ?hn
  case hn => decide
  intro d od0 s0 hod0 y0
  refine ev_comp (cl := []) (ev_upto (k := 48) (vs := vals) (pv_loc rfl) (fun s' y' => hl.at fun o e => y'.st _ _ e) y0 hn fun t s1 y1 => ?_) rfl
  have noT1 : ∀ q ∈ [(t, listOf (vals.take 48).toArray 0), (d, od0)], ¬ IsT q.2 := fun q hq => by
    simp only [List.mem_cons, List.not_mem_nil, or_false] at hq
    rcases hq with rfl | rfl
    · exact notT_list
    · exact dict_notT hod0
  have hI' := hI.take 48
  have hlen : (vals.take 48).length ≤ 48 := by rw [List.length_take]; exact Nat.min_le_left _ _
  let J12 : Nat → List Value → List (Addr × Obj) → List (Addr × Obj) → Prop := fun i ys nw Γ' => nw = [(t, listOf (vals.take 48).toArray 0), (d, od0)] ∧ ys.length = i ∧ i ≤ (vals.take 48).length ∧ ∃ ns, IntsAre ys ns ∧ ∀ k ∈ ns, (0 : Int) ≤ k ∧ k < 2147483647
  refine comp_list (l := t) (n := (vals.take 48).length) (J := J12) y1 noT1
    ⟨rfl, rfl, Nat.zero_le _, [], .nil, fun _ h => nomatch h⟩ (fun i ys nw Γ' h => ⟨by rw [h.1]; exact noT1, by have := h.2.1; have := h.2.2.1; lia⟩) ?_ ?_
  · intro i ys nw Γ' hJJ; refine ctr fun hG253 => ?_; obtain ⟨rfl, hy1, hy2, ns, hns, hb⟩ := hJJ; refine hG253 ?_; clear hG253
    refine ⟨_, _, .head _, by simp, fun b' g' C' I oI D dc m' v s2 E2 hgT hlt hv y2 => ?_⟩
    have hv' : (vals.take 48)[i]? = some v := by simpa using hv
    obtain ⟨z, tz, rfl⟩ : ∃ z tz, v = .int z tz := let ⟨z, tz, e, _⟩ := hI'.at _ _ hv'; ⟨z, tz, e⟩
    refine tests_nil ?_
    rw [if_pos rfl]
    refine ev_pv (X := X.comp _ _ b' g' C') (pv_mod (pv_intOf ((pv_loc up_hit).mono fun v e => ⟨tz, e⟩)) pv_int (by decide)) y2 fun r s3 e3 y3 => ?_
    refine ⟨_, _, _, y3, rfl, by simp [hy1], hlt, ns ++ [z.fmod 2147483647], ?_, fun k hk => ?_⟩
    · obtain ⟨tr, rfl⟩ := e3
      exact hns.append (.cons _ _ .nil)
    · rcases List.mem_append.mp hk with hk | hk
      · exact hb k hk
      · rw [List.mem_singleton.mp hk]; exact ⟨Int.fmod_nonneg_of_pos _ (by decide), Int.fmod_lt_of_pos _ (by decide)⟩
  intro ys nw Γ0 D dc s2 hJJ; refine ctr fun hG254 => ?_; obtain ⟨rfl, hy1, hy2, ns, hns, hb⟩ := hJJ; refine hG254 ?_; clear hG254; intro y2 t1
  clear y y0 y1
  refine ev_pv pv_int (y2.tk t1) fun v1 s3 e3 y3 => fun t2 => ev_pv pv_int (y3.tk t2) fun v2 s4 e4 y4 => ⟨_, _, _, _, y4, .tail (.tail .head), fun od s5 hod lo y5 => y_store y5 fun s6 y6 => ?_⟩
  have W0 : WRep prog w d D [(d, od), (D, listOf ys.toArray dc)] := .mk (i := 0) hod e3 e4 (by decide) (by decide) hns hb (n_e hy1 hlen)
  have y7 : Y X _ [(d, od), (D, listOf ys.toArray dc)] _ s6 := (y6.perm (news' := [(t, listOf (vals.take 48).toArray 0), (d, od), (D, listOf ys.toArray dc)]) (by
    refine List.Perm.trans ?_ (List.Perm.swap _ _ _)
    exact List.Perm.cons _ (List.Perm.swap _ _ _))).sub (List.sublist_cons_self _ _)
  clear y2 y3 y4 y5 y6 noT1 hl
  generalize hwk : [(d, od), (D, listOf ys.toArray dc)] = wks at W0 y7
  clear hwk hns hb hy1 hy2 hod
  -- the heap and the book
  refine y_asgT2 (ev_tup2E (ev_Heap y7 (lvA hX1 hd) (lvC hX2 hu) fun o ph hks s8 R8 y8 => ?_))
  with_reducible refine ev_dict4 y8 ?_ ?hn
  case hn => decide
  intro b ob0 s9 hob0 y9
  refine ev_dict0 y9 fun td ot s10 lo _ hot y10 => fun t3 => ev_dict0 (y10.tk t3) fun nd on s11 lo2 _ hon y11 => fun t4 => ev_list0 (y11.tk t4) fun hl s12 y12 => fun t5 => ev_list0 (y12.tk t5) fun ql s13 y13 =>
    ⟨_, _, _, _, y13, .tail (.tail (.tail (.tail .head))), fun ob s14 hob _ y14 => ?_⟩
  have B14 : BRep prog w No b ⟨td, nd, hl, ql, []⟩ ⟨[], []⟩ [] [(b, ob), (td, ot), (nd, on), (hl, listOf #[] 0), (ql, listOf #[] 0)] := .mk (hl := []) (ql := []) (nms := []) hob hot hon lo .nil .nil .nil .nil
  have y15 := y14.perm (bks_perm _ _ _ _ _ hks wks)
  clear y7 y8 y9 y10 y11 y12 y13 y14
  generalize [(b, ob), (td, ot), (nd, on), (hl, listOf #[] 0), (ql, listOf #[] 0)] = bks at B14 y15
  refine ⟨_, _, _, y15, fun tt s16 y16 => ⟨tt, _, _, _, _, _, rfl, TT.mk (.inr (.head _)) rfl rfl, y16, fun s17 y17 => ?_⟩⟩
  clear y15 y16
  have noT := three_noT W0 R8 B14
  generalize hΓ : (tt, tupO [Value.ref o, Value.ref b]) :: _ = Γ17 at y17
  refine y_forR (ev_type1E y17.ok.C.b_range rfl y17 fun s18 y18 => ev_pv pv_int y18 fun v s19 e19 y19 => ?_)
  obtain ⟨tv, rfl⟩ := e19
  refine c_range y19 fun rg s20 tr1 tr2 tr3 y20 hrg => ?_
  let J13 : Nat → (Str → Option Value) → List (Addr × Obj) → List (Addr × Obj) → Prop := fun i m news Γ => ∃ wk hk bk ph pb H held, news = wk ++ (hk ++ bk) ∧ m "well" = some (.ref d) ∧ m "heap" = some (.ref o) ∧ m "book" = some (.ref b) ∧ WRep prog w d D wk ∧ HRep prog w (Or No Γ) o ph H hk ∧ BRep prog w (Or No Γ) b pb H held bk ∧ Bnd (2 * i + 1) (mB i) i H held
  refine ⟨rg, 16, J13,
    _, _, _, _, _, _, rfl, hrg, (by decide), y20, ⟨wks, hks, bks, _, _, _, _, rfl, up_skip (up_skip up_hit), up_hit, up_skip up_hit, W0, R8.mono fun _ _ _ h => h.elim, B14.mono fun _ _ _ h => h.elim, Bnd.zero⟩, ?_, ?_⟩
  · intro i m news Γ hJJ; refine ex7 hJJ fun wk hk bk ph1 pb1 H held hKK => an8 hKK fun hE51 mw mh mb W R B N => ?_; clear hJJ hKK; subst hE51; intro hlt I oI v s1 E' hoI hv y1
    refine y_if_nots (ev_call y1.ok.C.g_law_act y1.ok.C.k_law_act (pvs3 (pv_loc (up_skip mw)) (pv_loc (up_skip mh)) (pv_loc (up_skip mb))) y1 fun vs s2 e y2 => ?_)
    obtain rfl := Va3.eq e
    have y3 : Y X _ ([(I, oI)] ++ (wk ++ (hk ++ bk))) _ _ := y2
    clear y1 y2
    refine act_spec (P := Or No Γ) y3.ok.C KT y3.st hX0 (lvA hX1 hd) (lvC hX2 hu) (Below.frs K0 (loc := [(I, oI)]) y3.z) (fun a o q => y3.z.tup (q.elim False.elim id)) (y3.own (loc := [(I, oI)]) (three_noT W R B)) W R B N (n_q (Nat.le_refl _)) (n_suc (n_lt (n_t (n_m 2 (n_s hlt (Nat.le_refl _))) (Nat.le_refl _)) (n_bl rfl))) (mB_le i (Nat.le_of_lt hlt)) (n_s hlt (n_b rfl)) ?_
    intro ph' pb' H' held' wk' hk' bk' h' t' Γ1 kk tl W' R' B' N'
    have y4 : Y X _ (((I, oI) :: wk') ++ (hk' ++ bk')) _ _ := y3.callF (t' := t') (three_noT W R B) kk tl
    clear kk tl y3
    have hts := N'.ts
    have hdl := N'.inv.dl
    have hsz := N'.sz
    have hmB := mB_le (i + 1) (n_suc hlt)
    refine ⟨rfl, ev_call y4.ok.C.g_law_agrees y4.ok.C.k_law_agrees (pvs2 (pv_loc (up_skip mh)) (pv_loc (up_skip mb))) y4 fun vs s5 e y5 => ?_⟩
    obtain rfl := Va2.eq e
    refine agrees_spec (P := Or (Or No Γ) Γ1) y5.ok.C y5.st hX0 (lvA hX1 hd) (lvC hX2 hu) (fun a o q => y5.z.tup (q.elim (fun q => List.mem_append_right _ (q.elim False.elim id)) (List.mem_append_left _))) (y5.own (loc := (I, oI) :: wk') (two_noT R' B')) R' B' (n_lt (n_t hts (n_t (n_a (n_s hlt (Nat.le_refl _)) (Nat.le_refl _)) (Nat.le_refl _))) (n_bl rfl)) (fun k t ht u hu => Nat.le_trans (N'.bd.dep k t ht u hu) (n_t (n_a (n_t (n_a (n_t (n_m 2 (n_s hlt (Nat.le_refl _))) (Nat.le_refl _)) (Nat.le_refl _)) (Nat.le_refl _)) (Nat.le_refl _)) (n_b rfl))) (by have h : mB (i + 1) = 2 * mB i + 3 := rfl; exact n_t (n_al hsz) (n_f h (n_t hmB (n_b rfl))))
      (fun t ht => by obtain ⟨k, hk⟩ := List.getElem?_of_mem ht; exact (N'.bd.nm k t hk).1) (n_t (n_al hdl) (n_t hts (n_t (n_a (n_s hlt (Nat.le_refl _)) (Nat.le_refl _)) (n_b rfl)))) ?_
    intro h2 t2 Γ2 kk tl
    refine ⟨rfl, y_nil ⟨_, _, _, y5.calls (t' := t2) (y5.own (loc := (I, oI) :: wk') (two_noT R' B')) kk tl, wk', hk', bk', ph', pb', H', held', rfl, up_skip mw, up_skip mh, up_skip mb, W', R'.mono fun _ _ _ h => ?_, B'.mono fun _ _ _ h => ?_, N'⟩⟩
    · exact (or_or h).imp id (List.mem_append_right _)
    · exact (or_or h).imp id (List.mem_append_right _)
  · intro m news Γ s1 hJJ; refine ex7 hJJ fun wk hk bk ph1 pb1 H held hKK => an8 hKK fun hE52 mw mh mb W R B N => ?_; clear hJJ hKK; subst hE52; intro y1
    refine ex7 B.hd fun ob1 ot1 on1 hls ql1 cc c2 bh => ?_
    have hll : hls.length = held.length := by simpa using bh.hh.length
    have hnl := N.hl
    have noT := three_noT W R B
    have iB : ∀ {q : Addr × Obj}, q ∈ bk → q ∈ wk ++ (hk ++ bk) := fun h => List.mem_append_right _ (List.mem_append_right _ h)
    refine y_reteff (ev_all y1 fun s2 y2 => ev_comp (cl := []) (ev_pvq (pv_dstr (pv_loc mb) (iB bh.m1) bh.hob) y2 fun s3 y3 => ?_) rfl)
    let J14 : Nat → List Value → List (Addr × Obj) → List (Addr × Obj) → Prop := fun i ys nw Γ' => nw = wk ++ (hk ++ bk) ∧ ys.length ≤ i ∧ i ≤ hls.length ∧ ∀ x ∈ ys, x = Value.bool true
    refine comp_list (l := pb1.h) (n := hls.length) (J := J14) y3 noT
      ⟨rfl, Nat.zero_le _, Nat.zero_le _, fun _ h => nomatch h⟩ (fun i ys nw Γ' h => ⟨by rw [h.1]; exact noT, by have := h.2.1; have := h.2.2.1; lia⟩) ?_ ?_
    · rintro i ys nw Γ' ⟨rfl, hy1, hy2, hys⟩
      refine ⟨_, _, iB bh.m4, by simp, fun b' g' C' I oI D2 dc2 m' v s4 E2 hgT hlt hv y4 => ?_⟩
      have hv' : hls[i]? = some v := by simpa using hv
      have hil : i < held.length := by exact n_ls hlt (Nat.le_of_eq hll)
      obtain ⟨u', hu1, hu2⟩ := bh.hh.get (i := i) (d := held[i].py) (by simp [hil])
      rw [hv'] at hu1; cases hu1
      have hug : VR (Gt g') v held[i].py := hu2.mono2 fun a o t h => hgT a o t (.inr (h.elim False.elim id))
      have hvm : held[i].size ≤ vsz held := sizes_mem (List.getElem_mem hil)
      have hsz := N.sz
      have hmB := mB_le 16 (by decide)
      refine tests_nil ?_
      rw [if_pos rfl]
      refine ev_call (X := X.comp _ _ b' g' C') y4.ok.C.g_law_value_told y4.ok.C.k_law_value_told (pvs1 (pv_loc up_hit)) y4 fun vs s5 e5 y5 => ?_
      obtain rfl := Va1.eq e5
      refine told_spec (P := Gt g') y5.ok.C y5.st hX0 (lvA hX1 hd) (lvC hX2 hu) (fun a o h => y5.z.old h) hug (Nat.le_trans (N.hd _ (List.getElem_mem hil)) (by decide)) (n_t hvm (n_t (n_ar hsz) (n_t hmB (n_b rfl)))) ?_
      intro h' t' Γ2 kk tl
      refine ⟨_, _, _, y5.call0 (t' := t') kk tl, rfl, by simp; exact hy1, hlt, fun x hx => ?_⟩
      rcases List.mem_append.mp hx with hx | hx
      · exact hys x hx
      · exact List.mem_singleton.mp hx
    · rintro ys nw Γ' D2 dc2 s4 ⟨rfl, hy1, hy2, hys⟩ y4
      refine ⟨D2, ys, dc2, _, _, _, rfl, y4, .head _, hys, fun s5 y5 => ?_⟩
      rw [y5.e]
      exact hQ _ _ _ y5.z.F
end
end Mine
end
section
open PySem PySem.W PySem.W.X PyProof.Rows
set_option Elab.async true
set_option maxRecDepth 100000
set_option maxHeartbeats 0
namespace Mine
theorem all_mem {α : Type} {P : α → Prop} {a : α} {l : List α} (h : P a) (r : ∀ x ∈ l, P x) : ∀ x ∈ a :: l, P x := fun x hx => by
  rcases List.mem_cons.mp hx with rfl | hx
  · exact h
  · exact r x hx
theorem all_nil {α : Type} {P : α → Prop} : ∀ x ∈ ([] : List α), P x := fun _ h => nomatch h
end Mine
namespace Mine.hd
theorem tw12734883757948102444 : True := trivial
theorem tw17311223219408574766 : True := trivial
theorem tw13047593935725612058 : True := trivial
theorem tw7519716089354478335 : True := trivial
theorem tw14892549342360969540 : True := trivial
theorem tw978945382295711627 : True := trivial
theorem tw4065347644161347641 : True := trivial
theorem tw5961118342813265553 : True := trivial
theorem tw9641152695372364146 : True := trivial
theorem tw18185175575083235020 : True := trivial
theorem tw11128854368766332075 : True := trivial
theorem tw8068729725432388964 : True := trivial
theorem tw10216474801634566288 : True := trivial
theorem tw5148922909946612681 : True := trivial
theorem tw17869498258381001651 : True := trivial
theorem tw5781342201191254626 : True := trivial
theorem tw17711083657039698284 : True := trivial
theorem tw5732804406350252772 : True := trivial
theorem tw1452849714261714991 : True := trivial
theorem tw16302227732802510677 : True := trivial
theorem tw14620637471214046174 : True := trivial
theorem tw12095249980020491069 : True := trivial
theorem tw12631932088317031055 : True := trivial
theorem tw14176624398918483544 : True := trivial
theorem tw15043168886218598503 : True := trivial
theorem tw2867327485932766208 : True := trivial
theorem tw6990203504111849199 : True := trivial
theorem tw11652457597714270106 : True := trivial
theorem tw16649331688326792143 : True := trivial
theorem tw3259873300814134281 : True := trivial
theorem tw13372043803930879067 : True := trivial
theorem tw4856431653887292112 : True := trivial
theorem tw307737655149646647 : True := trivial
theorem tw3953601041324332601 : True := trivial
theorem tw11117797201346649052 : True := trivial
theorem tw2216850387143573719 : True := trivial
theorem tw18322514126500204803 : True := trivial
theorem tw6838551448383532254 : True := trivial
theorem tw461538923250603899 : True := trivial
theorem tw18241275227582772068 : True := trivial
theorem tw1847840615245081061 : True := trivial
theorem tw8047900516022102942 : True := trivial
theorem tw8671608845466749128 : True := trivial
theorem tw8343274005884668182 : True := trivial
theorem tw6998783941825042932 : True := trivial
theorem tw16772102934027710169 : True := trivial
theorem tw12936449754285732098 : True := trivial
theorem tw13330244855972007585 : True := trivial
theorem tw2114630138375439770 : True := trivial
theorem tw7752767780024739350 : True := trivial
theorem tw17650839729002327288 : True := trivial
theorem tw6528754448969337418 : True := trivial
theorem tw5373601922739893978 : True := trivial
theorem tw17447410573909459338 : True := trivial
theorem tw8770205317985620760 : True := trivial
theorem tw7540655947842036084 : True := trivial
theorem tw14353793391729792155 : True := trivial
theorem tw4014540891139286612 : True := trivial
theorem tw7746578258024575070 : True := trivial
theorem tw12588582704262371052 : True := trivial
theorem tw5282504435634884242 : True := trivial
theorem tw11893437276241958245 : True := trivial
theorem tw11953376511379268794 : True := trivial
theorem tw3182187488490625086 : True := trivial
theorem tw1382963296337349011 : True := trivial
theorem tw18300207936620678264 : True := trivial
theorem tw15368132723985388332 : True := trivial
theorem tw13518370688599389936 : True := trivial
theorem tw5363564295841288755 : True := trivial
theorem tw5562173858411828344 : True := trivial
theorem tw13919464512627920130 : True := trivial
theorem tw7891253978561527248 : True := trivial
theorem tw2167537188350426706 : True := trivial
theorem tw5278057926702712004 : True := trivial
theorem tw13903934854276604550 : True := trivial
theorem tw3443669649825651883 : True := trivial
theorem tw3915529967508079626 : True := trivial
theorem tw6545403380812914513 : True := trivial
theorem tw3480954088277226078 : True := trivial
theorem tw13609717118414637909 : True := trivial
theorem tw12173100003817136821 : True := trivial
theorem tw7082855905992002993 : True := trivial
theorem tw11631869004601391166 : True := trivial
theorem tw14400467628812073631 : True := trivial
theorem tw4478964076566166474 : True := trivial
theorem tw6982297934935202809 : True := trivial
theorem tw14294001040229213422 : True := trivial
theorem tw6819123309680001836 : True := trivial
theorem tw17901334829092211166 : True := trivial
theorem tw5987830557187376847 : True := trivial
theorem tw2195365466389143174 : True := trivial
theorem tw13225837485096350037 : True := trivial
theorem tw16037735763661986305 : True := trivial
theorem tw6598312636042714100 : True := trivial
theorem tw3759623122121258479 : True := trivial
theorem tw1865391376527767206 : True := trivial
theorem tw8117029840178788049 : True := trivial
theorem tw8545014587354053640 : True := trivial
theorem tw9427301549700849589 : True := trivial
theorem tw9421340871869096474 : True := trivial
theorem tw1882180444382439491 : True := trivial
theorem tw12050417470231563642 : True := trivial
theorem tw190519026028168232 : True := trivial
theorem tw9277588360372424766 : True := trivial
theorem tw17047115858639842297 : True := trivial
theorem tw17420951861521290806 : True := trivial
theorem tw5978321128707920903 : True := trivial
theorem tw6060742912462422084 : True := trivial
theorem tw9783614193127449063 : True := trivial
theorem tw5635641802508607975 : True := trivial
theorem tw8977307856219701671 : True := trivial
theorem tw13483081372092288885 : True := trivial
theorem tw8727321023445011275 : True := trivial
theorem tw2274498078352570744 : True := trivial
theorem tw4993660671451451078 : True := trivial
theorem tw3085183777334472315 : True := trivial
theorem tw1129884963351977449 : True := trivial
theorem tw5716766192118558609 : True := trivial
theorem tw7085514621470718492 : True := trivial
theorem tw6830512106363814048 : True := trivial
theorem tw13855946660403688772 : True := trivial
theorem tw10170382586518783626 : True := trivial
theorem tw1869635642477389258 : True := trivial
theorem tw15166520500009309586 : True := trivial
theorem tw16794629799341752650 : True := trivial
theorem tw10403243965636340961 : True := trivial
theorem tw9557236495431379559 : True := trivial
theorem tw7366208706002141716 : True := trivial
theorem tw4172343393113369950 : True := trivial
theorem tw16945582573551092051 : True := trivial
theorem tw4015398097383911347 : True := trivial
theorem tw3828038474966422129 : True := trivial
theorem tw7296651951206262968 : True := trivial
theorem tw13217225542625558698 : True := trivial
theorem tw9386895884608548742 : True := trivial
theorem tw13638418597567726942 : True := trivial
theorem tw3381375190539634487 : True := trivial
theorem tw13828106393651249627 : True := trivial
theorem tw17588044629489971554 : True := trivial
theorem tw10727248033764811480 : True := trivial
theorem tw4851647983119433812 : True := trivial
theorem tw16473244170626142550 : True := trivial
theorem tw226724450230711188 : True := trivial
theorem tw14960593345356199642 : True := trivial
theorem tw10743916045514856203 : True := trivial
theorem tw10784824025267889561 : True := trivial
theorem tw14705683404202351889 : True := trivial
theorem tw15508949281206285077 : True := trivial
theorem tw4272726840584523970 : True := trivial
theorem tw12487502673411948298 : True := trivial
theorem tw3109861748172591687 : True := trivial
theorem tw16828841361933241965 : True := trivial
theorem tw9385043393339334712 : True := trivial
theorem tw15595854959937240912 : True := trivial
theorem tw17950676927832955104 : True := trivial
theorem tw10458740792067480800 : True := trivial
theorem tw3219085151875037572 : True := trivial
theorem tw1506431575118746342 : True := trivial
theorem tw17183224562656869120 : True := trivial
theorem tw13866372431405929976 : True := trivial
theorem tw12112201142124510154 : True := trivial
theorem tw15833661619300960221 : True := trivial
theorem tw17213754286329925777 : True := trivial
theorem tw16091413853298234908 : True := trivial
theorem tw3530705653197291679 : True := trivial
theorem tw16904818350239718627 : True := trivial
theorem tw6820862383352777685 : True := trivial
theorem tw402640490398009360 : True := trivial
theorem tw8716120427605611371 : True := trivial
theorem tw15837987909243819085 : True := trivial
theorem tw8960069828448710407 : True := trivial
theorem tw7120233287515763914 : True := trivial
theorem tw4535880929033905797 : True := trivial
theorem tw15642763164714097627 : True := trivial
theorem tw6276725880618359904 : True := trivial
theorem tw991583007596301734 : True := trivial
theorem tw18293851220164018083 : True := trivial
theorem tw3789350110615891812 : True := trivial
theorem tw4478166936697009375 : True := trivial
theorem tw1589133516308662214 : True := trivial
theorem tw13431754692932380062 : True := trivial
theorem tw9170477692918782315 : True := trivial
theorem tw18103342009636024947 : True := trivial
theorem tw15967140613478806237 : True := trivial
theorem tw16194383521188589630 : True := trivial
theorem tw432457690288141553 : True := trivial
theorem tw189712035060473897 : True := trivial
theorem tw11210553801493137410 : True := trivial
theorem tw17387473266821786944 : True := trivial
theorem tw4944386906409230657 : True := trivial
theorem tw6123773746684550334 : True := trivial
theorem tw7068711184596962023 : True := trivial
theorem tw1413172679324656950 : True := trivial
theorem tw9719896912496429819 : True := trivial
theorem tw9602920947052083033 : True := trivial
theorem tw4343815846532229135 : True := trivial
theorem tw1580110805410547442 : True := trivial
theorem tw10583446816852156582 : True := trivial
theorem tw10030107230732127627 : True := trivial
theorem tw12949589719889679912 : True := trivial
theorem tw8879563391730754479 : True := trivial
theorem tw8268277133935991078 : True := trivial
theorem tw14955159897011116063 : True := trivial
theorem tw10246146449241189800 : True := trivial
theorem tw5130813555471234732 : True := trivial
theorem tw7512474625130614241 : True := trivial
theorem tw16259696140248634718 : True := trivial
theorem tw15089522573102190283 : True := trivial
theorem tw11917015161858427179 : True := trivial
theorem tw16154546982801380032 : True := trivial
theorem tw18166333605607142505 : True := trivial
theorem tw11513968764499736323 : True := trivial
theorem tw212345690472687942 : True := trivial
theorem tw16299908979028503884 : True := trivial
theorem tw11054480109507316185 : True := trivial
theorem tw11631947586910100387 : True := trivial
theorem tw2327210489368252092 : True := trivial
theorem tw14352634086879598012 : True := trivial
theorem tw14560493823538711346 : True := trivial
theorem tw2386827423013361158 : True := trivial
theorem tw5480042469492414594 : True := trivial
theorem tw16634568088961857937 : True := trivial
theorem tw5629675986466331604 : True := trivial
theorem tw2101469004524951375 : True := trivial
theorem tw15615537253650120727 : True := trivial
theorem tw8934143017859847078 : True := trivial
theorem tw464777395874653626 : True := trivial
theorem tw1836080755315867724 : True := trivial
theorem tw1013155817946168525 : True := trivial
theorem tw17330945745186091897 : True := trivial
theorem tw16970440968685349367 : True := trivial
theorem tw1409312971732116557 : True := trivial
theorem tw7514664677682496492 : True := trivial
theorem tw5292301768408028288 : True := trivial
theorem tw18093812233618175256 : True := trivial
theorem tw12399718760709695909 : True := trivial
theorem tw5054737718236178183 : True := trivial
theorem tw4360684699965382250 : True := trivial
theorem tw17672654358674132775 : True := trivial
theorem tw8735263284916673568 : True := trivial
theorem tw17893044597097874663 : True := trivial
theorem tw13267510147771200024 : True := trivial
theorem tw11032806212648032379 : True := trivial
theorem tw8112040973832200146 : True := trivial
theorem tw15910714762333108613 : True := trivial
theorem tw8959176491354863721 : True := trivial
theorem tw2930668341846507884 : True := trivial
theorem tw13277076834127875243 : True := trivial
theorem tw13783031573616600631 : True := trivial
theorem tw15220180469806662145 : True := trivial
theorem tw7023726343779634624 : True := trivial
theorem tw5511420028821071320 : True := trivial
theorem tw13315533130655954831 : True := trivial
theorem tw3309697970292668127 : True := trivial
theorem tw7270182246851987180 : True := trivial
theorem tw12614811148066621264 : True := trivial
theorem tw9741134391959003819 : True := trivial
theorem tw14553816603554493358 : True := trivial
theorem tw1895953908935734384 : True := trivial
theorem tw10949625832625181284 : True := trivial
theorem tw11709330566771433103 : True := trivial
theorem tw16722109127936396110 : True := trivial
theorem tw11402939732021071671 : True := trivial
theorem tw675207862602254399 : True := trivial
theorem tw5608270528595127837 : True := trivial
theorem tw6411954120941647267 : True := trivial
theorem tw16713699803418581334 : True := trivial
theorem tw922143313871775805 : True := trivial
theorem tw10792051664901133789 : True := trivial
theorem tw2391449824757734642 : True := trivial
theorem tw17258206423299326598 : True := trivial
theorem tw15416985209724490359 : True := trivial
theorem tw3442329435671937591 : True := trivial
theorem tw12070051907170230399 : True := trivial
theorem tw9499510787657705874 : True := trivial
theorem tw6038821095411175016 : True := trivial
theorem tw16211521421427940678 : True := trivial
theorem tw2442259710966052079 : True := trivial
theorem tw2603259988358896889 : True := trivial
theorem tw17714235663813219645 : True := trivial
theorem tw5366084841770067474 : True := trivial
theorem tw4315991029959535628 : True := trivial
theorem tw1800889605409440832 : True := trivial
theorem tw9960721518486171458 : True := trivial
theorem tw8990313861142287110 : True := trivial
theorem tw16007149819294483003 : True := trivial
theorem tw5036846961687405229 : True := trivial
theorem tw8134915037123179040 : True := trivial
theorem tw17903497710992402801 : True := trivial
theorem tw9345929723534960622 : True := trivial
theorem tw3919010098100093602 : True := trivial
theorem tw1997569388931296116 : True := trivial
theorem tw17948085552500728524 : True := trivial
theorem tw5416991563250132298 : True := trivial
theorem tw11389486352061984695 : True := trivial
theorem tw3008623586974134963 : True := trivial
theorem tw16920754564084929960 : True := trivial
theorem tw17975533764899295144 : True := trivial
theorem tw16868993833207775613 : True := trivial
theorem tw1848646778235469078 : True := trivial
theorem tw4402725079659364252 : True := trivial
theorem tw11251137523995926341 : True := trivial
theorem tw17739348878880393726 : True := trivial
theorem tw13770079208771991547 : True := trivial
theorem tw15790720579355451973 : True := trivial
theorem tw11319892378374348655 : True := trivial
theorem tw3452082135128663414 : True := trivial
theorem tw728884934406724761 : True := trivial
theorem tw13368278939475635651 : True := trivial
theorem tw11465210709893060100 : True := trivial
theorem tw16029623286316568529 : True := trivial
theorem tw3451239065008710300 : True := trivial
theorem tw15344866539931968096 : True := trivial
theorem tw18291419657060728153 : True := trivial
theorem tw11319097763535126812 : True := trivial
theorem tw15759970867653108152 : True := trivial
theorem tw6407587892757256292 : True := trivial
theorem tw15411387601460861337 : True := trivial
theorem tw4086058157674990017 : True := trivial
theorem tw7494724483528729301 : True := trivial
theorem tw9673543361469618366 : True := trivial
theorem tw6082411064634330575 : True := trivial
theorem tw9566141503761928105 : True := trivial
theorem tw16157073509204512506 : True := trivial
theorem tw3571134770919094901 : True := trivial
theorem tw15529170255622000948 : True := trivial
theorem tw13181700845877081190 : True := trivial
theorem tw16345102440705955213 : True := trivial
theorem tw12647368939536790636 : True := trivial
theorem tw16240987189780228909 : True := trivial
theorem tw7754304195085646258 : True := trivial
theorem tw1197925565968671727 : True := trivial
theorem tw11754176132448286083 : True := trivial
theorem tw3493717111155160527 : True := trivial
theorem tw22551697357593593 : True := trivial
theorem tw6291416237084387574 : True := trivial
theorem tw3795277891434052102 : True := trivial
theorem tw6868836192036940282 : True := trivial
theorem tw7943647380988272828 : True := trivial
theorem tw7355570028127101125 : True := trivial
theorem tw6767318904944593275 : True := trivial
theorem tw10601615944963115059 : True := trivial
theorem tw7296583596125217682 : True := trivial
theorem tw10678649693572172417 : True := trivial
theorem tw14478148883734587675 : True := trivial
theorem tw12271959270614036898 : True := trivial
theorem tw2608437505485318709 : True := trivial
theorem tw541196102884509978 : True := trivial
theorem tw3646829019195819677 : True := trivial
theorem tw18264374347568628810 : True := trivial
theorem tw4971549296188076032 : True := trivial
theorem tw17177331786930743035 : True := trivial
theorem tw758273949599710562 : True := trivial
theorem tw7289634563603522867 : True := trivial
theorem tw17542962492245011380 : True := trivial
theorem tw17252143746492648416 : True := trivial
theorem tw6184460063843016694 : True := trivial
theorem tw14457593812595234344 : True := trivial
theorem tw5343241284826551009 : True := trivial
theorem tw11162318198679636149 : True := trivial
theorem tw18219297243305740317 : True := trivial
theorem tw4702841417184801058 : True := trivial
theorem tw15367242080415987702 : True := trivial
theorem tw11136197038861592535 : True := trivial
theorem tw11660266114150955751 : True := trivial
theorem tw6442067068224118133 : True := trivial
theorem tw16477043939570097188 : True := trivial
theorem tw16171809288044610508 : True := trivial
theorem tw15615420239508185596 : True := trivial
theorem tw3229955645248102723 : True := trivial
theorem tw10603584201595350602 : True := trivial
theorem tw14980023328507725902 : True := trivial
theorem tw11151547217846952531 : True := trivial
theorem tw2887051446865420828 : True := trivial
theorem tw2068664650715991707 : True := trivial
theorem tw1241404454085649124 : True := trivial
theorem tw2329189449893159454 : True := trivial
theorem tw5190246844813560578 : True := trivial
theorem tw14103535550066685397 : True := trivial
theorem tw8356816923877370021 : True := trivial
theorem tw26425463804135960 : True := trivial
theorem tw3350844169311001129 : True := trivial
theorem tw15683763237869141255 : True := trivial
theorem tw16432713993328977331 : True := trivial
theorem tw4297731678662094536 : True := trivial
theorem tw12629568148972539762 : True := trivial
theorem tw16011055738799735888 : True := trivial
theorem tw8228950375871286339 : True := trivial
theorem tw16064382804478563927 : True := trivial
theorem tw13288532949848898423 : True := trivial
theorem tw6394381022753523788 : True := trivial
theorem tw17062030032774818151 : True := trivial
theorem tw6305734824756694309 : True := trivial
theorem tw2252305205657439004 : True := trivial
theorem tw4494801613693538912 : True := trivial
theorem tw10424393626065333798 : True := trivial
theorem tw1654005544900583800 : True := trivial
theorem tw1439246655266547700 : True := trivial
theorem tw6438293893037913957 : True := trivial
theorem tw3429492842335990350 : True := trivial
end Mine.hd
theorem Mine.hd : PySem.Challenge.rw_pc0020_01.Holds := by
  w_on; o_law; k_head; (case hw => w_witness2)
  k_go0
  rename Frag.In _ _ => KX'
  rename Top _ _ _ _ _ _ => T'
  rename Below _ _ _ _ => K0'
  rename Fr _ _ _ _ => F'
  rename IntsAre _ _ => hI'
  rename Heap.IsList _ _ _ => hL'
  rename ¬ _ < _ => hc'
  rename Shared.gens _ = _ => hg'
  refine Mine.law_walk ⟨?kf, KX', ⟨_, _, _, _, _, T'⟩⟩ ?kt rfl (by decide) (by decide) K0' hL' hI' ?len F' (fun h' m t F2 => ?fin)
  case len => have := hI'.length; lia
  case fin =>
    refine goodW_bool (b := true) F2 hg' (raisesW_false (by wrow_none_raised)) ?_
    first | (with_unfolding_all rfl) | wrow_post
  case kf =>
    constructor
    case glob => unfold Mine.globTab; repeat' (first | exact Mine.all_nil | refine Mine.all_mem rfl ?_)
    case boot => unfold Mine.bootTab; repeat' (first | exact Mine.all_nil | refine Mine.all_mem rfl ?_)
    case meth => unfold Mine.methTab; repeat' (first | exact Mine.all_nil | refine Mine.all_mem ⟨rfl, rfl⟩ ?_)
    case keep => unfold Mine.globTab; repeat' (first | exact Mine.all_nil | refine Mine.all_mem (.inl rfl) ?_ | refine Mine.all_mem (.inr (.inl rfl)) ?_ | refine Mine.all_mem (.inr (.inr (.inl rfl))) ?_ | refine Mine.all_mem (.inr (.inr (.inr (.inl rfl)))) ?_ | refine Mine.all_mem (.inr (.inr (.inr (.inr rfl)))) ?_)
    case keepM => unfold Mine.methTab; repeat' (first | exact Mine.all_nil | refine Mine.all_mem rfl ?_)
    case attr => unfold Mine.dataTab; repeat' (first | exact Mine.all_nil | refine Mine.all_mem ⟨rfl, rfl⟩ ?_)
    case plain =>
      intro C hC
      rcases hC with rfl | rfl
      · exact ⟨fun _ => rfl, rfl, rfl, rfl, rfl⟩
      · exact ⟨fun _ => rfl, rfl, rfl, rfl, rfl⟩
    case initT => exact ⟨rfl, rfl⟩
    case initH => exact ⟨rfl, rfl⟩
    case counted => exact ⟨_, _, _, _, rfl⟩
    all_goals exact ⟨_, _, _, _, _, _, rfl, rfl⟩
  case kt =>
    constructor
    case cls => exact ⟨_, _, _, _, _, _, _, _, _, _, _, _, _, _, _, rfl⟩
    case ini => exact ⟨rfl, rfl⟩
    case f28 => exact ⟨_, _, _, _, _, _, rfl, rfl⟩
    all_goals rfl
end
theorem PySem.Challenge.cw_pc0020_01_holds : PySem.Challenge.rw_pc0020_01.Holds :=
  Mine.hd
