import JvmDerived
import JvmDerived.Pilot.@@N@@Statement
import JvmDerived.Pilot.@@N@@Code
set_option linter.unusedVariables false
set_option linter.unusedSimpArgs false
namespace Jvm.RoadKit
open Sem ClassFile Op Lib Jvm.Stand Jvm.Free Jvm.LawKit
section New
variable {p : Program} {l : Launch} {e : Env} {R : Room} {s : State} {m : MethodId} {args : Array Value} {below : List Frame} {meth : Method} {c : Code} {T : State} {locs : List Loc} {cells slots : Nat}
theorem retI (X : Stand p l e R s m args below meth c T locs cells slots) (hx : p.tables.exec = Jvm.exec) {pc : Nat} {Ls : Array Slot} {z : Int32} {rest : List Value} (hret : meth.sig.returnType = some .int) (hd : decode c.code pc = .ok (.ireturn, 1)) {fs : List Frame}
    (hl : ∀ (f : JFrame) (acts : List Action), f.method = m → f.locked = none → f.entered = [] → (doReturn e (T.setTop f) acts (some (.int z))).1 = T.setFrames fs) : Steps p.tables e below (T.setTop (mkF m pc Ls (.int z :: rest))) (T.setFrames fs) := by
  have hm' : T.vm.method? m = some meth := X.method'
  have hn : narrow .int (.int z) = .int z := rfl
  show Steps p.tables e below (T.setTop { method := m, pc := pc, locals := Ls, stack := _ :: rest, locked := none }) _
  jvm_step X.here [X.here.top, hx, hd, hm', hret, hn]
  first | (intro acts; rw [hl _ acts rfl rfl rfl]) | rw [hl _ _ rfl rfl rfl]
  exact Steps.refl _
end New
end Jvm.RoadKit
namespace Jvm.Pilot.@@N@@
open Jvm Jvm.ClassFile Sem Op Lib Jvm.Free Jvm.Stand Jvm.LawKit Jvm.RoadKit Bundle Jvm.Pilot.@@N@@.Jvm.D
/- records: scalars, int-like arrays, long arrays -/
abbrev Rec : Type := (Nat → Int32) × (Nat → Int32 → Int32) × (Nat → Int32 → Int64)
def zrec : Rec := (fun _ => 0, fun _ _ => 0, fun _ _ => 0)
def gI (ob : Rec) (k : Nat) : Int32 := ob.1 k
def gA (ob : Rec) (k : Nat) (i : Int32) : Int32 := ob.2.1 k i
def gJ (ob : Rec) (k : Nat) (i : Int32) : Int64 := ob.2.2 k i
def sI (ob : Rec) (k : Nat) (v : Int32) : Rec := (fun j => if j = k then v else ob.1 j, ob.2)
def sA (ob : Rec) (k : Nat) (i v : Int32) : Rec := (ob.1, fun j x => if j = k ∧ x = i then v else ob.2.1 j x, ob.2.2)
def sJ (ob : Rec) (k : Nat) (i : Int32) (v : Int64) : Rec := (ob.1, ob.2.1, fun j x => if j = k ∧ x = i then v else ob.2.2 j x)
def chk {γ : Type} (n i : Int32) (A : Option γ) : Option γ := if i < 0 then none else if i < n then A else none
def dvz {γ : Type} (y : Int32) (A : Option γ) : Option γ := if y = 0 then none else A
def bind2 {α β γ : Type} (o : Option (α × β)) (f : α → β → Option γ) : Option γ := o.bind fun q => f q.1 q.2
def bind3 {α β γ δ : Type} (o : Option (α × β × δ)) (f : α → β → δ → Option γ) : Option γ := o.bind fun q => f q.1 q.2.1 q.2.2
theorem ite_el {c : Prop} [Decidable c] {γ : Type} {A B : Option γ} {r : γ} {Q : Prop} (h : (if c then A else B) = some r) (t : c → A = some r → Q) (e : ¬ c → B = some r → Q) : Q := by
  by_cases hc : c
  · rw [if_pos hc] at h; exact t hc h
  · rw [if_neg hc] at h; exact e hc h
theorem bind_el {α γ : Type} {o : Option α} {f : α → Option γ} {r : γ} {Q : Prop} (h : o.bind f = some r) (k : ∀ x, o = some x → f x = some r → Q) : Q := by
  cases o with
  | none => cases h
  | some x => exact k x rfl h
theorem bind2_el {α β γ : Type} {o : Option (α × β)} {f : α → β → Option γ} {r : γ} {Q : Prop} (h : bind2 o f = some r) (k : ∀ x y, o = some (x, y) → f x y = some r → Q) : Q := by
  rcases o with _ | ⟨x, y⟩
  · cases h
  · exact k x y rfl h
theorem bind3_el {α β γ δ : Type} {o : Option (α × β × δ)} {f : α → β → δ → Option γ} {r : γ} {Q : Prop} (h : bind3 o f = some r) (k : ∀ x y z, o = some (x, y, z) → f x y z = some r → Q) : Q := by
  rcases o with _ | ⟨x, y, z⟩
  · cases h
  · exact k x y z rfl h
theorem chk_el {γ : Type} {n i : Int32} {A : Option γ} {r : γ} {Q : Prop} (h : chk n i A = some r) (k : (¬ i < 0 ∧ i < n) → A = some r → Q) : Q := by
  unfold chk at h
  by_cases h0 : i < 0
  · rw [if_pos h0] at h; cases h
  · rw [if_neg h0] at h
    by_cases h1 : i < n
    · rw [if_pos h1] at h; exact k ⟨h0, h1⟩ h
    · rw [if_neg h1] at h; cases h
theorem dvz_el {γ : Type} {y : Int32} {A : Option γ} {r : γ} {Q : Prop} (h : dvz y A = some r) (k : y ≠ 0 → A = some r → Q) : Q := by
  unfold dvz at h
  by_cases h0 : y = 0
  · rw [if_pos h0] at h; cases h
  · rw [if_neg h0] at h; exact k h0 h
def All {α : Type} (p : α → Prop) : List α → Prop
  | [] => True
  | x :: l => p x ∧ All p l
theorem All.mem {α : Type} {p : α → Prop} : ∀ {l : List α}, All p l → ∀ {x : α}, x ∈ l → p x
  | [], _, _, h => nomatch h
  | _ :: _, H, _, h => (List.mem_cons.mp h).elim (fun e => e ▸ H.1) (fun e => All.mem H.2 e)
def el (ty : FieldType) (ob : Rec) (k : Nat) (j : Int32) : Value := match ty with
  | .long => .long (ob.2.2 k j)
  | _ => .int (ob.2.1 k j)
def aD (ty : FieldType) : String := match ty with
  | .int => "[I"
  | .boolean => "[Z"
  | _ => "[J"
abbrev Cls : Type := String × List (String × String) × List (String × FieldType × Int32)
abbrev mem1 (k : Nat) {d : Jvm.Cond} (h : tables_1[k]? = some d) : d ∈ tables_1 := List.mem_of_getElem? h
abbrev sOk (C : String) (nd : String × String) : Prop := (Jvm.Cond.lays C C nd.1 nd.2 ∈ tables_1 ∨ Jvm.Cond.laysFinal C C nd.1 nd.2 ∈ tables_1) ∧ (nd.2 = "I" ∨ nd.2 = "Z")
abbrev aOk (C : String) (t : String × FieldType × Int32) : Prop := (Jvm.Cond.lays C C t.1 (aD t.2.1) ∈ tables_1 ∨ Jvm.Cond.laysFinal C C t.1 (aD t.2.1) ∈ tables_1) ∧ (t.2.1 = .int ∨ t.2.1 = .boolean ∨ t.2.1 = .long) ∧ ¬ t.2.2 < 0
def K : Cls := ("WsClockPager", [("procs", "I"), ("pages", "I"), ("frames", "I"), ("tau", "I"), ("status", "I"), ("suspensionCount", "I"), ("readmissionCount", "I"), ("hand", "I")], [("suspended", .boolean, 4), ("vtime", .int, 4), ("winLen", .int, 4), ("winHead", .int, 4), ("wsSize", .int, 4), ("touchedCount", .int, 4), ("ring", .int, 64), ("winCount", .int, 64), ("touched", .boolean, 64), ("pageFrame", .int, 64), ("pageSlot", .int, 64), ("pageLastUse", .int, 64), ("frameOwner", .int, 32), ("frameRef", .boolean, 32), ("frameDirty", .boolean, 32), ("frameWords", .int, 128), ("slotUsed", .boolean, 64), ("swapWords", .int, 256)])
theorem kS : All (sOk K.1) K.2.1 := ⟨⟨Or.inl (mem1 52 rfl), Or.inl rfl⟩, ⟨Or.inl (mem1 54 rfl), Or.inl rfl⟩, ⟨Or.inl (mem1 56 rfl), Or.inl rfl⟩, ⟨Or.inl (mem1 58 rfl), Or.inl rfl⟩, ⟨Or.inl (mem1 60 rfl), Or.inl rfl⟩, ⟨Or.inl (mem1 62 rfl), Or.inl rfl⟩, ⟨Or.inl (mem1 64 rfl), Or.inl rfl⟩, ⟨Or.inl (mem1 66 rfl), Or.inl rfl⟩, trivial⟩
theorem kA : All (aOk K.1) K.2.2 := ⟨⟨Or.inl (mem1 11 rfl), Or.inr (Or.inl rfl), by decide⟩, ⟨Or.inl (mem1 14 rfl), Or.inl rfl, by decide⟩, ⟨Or.inl (mem1 16 rfl), Or.inl rfl, by decide⟩, ⟨Or.inl (mem1 18 rfl), Or.inl rfl, by decide⟩, ⟨Or.inl (mem1 20 rfl), Or.inl rfl, by decide⟩, ⟨Or.inl (mem1 22 rfl), Or.inl rfl, by decide⟩, ⟨Or.inl (mem1 24 rfl), Or.inl rfl, by decide⟩, ⟨Or.inl (mem1 26 rfl), Or.inl rfl, by decide⟩, ⟨Or.inl (mem1 28 rfl), Or.inr (Or.inl rfl), by decide⟩, ⟨Or.inl (mem1 30 rfl), Or.inl rfl, by decide⟩, ⟨Or.inl (mem1 32 rfl), Or.inl rfl, by decide⟩, ⟨Or.inl (mem1 34 rfl), Or.inl rfl, by decide⟩, ⟨Or.inl (mem1 36 rfl), Or.inl rfl, by decide⟩, ⟨Or.inl (mem1 38 rfl), Or.inr (Or.inl rfl), by decide⟩, ⟨Or.inl (mem1 40 rfl), Or.inr (Or.inl rfl), by decide⟩, ⟨Or.inl (mem1 42 rfl), Or.inl rfl, by decide⟩, ⟨Or.inl (mem1 44 rfl), Or.inr (Or.inl rfl), by decide⟩, ⟨Or.inl (mem1 46 rfl), Or.inl rfl, by decide⟩, trivial⟩
abbrev kN : Nat := 26
theorem kI : Jvm.Cond.instantiable K.1 kN ∈ tables_1 := mem1 1 rfl
theorem kZ : Jvm.Cond.initialized K.1 ∈ tables_1 := mem1 2 rfl
theorem kNm : (K.2.1.map (·.1) ++ K.2.2.map (·.1)).Nodup := by decide +kernel
theorem nm_ss {k k' : Nat} {nd nd' : String × String} (h : K.2.1[k]? = some nd) (h' : K.2.1[k']? = some nd') (ne : k ≠ k') : nd.1 ≠ nd'.1 := fun e => by
  have l := (List.getElem?_eq_some_iff.mp h).1
  have l' := (List.getElem?_eq_some_iff.mp h').1
  refine ne ((List.getElem?_inj (l := K.2.1.map (·.1) ++ K.2.2.map (·.1)) (i := k) (j := k') (by simp; omega) kNm).mp ?_)
  rw [List.getElem?_append_left (by simpa using l), List.getElem?_append_left (by simpa using l'), List.getElem?_map, List.getElem?_map, h, h']
  simp [e]
theorem nm_aa {k k' : Nat} {t t' : String × FieldType × Int32} (h : K.2.2[k]? = some t) (h' : K.2.2[k']? = some t') (ne : k ≠ k') : t.1 ≠ t'.1 := fun e => by
  have l := (List.getElem?_eq_some_iff.mp h).1
  have l' := (List.getElem?_eq_some_iff.mp h').1
  have q := (List.getElem?_inj (l := K.2.1.map (·.1) ++ K.2.2.map (·.1)) (i := K.2.1.length + k) (j := K.2.1.length + k') (by simp; omega) kNm).mp (by
    rw [List.getElem?_append_right (by simp), List.getElem?_append_right (by simp)]
    simp [h, h', e])
  omega
theorem nm_sa {k k' : Nat} {nd : String × String} {t : String × FieldType × Int32} (h : K.2.1[k]? = some nd) (h' : K.2.2[k']? = some t) : nd.1 ≠ t.1 := fun e => by
  have l := (List.getElem?_eq_some_iff.mp h).1
  have l' := (List.getElem?_eq_some_iff.mp h').1
  have q := (List.getElem?_inj (l := K.2.1.map (·.1) ++ K.2.2.map (·.1)) (i := k) (j := K.2.1.length + k') (by simp; omega) kNm).mp (by
    rw [List.getElem?_append_left (by simpa using l), List.getElem?_append_right (by simp)]
    simp [h, h', e])
  omega
abbrev Ctx : Type := Launch × State × Nat × Array Value
def Ok (C : Ctx) : Prop := ∀ d ∈ tables_1, d.before C.2.2.2 C.2.1 = true
def ArrAt (Z : State) (h : Heap) (b : Nat) (ty : FieldType) (len : Int32) (v : Int32 → Value) : Prop := ∃ cl : Cell, Arr Z h b cl ty ∧ cl.slots.size = len.toNatClampNeg ∧ ∀ j : Int32, ¬ j < 0 → j < len → cl.slots[j.toNatClampNeg]? = some (v j)
def ObjAt (Z : State) (h : Heap) (a : Nat) (q : Nat) (ob : Rec) : Prop :=
  Exa Z h a K.1 ∧ (∀ k nd, K.2.1[k]? = some nd → Fld Z h a K.1 nd.1 nd.2 (.int (ob.1 k))) ∧
  (∀ k t, K.2.2[k]? = some t → k < q → Fld Z h a K.1 t.1 (aD t.2.1) (.ref (a + 1 + k)) ∧ ArrAt Z h (a + 1 + k) t.2.1 t.2.2 (el t.2.1 ob k)) ∧
  (∀ k t, K.2.2[k]? = some t → q ≤ k → Fld Z h a K.1 t.1 (aD t.2.1) .null)
abbrev AH : Type := Nat × List (Nat × Nat × Rec)
def Rep (Z : State) (n0 : Nat) (h : Heap) (G : AH) : Prop :=
  h.size = G.1 ∧ Old Z n0 h ∧ (∀ x ∈ G.2, n0 ≤ x.1 ∧ x.1 + x.2.1 < G.1 ∧ ObjAt Z h x.1 x.2.1 x.2.2) ∧ G.2.Pairwise (fun x y => x.1 + x.2.1 < y.1 ∨ y.1 + y.2.1 < x.1)
section Facts
variable {Z : State} {h h' : Heap} {a b : Nat} {q k n0 top : Nat} {ob ob' : Rec} {nd : String × String} {t : String × FieldType × Int32} {a0 : Array Value} {sl : Nat} {v : Value} {H : List (Nat × Nat × Rec)} {G : AH}
theorem fld_fr {C n d : String} (e : h'[a]? = h[a]?) (F : Fld Z h a C n d v) : Fld Z h' a C n d v := by
  obtain ⟨cell, cf, k, i, f, h1, r⟩ := F; exact ⟨cell, cf, k, i, f, e.trans h1, r⟩
theorem exa_fr {C : String} (e : h'[a]? = h[a]?) (F : Exa Z h a C) : Exa Z h' a C := by
  obtain ⟨cell, k, h1, r⟩ := F; exact ⟨cell, k, e.trans h1, r⟩
theorem arrAt_fr {ty : FieldType} {len : Int32} {w : Int32 → Value} (e : h'[a]? = h[a]?) (F : ArrAt Z h a ty len w) : ArrAt Z h' a ty len w := by
  obtain ⟨cl, A, r⟩ := F; exact ⟨cl, ⟨e.trans A.1, A.2⟩, r⟩
theorem ObjAt.frame (e : ∀ b, a ≤ b → b ≤ a + q → h'[b]? = h[b]?) (F : ObjAt Z h a q ob) : ObjAt Z h' a q ob := by
  have e0 := e a (Nat.le_refl _) (Nat.le_add_right _ _)
  refine ⟨exa_fr e0 F.1, fun k nd hk => fld_fr e0 (F.2.1 k nd hk), fun k t hk hq => ⟨fld_fr e0 (F.2.2.1 k t hk hq).1, arrAt_fr (e _ (by omega) (by omega)) (F.2.2.1 k t hk hq).2⟩, fun k t hk hq => fld_fr e0 (F.2.2.2 k t hk hq)⟩
theorem ObjAt.ext (E : Ext h h') (F : ObjAt Z h a q ob) : ObjAt Z h' a q ob := by
  refine ⟨F.1.ext E, fun k nd hk => (F.2.1 k nd hk).ext E, fun k t hk hq => ⟨(F.2.2.1 k t hk hq).1.ext E, ?_⟩, fun k t hk hq => (F.2.2.2 k t hk hq).ext E⟩
  obtain ⟨cl, A, r⟩ := (F.2.2.1 k t hk hq).2; exact ⟨cl, A.ext E, r⟩
theorem wr_ne (W : Wr h h' a sl v) (ne : b ≠ a) : h'[b]? = h[b]? := by
  obtain ⟨cell, -, -, -, rfl⟩ := W; exact Array.getElem?_setIfInBounds_ne (Ne.symm ne)
theorem laidS (hw : ∀ d ∈ tables_1, d.before a0 Z = true) (hk : K.2.1[k]? = some nd) : Laid Z a0 K.1 K.1 nd.1 nd.2 := ((All.mem kS (List.mem_of_getElem? hk)).1).imp (hw _) (hw _)
theorem laidA (hw : ∀ d ∈ tables_1, d.before a0 Z = true) (hk : K.2.2[k]? = some t) : Laid Z a0 K.1 K.1 t.1 (aD t.2.1) := ((All.mem kA (List.mem_of_getElem? hk)).1).imp (hw _) (hw _)
theorem pfS (hk : K.2.1[k]? = some nd) : ∃ ty, parseFieldDescriptor nd.2 = some ty := by
  rcases (All.mem kS (List.mem_of_getElem? hk)).2 with e | e <;> rw [e]
  · exact ⟨.int, by decide⟩
  · exact ⟨.boolean, by decide⟩
theorem pfA (hk : K.2.2[k]? = some t) : parseFieldDescriptor (aD t.2.1) = some (.array t.2.1) := by
  rcases (All.mem kA (List.mem_of_getElem? hk)).2.1 with e | e | e <;> rw [e] <;> decide
theorem ObjAt.putI {x : Int32} (hw : ∀ d ∈ tables_1, d.before a0 Z = true) (F : ObjAt Z h a q ob) (hk : K.2.1[k]? = some nd) (W : Wr h h' a (Jvm.RoadKit.slotOf Z K.1 nd.1 nd.2) (.int x)) : ObjAt Z h' a q (sI ob k x) := by
  obtain ⟨ty, hty⟩ := pfS hk
  refine ⟨F.1.wr W, fun k' nd' hk' => ?_, fun k' t hk' hq => ⟨(F.2.2.1 k' t hk' hq).1.other W (Or.inr (Jvm.RoadKit.slot_ne (laidA hw hk') (laidS hw hk) (Ne.symm (nm_sa hk hk')) (pfA hk') hty)), ?_⟩, fun k' t hk' hq => (F.2.2.2 k' t hk' hq).other W (Or.inr (Jvm.RoadKit.slot_ne (laidA hw hk') (laidS hw hk) (Ne.symm (nm_sa hk hk')) (pfA hk') hty))⟩
  · by_cases e : k' = k
    · subst e; cases hk.symm.trans hk'
      have := (F.2.1 k' nd hk).same W
      simpa [sI] using this
    · obtain ⟨ty', hty'⟩ := pfS hk'
      have := (F.2.1 k' nd' hk').other W (Or.inr (Jvm.RoadKit.slot_ne (laidS hw hk') (laidS hw hk) (nm_ss hk' hk e) hty' hty))
      simpa [sI, e] using this
  · have := arrAt_fr (wr_ne W (by omega)) (F.2.2.1 k' t hk' hq).2
    have e : el t.2.1 (sI ob k x) k' = el t.2.1 ob k' := by funext j; unfold el; split <;> rfl
    rw [e]; exact this
theorem ObjAt.putA (F : ObjAt Z h a q ob) (hk : K.2.2[k]? = some t) (hq : k < q) {x : Value} {j : Int32} (hj : ¬ j < 0 ∧ j < t.2.2) (W : Wr h h' (a + 1 + k) j.toNatClampNeg x)
    (e1 : el t.2.1 ob' k = fun i => if i = j then x else el t.2.1 ob k i) (e2 : ∀ k' t', k' ≠ k → el t' ob' k' = el t' ob k') (e3 : ob'.1 = ob.1) : ObjAt Z h' a q ob' := by
  have u : h'[a]? = h[a]? := wr_ne W (by omega)
  refine ⟨exa_fr u F.1, fun k' nd hk' => by rw [e3]; exact fld_fr u (F.2.1 k' nd hk'), fun k' t' hk' hq' => ⟨fld_fr u (F.2.2.1 k' t' hk' hq').1, ?_⟩, fun k' t' hk' hq' => fld_fr u (F.2.2.2 k' t' hk' hq')⟩
  by_cases e : k' = k
  · subst e; cases hk.symm.trans hk'
    obtain ⟨cl, A, S, V⟩ := (F.2.2.1 k' t hk hq).2
    have inb : ¬ (j < 0 ∨ cl.slots.size ≤ j.toNatClampNeg) := inb_of S hj
    refine ⟨_, A.same W, by rw [sz_set]; exact S, fun i h0 h1 => ?_⟩
    rw [e1]
    by_cases ei : i = j
    · simp only [ei, if_true]; exact get_hit inb rfl
    · simp only [ei, if_false]; rw [get_miss hj.1 h0 ei]; exact V i h0 h1
  · rw [e2 k' _ e]; exact arrAt_fr (wr_ne W (by omega)) (F.2.2.1 k' t' hk' hq').2
theorem el_sA {ty : FieldType} (ht : ty ≠ .long) (j x : Int32) : el ty (sA ob k j x) k = fun i => if i = j then .int x else el ty ob k i := by
  funext i; cases ty <;> first | exact absurd rfl ht | (simp only [el, sA, true_and]; split <;> rfl)
theorem el_sJ (j : Int32) (x : Int64) : el .long (sJ ob k j x) k = fun i => if i = j then .long x else el .long ob k i := by
  funext i; simp only [el, sJ, true_and]; split <;> rfl
theorem el_sA' (j x : Int32) (k' : Nat) (t' : FieldType) (ne : k' ≠ k) : el t' (sA ob k j x) k' = el t' ob k' := by
  funext i; cases t' <;> simp [el, sA, ne]
theorem el_sJ' (j : Int32) (x : Int64) (k' : Nat) (t' : FieldType) (ne : k' ≠ k) : el t' (sJ ob k j x) k' = el t' ob k' := by
  funext i; cases t' <;> simp [el, sJ, ne]
theorem Rep.upd (R : Rep Z n0 h (top, (a, q, ob) :: H)) (hs : h'.size = h.size) (hO : Old Z n0 h') (e : ∀ b, (b < a ∨ a + q < b) → h'[b]? = h[b]?) (F : ObjAt Z h' a q ob') : Rep Z n0 h' (top, (a, q, ob') :: H) := by
  obtain ⟨r1, r2, r3, r4⟩ := R
  refine ⟨hs.trans r1, hO, fun x hx => ?_, ?_⟩
  · rcases List.mem_cons.mp hx with rfl | hx
    · exact ⟨(r3 _ (List.mem_cons_self ..)).1, (r3 _ (List.mem_cons_self ..)).2.1, F⟩
    · obtain ⟨p1, p2, p3⟩ := r3 x (List.mem_cons_of_mem _ hx)
      refine ⟨p1, p2, p3.frame fun b h1 h2 => e b ?_⟩
      have := (List.pairwise_cons.mp r4).1 x hx
      simp only at this
      omega
  · have := List.pairwise_cons.mp r4
    exact List.pairwise_cons.mpr ⟨fun y hy => this.1 y hy, this.2⟩
theorem Rep.objs (R : Rep Z n0 h (top, (a, q, ob) :: H)) : n0 ≤ a ∧ a + q < top ∧ ObjAt Z h a q ob := R.2.2.1 _ (List.mem_cons_self ..)
theorem Rep.putI {x : Int32} (hw : ∀ d ∈ tables_1, d.before a0 Z = true) (R : Rep Z n0 h (top, (a, q, ob) :: H)) (hk : K.2.1[k]? = some nd) (W : Wr h h' a (Jvm.RoadKit.slotOf Z K.1 nd.1 nd.2) (.int x)) : Rep Z n0 h' (top, (a, q, sI ob k x) :: H) :=
  R.upd W.size (R.2.1.wr W R.objs.1) (fun b hb => wr_ne W (by omega)) (R.objs.2.2.putI hw hk W)
theorem Rep.putA {x j : Int32} (R : Rep Z n0 h (top, (a, q, ob) :: H)) (hk : K.2.2[k]? = some t) (hq : k < q) (ht : t.2.1 ≠ .long) (hj : ¬ j < 0 ∧ j < t.2.2) (W : Wr h h' (a + 1 + k) j.toNatClampNeg (.int x)) : Rep Z n0 h' (top, (a, q, sA ob k j x) :: H) :=
  R.upd W.size (R.2.1.wr W (by have := R.objs.1; omega)) (fun b hb => wr_ne W (by omega)) (R.objs.2.2.putA hk hq hj W (el_sA ht j x) (fun k' t' ne => el_sA' j x k' t' ne) rfl)
theorem Rep.putJ {j : Int32} {x : Int64} (R : Rep Z n0 h (top, (a, q, ob) :: H)) (hk : K.2.2[k]? = some t) (hq : k < q) (ht : t.2.1 = .long) (hj : ¬ j < 0 ∧ j < t.2.2) (W : Wr h h' (a + 1 + k) j.toNatClampNeg (.long x)) : Rep Z n0 h' (top, (a, q, sJ ob k j x) :: H) :=
  R.upd W.size (R.2.1.wr W (by have := R.objs.1; omega)) (fun b hb => wr_ne W (by omega)) (R.objs.2.2.putA hk hq hj W (by rw [ht]; exact el_sJ j x) (fun k' t' ne => el_sJ' j x k' t' ne) rfl)
theorem Rep.swap {x y : Nat × Nat × Rec} (R : Rep Z n0 h (top, x :: y :: H)) : Rep Z n0 h (top, y :: x :: H) := by
  obtain ⟨r1, r2, r3, r4⟩ := R
  refine ⟨r1, r2, fun z hz => r3 z ?_, ?_⟩
  · simp only [List.mem_cons] at hz ⊢
    rcases hz with e | e | e
    · exact Or.inr (Or.inl e)
    · exact Or.inl e
    · exact Or.inr (Or.inr e)
  · simp only [List.pairwise_cons, List.mem_cons] at r4 ⊢
    obtain ⟨p1, p2, p3⟩ := r4
    refine ⟨fun z hz => ?_, fun z hz => p1 z (Or.inr hz), p3⟩
    rcases hz with rfl | hz
    · exact (p1 _ (Or.inl rfl)).symm
    · exact p2 z hz
theorem ObjAt.addA (hw : ∀ d ∈ tables_1, d.before a0 Z = true) (F : ObjAt Z h a k ob) (hk : K.2.2[k]? = some t) (A : ArrAt Z h (a + 1 + k) t.2.1 t.2.2 (el t.2.1 ob k)) (W : Wr h h' a (Jvm.RoadKit.slotOf Z K.1 t.1 (aD t.2.1)) (.ref (a + 1 + k))) : ObjAt Z h' a (k + 1) ob := by
  refine ⟨F.1.wr W, fun k' nd hk' => ?_, fun k' t' hk' hq => ?_, fun k' t' hk' hq => ?_⟩
  · obtain ⟨ty', hty'⟩ := pfS hk'
    exact (F.2.1 k' nd hk').other W (Or.inr (Jvm.RoadKit.slot_ne (laidS hw hk') (laidA hw hk) (nm_sa hk' hk) hty' (pfA hk)))
  · by_cases e : k' = k
    · subst e
      have et : t = t' := Option.some.inj (hk.symm.trans hk')
      subst et
      exact ⟨(F.2.2.2 k' t hk (Nat.le_refl _)).same W, arrAt_fr (wr_ne W (by omega)) A⟩
    · obtain ⟨f1, f2⟩ := F.2.2.1 k' t' hk' (by omega)
      exact ⟨f1.other W (Or.inr (Jvm.RoadKit.slot_ne (laidA hw hk') (laidA hw hk) (nm_aa hk' hk e) (pfA hk') (pfA hk))), arrAt_fr (wr_ne W (by omega)) f2⟩
  · exact (F.2.2.2 k' t' hk' (by omega)).other W (Or.inr (Jvm.RoadKit.slot_ne (laidA hw hk') (laidA hw hk) (nm_aa hk' hk (by omega)) (pfA hk') (pfA hk)))
theorem Rep.addA {h1 h2 : Heap} (hw : ∀ d ∈ tables_1, d.before a0 Z = true) (R : Rep Z n0 h (top, (a, k, ob) :: H)) (E : Ext h h1) (s1 : h1.size = top + 1) (htop : top = a + 1 + k) (hk : K.2.2[k]? = some t) (A : ArrAt Z h1 top t.2.1 t.2.2 (el t.2.1 ob k)) (W : Wr h1 h2 a (Jvm.RoadKit.slotOf Z K.1 t.1 (aD t.2.1)) (.ref top)) : Rep Z n0 h2 (top + 1, (a, k + 1, ob) :: H) := by
  obtain ⟨q1, q2, q3⟩ := R.objs
  have hp := List.pairwise_cons.mp R.2.2.2
  have hO : ObjAt Z h2 a (k + 1) ob := by
    subst htop
    exact (q3.ext E).addA hw hk A W
  refine ⟨W.size.trans s1, (R.2.1.ext E).wr W q1, List.forall_mem_cons.mpr ⟨⟨q1, ?_, hO⟩, fun x hx => ?_⟩, List.pairwise_cons.mpr ⟨fun y hy => ?_, hp.2⟩⟩
  · show a + (k + 1) < top + 1; omega
  · obtain ⟨p1, p2, p3⟩ := R.2.2.1 x (List.mem_cons_of_mem _ hx)
    have u1 : a + k < x.1 ∨ x.1 + x.2.1 < a := hp.1 x hx
    have u2 : x.1 + x.2.1 < top := p2
    exact ⟨p1, Nat.lt_succ_of_lt u2, (p3.ext E).frame fun b h1 h2 => wr_ne W (by omega)⟩
  · have u1 : a + k < y.1 ∨ y.1 + y.2.1 < a := hp.1 y hy
    have u2 : y.1 + y.2.1 < top := (R.2.2.1 y (List.mem_cons_of_mem _ hy)).2.1
    show a + (k + 1) < y.1 ∨ y.1 + y.2.1 < a
    omega
theorem arr_new {cA : ClassId} {ty : FieldType} {len : Int32} (A : Arr Z h b (newA cA ty len) ty) (hts : ty = .int ∨ ty = .boolean ∨ ty = .long) (hz : (∀ i, ob.2.1 k i = 0) ∧ (∀ i, ob.2.2 k i = 0)) : ArrAt Z h b ty len (el ty ob k) := by
  refine ⟨_, A, sz_new _ _ _, fun i h0 h1 => ?_⟩
  have hi : ¬ (i < 0 ∨ len.toNatClampNeg ≤ i.toNatClampNeg) := by
    have e0 : (0 : Int32).toInt = 0 := rfl
    simp only [Int32.lt_iff_toInt_lt, Int32.toNatClampNeg] at *
    omega
  rw [get_new hi]
  rcases hts with rfl | rfl | rfl
  · show some (Value.int 0) = some (Value.int (ob.2.1 k i)); rw [hz.1]
  · show some (Value.int 0) = some (Value.int (ob.2.1 k i)); rw [hz.1]
  · show some (Value.long 0) = some (Value.long (ob.2.2 k i)); rw [hz.2]
theorem Rep.start (s : State) : Rep s s.heap.size s.heap (s.heap.size, []) := ⟨rfl, Old.start s, fun x hx => (by cases hx), List.Pairwise.nil⟩
end Facts
/- bodies, decode facts, patterns of local variables -/
abbrev Bdy : Type := MethodName × ByteArray × Nat × Option FieldType × Room
def DAt (M : Bdy) (pc : Nat) (i : Instr) (n q : Nat) : Prop := decode M.2.1 pc = .ok (i, n) ∧ q = pc + n
abbrev Pat : Type := List (Option Slot)
abbrev vi (x : Int32) : Option Slot := some (.val (.int x))
abbrev vl (x : Int64) : Option Slot := some (.val (.long x))
abbrev vr (a : Nat) : Option Slot := some (.val (.ref a))
abbrev v2 : Option Slot := some .second
abbrev vn : Option Slot := none
def pget : Pat → Nat → Option Slot
  | [], _ => none
  | x :: _, 0 => x
  | _ :: l, n + 1 => pget l n
theorem pget_eq : ∀ (P : Pat) (i : Nat), pget P i = (P[i]?).join
  | [], _ => by simp [pget]
  | x :: l, 0 => by simp [pget]
  | x :: l, n + 1 => by simp [pget, pget_eq l n]
def pput : Pat → Nat → Option Slot → Pat
  | [], _, _ => []
  | _ :: l, 0, y => y :: l
  | x :: l, n + 1, y => x :: pput l n y
theorem pget_pput : ∀ (P : Pat) (i j : Nat) (y : Option Slot) (s : Slot), pget (pput P i y) j = some s → (j = i ∧ y = some s) ∨ (j ≠ i ∧ pget P j = some s)
  | [], _, _, _, _, h => by simp [pput, pget] at h
  | x :: l, 0, 0, y, s, h => Or.inl ⟨rfl, h⟩
  | x :: l, 0, j + 1, y, s, h => Or.inr ⟨by omega, h⟩
  | x :: l, i + 1, 0, y, s, h => Or.inr ⟨by omega, h⟩
  | x :: l, i + 1, j + 1, y, s, h => by
    rcases pget_pput l i j y s h with ⟨e, r⟩ | ⟨e, r⟩
    · exact Or.inl ⟨by omega, r⟩
    · exact Or.inr ⟨by omega, r⟩
/-- a two-word value whose first word is at i is forgotten -/
def pk1 (P : Pat) (i : Nat) : Pat := match pget P i with
  | some (.val (.long _)) => pput P i none
  | some (.val (.double _)) => pput P i none
  | _ => P
def pk2 (P : Pat) (i : Nat) : Pat := match pget P i with
  | some .second => pput P i none
  | _ => P
def pkp (P : Pat) : Nat → Pat
  | 0 => P
  | i + 1 => pk1 P i
def ps1 (P : Pat) (i : Nat) (v : Value) : Pat := pput (pk2 (pkp P i) (i + 1)) i (some (.val v))
def ps2 (P : Pat) (i : Nat) (v : Value) : Pat := pput (pput (pk2 (pkp P i) (i + 2)) i (some (.val v))) (i + 1) (some .second)
def WFl (L : Array Slot) : Prop := (∀ i : Nat, L[i]? = some .second → ∃ (j : Nat) (v : Value), i = j + 1 ∧ L[j]? = some (.val v) ∧ v.category = 2) ∧ (∀ (i : Nat) (v : Value), L[i]? = some (.val v) → v.category = 2 → L[i + 1]? = some .second)
def Fits (P : Pat) (L : Array Slot) : Prop := (∀ i s, pget P i = some s → L[i]? = some s) ∧ WFl L
theorem pk1_sub {P : Pat} {i j : Nat} {s : Slot} (h : pget (pk1 P i) j = some s) : pget P j = some s ∧ (j = i → ∀ w : Value, s = .val w → w.category = 1) := by
  unfold pk1 at h
  split at h
  · rcases pget_pput _ _ _ _ _ h with ⟨-, e⟩ | ⟨e, r⟩
    · cases e
    · exact ⟨r, fun q => absurd q e⟩
  · rcases pget_pput _ _ _ _ _ h with ⟨-, e⟩ | ⟨e, r⟩
    · cases e
    · exact ⟨r, fun q => absurd q e⟩
  · rename_i h1 h2
    refine ⟨h, fun q w e => ?_⟩
    subst q e
    cases w <;> first | rfl | exact absurd h (h1 _) | exact absurd h (h2 _)
theorem pk2_sub {P : Pat} {i j : Nat} {s : Slot} (h : pget (pk2 P i) j = some s) : pget P j = some s ∧ (j = i → s ≠ .second) := by
  unfold pk2 at h
  split at h
  · rcases pget_pput _ _ _ _ _ h with ⟨-, e⟩ | ⟨e, r⟩
    · cases e
    · exact ⟨r, fun q => absurd q e⟩
  · rename_i h1
    refine ⟨h, fun q e => ?_⟩
    subst q e; exact h1 h
theorem pkp_sub {P : Pat} {i j : Nat} {s : Slot} (h : pget (pkp P i) j = some s) : pget P j = some s ∧ (j + 1 = i → ∀ w : Value, s = .val w → w.category = 1) := by
  cases i with
  | zero => exact ⟨h, fun q => by omega⟩
  | succ i => obtain ⟨h1, h2⟩ := pk1_sub (show pget (pk1 P i) j = some s from h); exact ⟨h1, fun q => h2 (by omega)⟩
theorem setAt_eq {L : Array Slot} {i : Nat} {x : Slot} (hi : i < L.size) : Jvm.setAt L i x = some (L.setIfInBounds i x) := by simp [Jvm.setAt, hi]
theorem sl_second {L : Array Slot} {i : Nat} {v : Value} (ho : L[i]? = some .second) : storeLocals L i v = (Jvm.setAt L (i - 1) .unset).bind fun l => storeSelf l i v := by
  unfold storeLocals; rw [ho]; rfl
theorem sl_unset {L : Array Slot} {i : Nat} {v : Value} (ho : L[i]? = some .unset) : storeLocals L i v = storeSelf L i v := by
  unfold storeLocals; rw [ho]; rfl
theorem sl_val {L : Array Slot} {i : Nat} {v o : Value} (ho : L[i]? = some (.val o)) : storeLocals L i v = if o.category = 2 then (Jvm.setAt L (i + 1) .unset).bind fun l => storeSelf l i v else storeSelf L i v := by
  unfold storeLocals; rw [ho]; rfl
theorem ss_one {L : Array Slot} {i : Nat} {v : Value} (hi : i < L.size) (hv : ¬ v.category = 2) : storeSelf L i v = some (L.setIfInBounds i (.val v)) := by
  unfold storeSelf; rw [setAt_eq hi]; simp [hv]
theorem ss_two {L : Array Slot} {i : Nat} {v : Value} {o : Slot} (hi : i < L.size) (hv : v.category = 2) (ho : L[i + 1]? = some o) : storeSelf L i v = (match o with
    | .val old => if old.category = 2 then (Jvm.setAt (L.setIfInBounds i (.val v)) (i + 2) .unset).bind fun l => Jvm.setAt l (i + 1) .second else Jvm.setAt (L.setIfInBounds i (.val v)) (i + 1) .second
    | _ => Jvm.setAt (L.setIfInBounds i (.val v)) (i + 1) .second) := by
  have e : (L.setIfInBounds i (.val v))[i + 1]? = some o := by rw [Array.getElem?_setIfInBounds_ne (by omega)]; exact ho
  unfold storeSelf; rw [setAt_eq hi]
  show (if v.category = 2 then _ else _) = _
  rw [if_pos hv, e]
  cases o <;> rfl
theorem cat12 (v : Value) : v.category = 1 ∨ v.category = 2 := by cases v <;> first | exact Or.inl rfl | exact Or.inr rfl
/-- a one-word store: what stands elsewhere stays, but for the halves of a two-word value that it breaks -/
theorem store_one {L : Array Slot} {i : Nat} {v : Value} (hW : WFl L) (hi : i < L.size) (hv : v.category = 1) :
    ∃ L', storeLocals L i v = some L' ∧ L'.size = L.size ∧ WFl L' ∧ L'[i]? = some (.val v) ∧ ∀ j, j ≠ i → L'[j]? = L[j]? ∨ (j + 1 = i ∧ L[i]? = some .second) ∨ (j = i + 1 ∧ L[j]? = some .second) := by
  have hv2 : ¬ v.category = 2 := by omega
  cases ho : L[i]? with
  | none => rw [Array.getElem?_eq_none_iff] at ho; omega
  | some o =>
    cases o with
    | unset =>
      refine ⟨L.setIfInBounds i (.val v), ?_, by simp, ?_, by simp [hi], fun j hj => Or.inl (Array.getElem?_setIfInBounds_ne (Ne.symm hj))⟩
      · rw [sl_unset ho, ss_one hi hv2]
      · refine ⟨fun j hj => ?_, fun j w hj hw => ?_⟩
        · by_cases e : j = i
          · subst e; simp [hi] at hj
          · rw [Array.getElem?_setIfInBounds_ne (Ne.symm e)] at hj
            obtain ⟨j', w, e1, e2, e3⟩ := hW.1 j hj
            refine ⟨j', w, e1, ?_, e3⟩
            rw [Array.getElem?_setIfInBounds_ne]; exact e2
            intro q; subst q; rw [ho] at e2; cases e2
        · by_cases e : j = i
          · subst e; simp [hi] at hj; subst hj; omega
          · rw [Array.getElem?_setIfInBounds_ne (Ne.symm e)] at hj
            have := hW.2 j w hj hw
            rw [Array.getElem?_setIfInBounds_ne]; exact this
            intro q; subst q; rw [ho] at this; cases this
    | second =>
      obtain ⟨j0, w0, rfl, f2, f3⟩ := hW.1 i ho
      have hj0 : j0 < L.size := by omega
      refine ⟨(L.setIfInBounds j0 .unset).setIfInBounds (j0 + 1) (.val v), ?_, by simp, ?_, by simp [hi], fun j hj => ?_⟩
      · rw [sl_second ho, show j0 + 1 - 1 = j0 from rfl, setAt_eq hj0]; exact ss_one (by simpa using hi) hv2
      · refine ⟨fun j hj => ?_, fun j w hj hw => ?_⟩
        · by_cases e : j = j0 + 1
          · subst e; simp [hi] at hj
          · rw [Array.getElem?_setIfInBounds_ne (Ne.symm e)] at hj
            by_cases e' : j = j0
            · subst e'; simp [hj0] at hj
            · rw [Array.getElem?_setIfInBounds_ne (Ne.symm e')] at hj
              obtain ⟨j', w, e1, e2, e3⟩ := hW.1 j hj
              refine ⟨j', w, e1, ?_, e3⟩
              rw [Array.getElem?_setIfInBounds_ne, Array.getElem?_setIfInBounds_ne]
              · exact e2
              · intro q; subst q; omega
              · intro q; subst q; rw [ho] at e2; cases e2
        · by_cases e : j = j0 + 1
          · subst e; simp [hi] at hj; subst hj; omega
          · rw [Array.getElem?_setIfInBounds_ne (Ne.symm e)] at hj
            by_cases e' : j = j0
            · subst e'; simp [hj0] at hj
            · rw [Array.getElem?_setIfInBounds_ne (Ne.symm e')] at hj
              have := hW.2 j w hj hw
              rw [Array.getElem?_setIfInBounds_ne, Array.getElem?_setIfInBounds_ne]
              · exact this
              · intro q; subst q; rw [f2] at this; cases this
              · omega
      · by_cases e' : j = j0
        · exact Or.inr (Or.inl ⟨by omega, rfl⟩)
        · left; rw [Array.getElem?_setIfInBounds_ne (Ne.symm hj), Array.getElem?_setIfInBounds_ne (Ne.symm e')]
    | val old =>
      by_cases hc : old.category = 2
      · have f2 := hW.2 i old ho hc
        have hi1 : i + 1 < L.size := (Array.getElem?_eq_some_iff.mp f2).1
        refine ⟨(L.setIfInBounds (i + 1) .unset).setIfInBounds i (.val v), ?_, by simp, ?_, by simp [hi], fun j hj => ?_⟩
        · rw [sl_val ho, if_pos hc, setAt_eq hi1]; exact ss_one (by simpa using hi) hv2
        · refine ⟨fun j hj => ?_, fun j w hj hw => ?_⟩
          · by_cases e : j = i
            · subst e; simp [hi] at hj
            · rw [Array.getElem?_setIfInBounds_ne (Ne.symm e)] at hj
              by_cases e' : j = i + 1
              · subst e'; simp [hi1] at hj
              · rw [Array.getElem?_setIfInBounds_ne (Ne.symm e')] at hj
                obtain ⟨j', w, e1, e2, e3⟩ := hW.1 j hj
                refine ⟨j', w, e1, ?_, e3⟩
                rw [Array.getElem?_setIfInBounds_ne, Array.getElem?_setIfInBounds_ne]
                · exact e2
                · intro q; subst q; rw [f2] at e2; cases e2
                · omega
          · by_cases e : j = i
            · subst e; simp [hi] at hj; subst hj; omega
            · rw [Array.getElem?_setIfInBounds_ne (Ne.symm e)] at hj
              by_cases e' : j = i + 1
              · subst e'; simp [hi1] at hj
              · rw [Array.getElem?_setIfInBounds_ne (Ne.symm e')] at hj
                have := hW.2 j w hj hw
                rw [Array.getElem?_setIfInBounds_ne, Array.getElem?_setIfInBounds_ne]
                · exact this
                · omega
                · intro q; subst q; rw [ho] at this; cases this
        · by_cases e' : j = i + 1
          · subst e'; exact Or.inr (Or.inr ⟨rfl, f2⟩)
          · left; rw [Array.getElem?_setIfInBounds_ne (Ne.symm hj), Array.getElem?_setIfInBounds_ne (Ne.symm e')]
      · refine ⟨L.setIfInBounds i (.val v), ?_, by simp, ?_, by simp [hi], fun j hj => Or.inl (Array.getElem?_setIfInBounds_ne (Ne.symm hj))⟩
        · rw [sl_val ho, if_neg hc, ss_one hi hv2]
        · refine ⟨fun j hj => ?_, fun j w hj hw => ?_⟩
          · by_cases e : j = i
            · subst e; simp [hi] at hj
            · rw [Array.getElem?_setIfInBounds_ne (Ne.symm e)] at hj
              obtain ⟨j', w, e1, e2, e3⟩ := hW.1 j hj
              refine ⟨j', w, e1, ?_, e3⟩
              rw [Array.getElem?_setIfInBounds_ne]; exact e2
              intro q; subst q; rw [ho] at e2; cases e2; omega
          · by_cases e : j = i
            · subst e; simp [hi] at hj; subst hj; omega
            · rw [Array.getElem?_setIfInBounds_ne (Ne.symm e)] at hj
              have := hW.2 j w hj hw
              rw [Array.getElem?_setIfInBounds_ne]; exact this
              intro q; subst q; rw [ho] at this; cases this
theorem Fits.store1 {P : Pat} {L : Array Slot} {i : Nat} {v : Value} (h : Fits P L) (hi : i < L.size) (hv : v.category = 1) :
    ∃ L', storeLocals L i v = some L' ∧ L'.size = L.size ∧ Fits (ps1 P i v) L' := by
  obtain ⟨L', e1, e2, e3, e4, e5⟩ := store_one h.2 hi hv
  refine ⟨L', e1, e2, fun j s hj => ?_, e3⟩
  rcases pget_pput _ _ _ _ _ hj with ⟨rfl, q⟩ | ⟨ne, q⟩
  · rw [e4]; exact q
  · obtain ⟨q1, q2⟩ := pk2_sub q
    obtain ⟨q3, q4⟩ := pkp_sub q1
    have hL := h.1 j s q3
    rcases e5 j ne with r | ⟨r1, r2⟩ | ⟨r1, r2⟩
    · rw [r]; exact hL
    · obtain ⟨j', w, z1, z2, z3⟩ := h.2.1 i r2
      have : j' = j := by omega
      subst this
      rw [hL] at z2; cases z2
      have := q4 r1 w rfl; omega
    · rw [hL] at r2; cases r2
      exact absurd rfl (q2 r1)
theorem st_ph1 {L : Array Slot} {i : Nat} {v : Value} (hW : WFl L) (hi : i + 1 < L.size) :
    ∃ A : Array Slot, storeLocals L i v = storeSelf A i v ∧ A.size = L.size ∧ (∀ j, j ≠ i → j ≠ i + 1 → A[j]? = L[j]? ∨ (j + 1 = i ∧ L[i]? = some .second ∧ A[j]? = some .unset)) ∧ (A[i + 1]? = L[i + 1]? ∨ (A[i + 1]? = some .unset ∧ L[i + 1]? = some .second)) ∧ (L[i]? = some .second → ∀ j, j + 1 = i → A[j]? = some .unset) := by
  have hi0 : i < L.size := by omega
  cases ho : L[i]? with
  | none => rw [Array.getElem?_eq_none_iff] at ho; omega
  | some o =>
    cases o with
    | unset => exact ⟨L, sl_unset ho, rfl, fun j _ _ => Or.inl rfl, Or.inl rfl, fun q => by cases q⟩
    | second =>
      obtain ⟨j0, w0, rfl, f2, f3⟩ := hW.1 i ho
      have hj0 : j0 < L.size := by omega
      refine ⟨L.setIfInBounds j0 .unset, by rw [sl_second ho, show j0 + 1 - 1 = j0 from rfl, setAt_eq hj0]; rfl, by simp, fun j h1 h2 => ?_, Or.inl (Array.getElem?_setIfInBounds_ne (by omega)), fun _ j hj => ?_⟩
      · by_cases e : j = j0
        · subst e; exact Or.inr ⟨rfl, rfl, by simp [hj0]⟩
        · exact Or.inl (Array.getElem?_setIfInBounds_ne (Ne.symm e))
      · have : j = j0 := by omega
        subst this; simp [hj0]
    | val old =>
      by_cases hc : old.category = 2
      · refine ⟨L.setIfInBounds (i + 1) .unset, by rw [sl_val ho, if_pos hc, setAt_eq hi]; rfl, by simp, fun j h1 h2 => Or.inl (Array.getElem?_setIfInBounds_ne (Ne.symm h2)), Or.inr ⟨by simp [hi], hW.2 i old ho hc⟩, fun q => by cases q⟩
      · exact ⟨L, by rw [sl_val ho, if_neg hc], rfl, fun j _ _ => Or.inl rfl, Or.inl rfl, fun q => by cases q⟩
theorem st_ph2 {A : Array Slot} {i : Nat} {v : Value} (hi : i + 1 < A.size) (hv : v.category = 2) (hn : ∀ w : Value, A[i + 1]? = some (.val w) → w.category = 2 → i + 2 < A.size) :
    ∃ L', storeSelf A i v = some L' ∧ L'.size = A.size ∧ L'[i]? = some (.val v) ∧ L'[i + 1]? = some .second ∧ (∀ j, j ≠ i → j ≠ i + 1 → L'[j]? = A[j]? ∨ (j = i + 2 ∧ L'[j]? = some .unset ∧ ∃ w : Value, A[i + 1]? = some (.val w) ∧ w.category = 2)) ∧ ((∃ w : Value, A[i + 1]? = some (.val w) ∧ w.category = 2) → L'[i + 2]? = some .unset) := by
  have hi0 : i < A.size := by omega
  have eB : (A.setIfInBounds i (.val v))[i + 1]? = A[i + 1]? := Array.getElem?_setIfInBounds_ne (by omega)
  have plain : (∀ w : Value, A[i + 1]? = some (.val w) → w.category ≠ 2) → storeSelf A i v = some ((A.setIfInBounds i (.val v)).setIfInBounds (i + 1) .second) := fun hq => by
    cases ho : A[i + 1]? with
    | none => rw [Array.getElem?_eq_none_iff] at ho; omega
    | some o => cases o with
      | unset => rw [ss_two hi0 hv ho]; exact setAt_eq (by simpa using hi)
      | second => rw [ss_two hi0 hv ho]; exact setAt_eq (by simpa using hi)
      | val w => have := hq w ho; rw [ss_two hi0 hv ho]; simp only [if_neg this]; exact setAt_eq (by simpa using hi)
  by_cases hw : ∃ w : Value, A[i + 1]? = some (.val w) ∧ w.category = 2
  · obtain ⟨w, h1, h2⟩ := hw
    have h3 := hn w h1 h2
    refine ⟨((A.setIfInBounds i (.val v)).setIfInBounds (i + 2) .unset).setIfInBounds (i + 1) .second, by rw [ss_two hi0 hv h1]; simp only [if_pos h2]; rw [setAt_eq (by simpa using h3)]; exact setAt_eq (by simpa using hi), by simp, ?_, by simp [hi], fun j a b => ?_, fun _ => ?_⟩
    · rw [Array.getElem?_setIfInBounds_ne (by omega), Array.getElem?_setIfInBounds_ne (by omega)]; simp [hi0]
    · rw [Array.getElem?_setIfInBounds_ne (by omega)]
      by_cases e : j = i + 2
      · subst e; exact Or.inr ⟨rfl, by simp [h3], w, h1, h2⟩
      · left; rw [Array.getElem?_setIfInBounds_ne (by omega), Array.getElem?_setIfInBounds_ne (by omega)]
    · rw [Array.getElem?_setIfInBounds_ne (by omega)]; simp [h3]
  · refine ⟨_, plain fun w h1 h2 => hw ⟨w, h1, h2⟩, by simp, ?_, by simp [hi], fun j a b => Or.inl ?_, fun q => absurd q hw⟩
    · rw [Array.getElem?_setIfInBounds_ne (by omega)]; simp [hi0]
    · rw [Array.getElem?_setIfInBounds_ne (by omega), Array.getElem?_setIfInBounds_ne (by omega)]
theorem store_two {L : Array Slot} {i : Nat} {v : Value} (hW : WFl L) (hi : i + 1 < L.size) (hv : v.category = 2) :
    ∃ L', storeLocals L i v = some L' ∧ L'.size = L.size ∧ WFl L' ∧ L'[i]? = some (.val v) ∧ L'[i + 1]? = some .second ∧ ∀ j, j ≠ i → j ≠ i + 1 → L'[j]? = L[j]? ∨ (j + 1 = i ∧ L[i]? = some .second) ∨ (j = i + 2 ∧ L[j]? = some .second) := by
  obtain ⟨A, a1, a2, a3, a4, a5⟩ := st_ph1 (v := v) hW hi
  have a6 : ∀ w : Value, A[i + 1]? = some (.val w) → w.category = 2 → L[i + 2]? = some .second := fun w h1 h2 => by
    rcases a4 with e | ⟨e, -⟩
    · rw [e] at h1; exact hW.2 _ _ h1 h2
    · rw [e] at h1; cases h1
  obtain ⟨L', b1, b2, b3, b4, b5, b6⟩ := st_ph2 (A := A) (i := i) (v := v) (by omega) hv (fun w h1 h2 => by have := (Array.getElem?_eq_some_iff.mp (a6 w h1 h2)).1; omega)
  have c : ∀ j, j ≠ i → j ≠ i + 1 → L'[j]? = L[j]? ∨ (j + 1 = i ∧ L[i]? = some .second ∧ L'[j]? = some .unset) ∨ (j = i + 2 ∧ L[j]? = some .second ∧ L'[j]? = some .unset) := fun j h1 h2 => by
    rcases b5 j h1 h2 with e | ⟨e1, e2, w, e3, e4⟩
    · rcases a3 j h1 h2 with r | ⟨r1, r2, r3⟩
      · exact Or.inl (e.trans r)
      · exact Or.inr (Or.inl ⟨r1, r2, e.trans r3⟩)
    · subst e1; exact Or.inr (Or.inr ⟨rfl, a6 w e3 e4, e2⟩)
  have cs : L[i]? = some .second → ∀ j, j + 1 = i → L'[j]? = some .unset := fun q j hj => by
    rcases b5 j (by omega) (by omega) with e | ⟨e1, -⟩
    · exact e.trans (a5 q j hj)
    · omega
  have c2 : L[i + 2]? = some .second → L'[i + 2]? = some .unset := fun q => by
    obtain ⟨j', w, z1, z2, z3⟩ := hW.1 _ q
    have : j' = i + 1 := by omega
    subst this
    rcases a4 with e | ⟨-, e⟩
    · exact b6 ⟨w, e.trans z2, z3⟩
    · rw [e] at z2; cases z2
  refine ⟨L', a1.trans b1, b2.trans a2, ⟨fun j hj => ?_, fun j w hj hw => ?_⟩, b3, b4, fun j h1 h2 => ?_⟩
  · by_cases e0 : j = i
    · subst e0; rw [b3] at hj; cases hj
    by_cases e1 : j = i + 1
    · exact ⟨i, v, e1, b3, hv⟩
    rcases c j e0 e1 with r | ⟨-, -, r⟩ | ⟨-, -, r⟩
    · rw [r] at hj
      obtain ⟨j', w, z1, z2, z3⟩ := hW.1 j hj
      refine ⟨j', w, z1, ?_, z3⟩
      have n0 : j' ≠ i := by omega
      by_cases n1 : j' = i + 1
      · have : j = i + 2 := by omega
        subst this
        rw [c2 hj] at r; rw [hj] at r; cases r
      rcases c j' n0 n1 with u | ⟨u, -, -⟩ | ⟨-, u, -⟩
      · exact u.trans z2
      · omega
      · rw [z2] at u; cases u
    · rw [r] at hj; cases hj
    · rw [r] at hj; cases hj
  · by_cases e0 : j = i
    · subst e0; exact b4
    by_cases e1 : j = i + 1
    · subst e1; rw [b4] at hj; cases hj
    rcases c j e0 e1 with r | ⟨-, -, r⟩ | ⟨-, -, r⟩
    · have hj' := hj
      rw [r] at hj
      have z := hW.2 j w hj hw
      by_cases n0 : j + 1 = i
      · subst n0; rw [cs z j rfl] at hj'; cases hj'
      by_cases n1 : j + 1 = i + 1
      · omega
      rcases c (j + 1) n0 n1 with u | ⟨u1, u2, -⟩ | ⟨u, -, -⟩
      · exact u.trans z
      · obtain ⟨j', w', y1, y2, y3⟩ := hW.1 i u2
        have : j' = j + 1 := by omega
        subst this; rw [z] at y2; cases y2
      · omega
    · rw [r] at hj; cases hj
    · rw [r] at hj; cases hj
  · rcases c j h1 h2 with r | ⟨r1, r2, -⟩ | ⟨r1, r2, -⟩
    · exact Or.inl r
    · exact Or.inr (Or.inl ⟨r1, r2⟩)
    · exact Or.inr (Or.inr ⟨r1, r2⟩)
theorem Fits.store2 {P : Pat} {L : Array Slot} {i : Nat} {v : Value} (h : Fits P L) (hi : i + 1 < L.size) (hv : v.category = 2) :
    ∃ L', storeLocals L i v = some L' ∧ L'.size = L.size ∧ Fits (ps2 P i v) L' := by
  obtain ⟨L', e1, e2, e3, e4, e4', e5⟩ := store_two h.2 hi hv
  refine ⟨L', e1, e2, fun j s hj => ?_, e3⟩
  rcases pget_pput _ _ _ _ _ hj with ⟨rfl, q⟩ | ⟨ne, q⟩
  · rw [e4']; exact q
  rcases pget_pput _ _ _ _ _ q with ⟨rfl, q'⟩ | ⟨ne', q'⟩
  · rw [e4]; exact q'
  obtain ⟨q1, q2⟩ := pk2_sub q'
  obtain ⟨q3, q4⟩ := pkp_sub q1
  have hL := h.1 j s q3
  rcases e5 j ne' ne with r | ⟨r1, r2⟩ | ⟨r1, r2⟩
  · rw [r]; exact hL
  · obtain ⟨j', w, z1, z2, z3⟩ := h.2.1 i r2
    have : j' = j := by omega
    subst this
    rw [hL] at z2; cases z2
    have := q4 r1 w rfl; omega
  · rw [hL] at r2; cases r2
    exact absurd rfl (q2 r1)
/- what a body does from a place on -/
def Runs (C : Ctx) (M : Bdy) (k n pc : Nat) (P : Pat) (S : List Value) (G : AH) (Q : Option Value → AH → Prop) : Prop :=
  Ok C → ∀ (p : Program) (e : Env) (s : State) (m : MethodId) (args : Array Value) (below : List Frame) (meth : Method) (c : Code) (T : State) (locs : List Loc) (L : Array Slot),
    p.tables.exec = Jvm.exec → c.code = M.2.1 → c.maxLocals = M.2.2.1 → meth.sig.returnType = M.2.2.2.1 → meth.name = M.1.name → s.vm.findClass M.1.cls = some m.cls → C.2.1.Warmed39 s.vm →
    Fits P L → L.size = M.2.2.1 → Stand p C.1 e M.2.2.2.2 s m args below meth c T locs k n → Rep C.2.1 C.2.2.1 T.heap G → Fr C.2.2.1 locs →
    ∃ (T' : State) (locs' : List Loc) (k' n' : Nat) (r : Option Value) (G' : AH), Stand p C.1 e M.2.2.2.2 s m args below meth c T' locs' k' n' ∧ k' ≤ M.2.2.2.2.cells ∧ n' ≤ M.2.2.2.2.slots ∧ Rep C.2.1 C.2.2.1 T'.heap G' ∧ Fr C.2.2.1 locs' ∧ Q r G' ∧
      (M.2.2.2.1 = none → r = none) ∧
      ∀ fs : List Frame, (∀ (f : JFrame) (acts : List Action), f.method = m → f.locked = none → f.entered = [] → (doReturn e (T'.setTop f) acts r).1 = T'.setFrames fs) → Steps p.tables e below (T.setTop (mkF m pc L S)) (T'.setFrames fs)
section Rules
variable {C : Ctx} {M : Bdy} {k n pc q : Nat} {P P' : Pat} {S S' : List Value} {G : AH} {Q : Option Value → AH → Prop}
/-- a step that leaves the heap alone -/
theorem Runs.pure {i : Instr} {len : Nat} (d : DAt M pc i len q) {pc' : Nat}
    (st : ∀ (p : Program) (e : Env) (s : State) (m : MethodId) (args : Array Value) (below : List Frame) (meth : Method) (c : Code) (T : State) (locs : List Loc) (L : Array Slot), Ok C → p.tables.exec = Jvm.exec → s.vm.findClass M.1.cls = some m.cls → C.2.1.Warmed39 s.vm → decode c.code pc = .ok (i, len) → Fits P L → L.size = M.2.2.1 → Rep C.2.1 C.2.2.1 T.heap G →
      Stand p C.1 e M.2.2.2.2 s m args below meth c T locs k n → ∃ L', Fits P' L' ∧ L'.size = M.2.2.1 ∧ ∀ t, Steps p.tables e below (T.setTop (mkF m pc' L' S')) t → Steps p.tables e below (T.setTop (mkF m pc L S)) t)
    (h : Runs C M k n pc' P' S' G Q) : Runs C M k n pc P S G Q := by
  intro hw p e s m args below meth c T locs L hx hby hml hret hnm hown hZ hP hsz X hR hF
  obtain ⟨L', f1, f2, f3⟩ := st p e s m args below meth c T locs L hw hx hown hZ (hb hby d.1) hP hsz hR X
  obtain ⟨T', locs', k', n', r, G', g1, g2, g3, g4, g5, g6, g7, g8⟩ := h hw p e s m args below meth c T locs L' hx hby hml hret hnm hown hZ f1 f2 X hR hF
  exact ⟨T', locs', k', n', r, G', g1, g2, g3, g4, g5, g6, g7, fun fs hr => f3 _ (g8 fs hr)⟩
/-- a step that keeps the locals and what the heap says -/
theorem Runs.stk {i : Instr} {len : Nat} (d : DAt M pc i len q)
    (st : ∀ (p : Program) (e : Env) (s : State) (m : MethodId) (args : Array Value) (below : List Frame) (meth : Method) (c : Code) (T : State) (locs : List Loc) (L : Array Slot), p.tables.exec = Jvm.exec → decode c.code pc = .ok (i, len) → Fits P L →
      Stand p C.1 e M.2.2.2.2 s m args below meth c T locs k n → ∀ t, Steps p.tables e below (T.setTop (mkF m (pc + len) L S')) t → Steps p.tables e below (T.setTop (mkF m pc L S)) t)
    (h : Runs C M k n q P S' G Q) : Runs C M k n pc P S G Q := by
  have hq := d.2
  subst hq
  exact Runs.pure d (fun p e s m args below meth c T locs L _ hx _ _ hd hP hsz _ X => ⟨L, hP, hsz, st p e s m args below meth c T locs L hx hd hP X⟩) h
theorem Runs.iloadN {j : Fin 4} {v : Int32} (d : DAt M pc (.iload_n j) 1 q) (hl : pget P j.val = vi v) (h : Runs C M k n q P (.int v :: S) G Q) : Runs C M k n pc P S G Q :=
  Runs.stk d (fun p e s m args below meth c T locs L hx hd hP X t r => XS.iloadN (g := mkF m pc L S) X.here hx rfl hd (hP.1 _ _ hl) r) h
theorem Runs.iload {j : Nat} {v : Int32} (d : DAt M pc (.iload j) 2 q) (hl : pget P j = vi v) (h : Runs C M k n q P (.int v :: S) G Q) : Runs C M k n pc P S G Q :=
  Runs.stk d (fun p e s m args below meth c T locs L hx hd hP X t r => XS.iload (g := mkF m pc L S) X.here hx rfl hd (hP.1 _ _ hl) r) h
theorem Runs.lloadN {j : Fin 4} {v : Int64} (d : DAt M pc (.lload_n j) 1 q) (hl : pget P j.val = vl v) (h : Runs C M k n q P (.long v :: S) G Q) : Runs C M k n pc P S G Q :=
  Runs.stk d (fun p e s m args below meth c T locs L hx hd hP X t r => XS.lloadN (g := mkF m pc L S) X.here hx rfl hd (hP.1 _ _ hl) r) h
theorem Runs.lload {j : Nat} {v : Int64} (d : DAt M pc (.lload j) 2 q) (hl : pget P j = vl v) (h : Runs C M k n q P (.long v :: S) G Q) : Runs C M k n pc P S G Q :=
  Runs.stk d (fun p e s m args below meth c T locs L hx hd hP X t r => XS.lload (g := mkF m pc L S) X.here hx rfl hd (hP.1 _ _ hl) r) h
theorem Runs.aloadN {j : Fin 4} {v : Nat} (d : DAt M pc (.aload_n j) 1 q) (hl : pget P j.val = vr v) (h : Runs C M k n q P (.ref v :: S) G Q) : Runs C M k n pc P S G Q :=
  Runs.stk d (fun p e s m args below meth c T locs L hx hd hP X t r => XS.aloadN (g := mkF m pc L S) X.here hx rfl hd (hP.1 _ _ hl) rfl r) h
theorem Runs.aload {j : Nat} {v : Nat} (d : DAt M pc (.aload j) 2 q) (hl : pget P j = vr v) (h : Runs C M k n q P (.ref v :: S) G Q) : Runs C M k n pc P S G Q :=
  Runs.stk d (fun p e s m args below meth c T locs L hx hd hP X t r => XS.aload (g := mkF m pc L S) X.here hx rfl hd (hP.1 _ _ hl) rfl r) h
theorem Runs.iconst {i : Int} {v : Int32} (d : DAt M pc (.iconst i) 1 q) (hv : Int32.ofInt i = v) (h : Runs C M k n q P (.int v :: S) G Q) : Runs C M k n pc P S G Q :=
  Runs.stk d (fun p e s m args below meth c T locs L hx hd hP X t r => XS.iconst (g := mkF m pc L S) X.here hx rfl hd (by rw [hv]; exact r)) h
theorem Runs.bipush {i : Int} {v : Int32} (d : DAt M pc (.bipush i) 2 q) (hv : (Int8.ofInt i).toInt32 = v) (h : Runs C M k n q P (.int v :: S) G Q) : Runs C M k n pc P S G Q :=
  Runs.stk d (fun p e s m args below meth c T locs L hx hd hP X t r => XS.bipush (g := mkF m pc L S) X.here hx rfl hd (by rw [hv]; exact r)) h
theorem Runs.sipush {i : Int} {v : Int32} (d : DAt M pc (.sipush i) 3 q) (hv : (Int16.ofInt i).toInt32 = v) (h : Runs C M k n q P (.int v :: S) G Q) : Runs C M k n pc P S G Q :=
  Runs.stk d (fun p e s m args below meth c T locs L hx hd hP X t r => XS.sipush (g := mkF m pc L S) X.here hx rfl hd (by rw [hv]; exact r)) h
theorem Runs.lconst {i : Fin 2} {v : Int64} (d : DAt M pc (.lconst i) 1 q) (hv : Int64.ofNat i = v) (h : Runs C M k n q P (.long v :: S) G Q) : Runs C M k n pc P S G Q :=
  Runs.stk d (fun p e s m args below meth c T locs L hx hd hP X t r => Jvm.Free.XT.lconstV (g := mkF m pc L S) X.here hx rfl v hd hv r) h
theorem Runs.ldc {i : Nat} {v : Int32} (d : DAt M pc (.ldc i) 2 q) (w : Jvm.Cond.constant M.1.cls i v ∈ tables_1) (h : Runs C M k n q P (.int v :: S) G Q) : Runs C M k n pc P S G Q := by
  have hq := d.2
  subst hq
  exact Runs.pure d (fun p e s m args below meth c T locs L hw hx hown hZ hd hP hsz _ X => ⟨L, hP, hsz, fun t r => X.ldcInt hx hown (mvT hZ (hw _ w)) (g := mkF m pc L S) rfl hd t r⟩) h
theorem Runs.ldc2 {i : Nat} {v : Int64} (d : DAt M pc (.ldc2_w i) 3 q) (w : Jvm.Cond.constantLong M.1.cls i v ∈ tables_1) (h : Runs C M k n q P (.long v :: S) G Q) : Runs C M k n pc P S G Q := by
  have hq := d.2
  subst hq
  exact Runs.pure d (fun p e s m args below meth c T locs L hw hx hown hZ hd hP hsz _ X => ⟨L, hP, hsz, fun t r => X.ldc2Long hx hown (mvT hZ (hw _ w)) (g := mkF m pc L S) rfl hd t r⟩) h
theorem Runs.iadd {x y : Int32} (d : DAt M pc .iadd 1 q) (h : Runs C M k n q P (.int (x + y) :: S) G Q) : Runs C M k n pc P (.int y :: .int x :: S) G Q :=
  Runs.stk d (fun p e s m args below meth c T locs L hx hd hP X t r => XS.iadd (g := mkF m pc L (.int y :: .int x :: S)) X.here hx rfl hd rfl r) h
theorem Runs.isub {x y : Int32} (d : DAt M pc .isub 1 q) (h : Runs C M k n q P (.int (x - y) :: S) G Q) : Runs C M k n pc P (.int y :: .int x :: S) G Q :=
  Runs.stk d (fun p e s m args below meth c T locs L hx hd hP X t r => XS.isub (g := mkF m pc L (.int y :: .int x :: S)) X.here hx rfl hd rfl r) h
theorem Runs.imul {x y : Int32} (d : DAt M pc .imul 1 q) (h : Runs C M k n q P (.int (x * y) :: S) G Q) : Runs C M k n pc P (.int y :: .int x :: S) G Q :=
  Runs.stk d (fun p e s m args below meth c T locs L hx hd hP X t r => XS.imul (g := mkF m pc L (.int y :: .int x :: S)) X.here hx rfl hd rfl r) h
theorem Runs.iand {x y : Int32} (d : DAt M pc .iand 1 q) (h : Runs C M k n q P (.int (x &&& y) :: S) G Q) : Runs C M k n pc P (.int y :: .int x :: S) G Q :=
  Runs.stk d (fun p e s m args below meth c T locs L hx hd hP X t r => XS.iand (g := mkF m pc L (.int y :: .int x :: S)) X.here hx rfl hd rfl r) h
theorem Runs.ior {x y : Int32} (d : DAt M pc .ior 1 q) (h : Runs C M k n q P (.int (x ||| y) :: S) G Q) : Runs C M k n pc P (.int y :: .int x :: S) G Q :=
  Runs.stk d (fun p e s m args below meth c T locs L hx hd hP X t r => XS.ior (g := mkF m pc L (.int y :: .int x :: S)) X.here hx rfl hd rfl r) h
theorem Runs.ixor {x y : Int32} (d : DAt M pc .ixor 1 q) (h : Runs C M k n q P (.int (x ^^^ y) :: S) G Q) : Runs C M k n pc P (.int y :: .int x :: S) G Q :=
  Runs.stk d (fun p e s m args below meth c T locs L hx hd hP X t r => XS.ixor (g := mkF m pc L (.int y :: .int x :: S)) X.here hx rfl hd rfl r) h
theorem Runs.ladd {x y : Int64} (d : DAt M pc .ladd 1 q) (h : Runs C M k n q P (.long (x + y) :: S) G Q) : Runs C M k n pc P (.long y :: .long x :: S) G Q :=
  Runs.stk d (fun p e s m args below meth c T locs L hx hd hP X t r => XS.ladd (g := mkF m pc L (.long y :: .long x :: S)) X.here hx rfl hd rfl r) h
theorem Runs.lsub {x y : Int64} (d : DAt M pc .lsub 1 q) (h : Runs C M k n q P (.long (x - y) :: S) G Q) : Runs C M k n pc P (.long y :: .long x :: S) G Q :=
  Runs.stk d (fun p e s m args below meth c T locs L hx hd hP X t r => XS.lsub (g := mkF m pc L (.long y :: .long x :: S)) X.here hx rfl hd rfl r) h
theorem Runs.lmul {x y : Int64} (d : DAt M pc .lmul 1 q) (h : Runs C M k n q P (.long (x * y) :: S) G Q) : Runs C M k n pc P (.long y :: .long x :: S) G Q :=
  Runs.stk d (fun p e s m args below meth c T locs L hx hd hP X t r => XS.lmul (g := mkF m pc L (.long y :: .long x :: S)) X.here hx rfl hd rfl r) h
theorem Runs.land {x y : Int64} (d : DAt M pc .land 1 q) (h : Runs C M k n q P (.long (x &&& y) :: S) G Q) : Runs C M k n pc P (.long y :: .long x :: S) G Q :=
  Runs.stk d (fun p e s m args below meth c T locs L hx hd hP X t r => XS.land (g := mkF m pc L (.long y :: .long x :: S)) X.here hx rfl hd rfl r) h
theorem Runs.lor {x y : Int64} (d : DAt M pc .lor 1 q) (h : Runs C M k n q P (.long (x ||| y) :: S) G Q) : Runs C M k n pc P (.long y :: .long x :: S) G Q :=
  Runs.stk d (fun p e s m args below meth c T locs L hx hd hP X t r => XS.lor (g := mkF m pc L (.long y :: .long x :: S)) X.here hx rfl hd rfl r) h
theorem Runs.lxor {x y : Int64} (d : DAt M pc .lxor 1 q) (h : Runs C M k n q P (.long (x ^^^ y) :: S) G Q) : Runs C M k n pc P (.long y :: .long x :: S) G Q :=
  Runs.stk d (fun p e s m args below meth c T locs L hx hd hP X t r => XS.lxor (g := mkF m pc L (.long y :: .long x :: S)) X.here hx rfl hd rfl r) h
theorem Runs.ishl {x : Int32} {y : Int32} (d : DAt M pc .ishl 1 q) (h : Runs C M k n q P (.int (x <<< (y &&& 31)) :: S) G Q) : Runs C M k n pc P (.int y :: .int x :: S) G Q :=
  Runs.stk d (fun p e s m args below meth c T locs L hx hd hP X t r => XS.ishl (g := mkF m pc L (.int y :: .int x :: S)) X.here hx rfl hd rfl r) h
theorem Runs.ishr {x : Int32} {y : Int32} (d : DAt M pc .ishr 1 q) (h : Runs C M k n q P (.int (x >>> (y &&& 31)) :: S) G Q) : Runs C M k n pc P (.int y :: .int x :: S) G Q :=
  Runs.stk d (fun p e s m args below meth c T locs L hx hd hP X t r => XS.ishr (g := mkF m pc L (.int y :: .int x :: S)) X.here hx rfl hd rfl r) h
theorem Runs.iushr {x : Int32} {y : Int32} (d : DAt M pc .iushr 1 q) (h : Runs C M k n q P (.int ((x.toUInt32 >>> (y &&& 31).toUInt32).toInt32) :: S) G Q) : Runs C M k n pc P (.int y :: .int x :: S) G Q :=
  Runs.stk d (fun p e s m args below meth c T locs L hx hd hP X t r => XS.iushr (g := mkF m pc L (.int y :: .int x :: S)) X.here hx rfl hd rfl r) h
theorem Runs.lshl {x : Int64} {y : Int32} (d : DAt M pc .lshl 1 q) (h : Runs C M k n q P (.long (x <<< (y &&& 0x3f).toInt64) :: S) G Q) : Runs C M k n pc P (.int y :: .long x :: S) G Q :=
  Runs.stk d (fun p e s m args below meth c T locs L hx hd hP X t r => XS.lshl (g := mkF m pc L (.int y :: .long x :: S)) X.here hx rfl hd rfl r) h
theorem Runs.lshr {x : Int64} {y : Int32} (d : DAt M pc .lshr 1 q) (h : Runs C M k n q P (.long (x >>> (y &&& 0x3f).toInt64) :: S) G Q) : Runs C M k n pc P (.int y :: .long x :: S) G Q :=
  Runs.stk d (fun p e s m args below meth c T locs L hx hd hP X t r => XS.lshr (g := mkF m pc L (.int y :: .long x :: S)) X.here hx rfl hd rfl r) h
theorem Runs.lushr {x : Int64} {y : Int32} (d : DAt M pc .lushr 1 q) (h : Runs C M k n q P (.long ((x.toUInt64 >>> (y &&& 0x3f).toInt64.toUInt64).toInt64) :: S) G Q) : Runs C M k n pc P (.int y :: .long x :: S) G Q :=
  Runs.stk d (fun p e s m args below meth c T locs L hx hd hP X t r => XS.lushr (g := mkF m pc L (.int y :: .long x :: S)) X.here hx rfl hd rfl r) h
theorem Runs.ineg {x : Int32} (d : DAt M pc .ineg 1 q) (h : Runs C M k n q P (.int (-x) :: S) G Q) : Runs C M k n pc P (.int x :: S) G Q :=
  Runs.stk d (fun p e s m args below meth c T locs L hx hd hP X t r => XS.ineg (g := mkF m pc L (.int x :: S)) X.here hx rfl hd rfl r) h
theorem Runs.lneg {x : Int64} (d : DAt M pc .lneg 1 q) (h : Runs C M k n q P (.long (-x) :: S) G Q) : Runs C M k n pc P (.long x :: S) G Q :=
  Runs.stk d (fun p e s m args below meth c T locs L hx hd hP X t r => XS.lneg (g := mkF m pc L (.long x :: S)) X.here hx rfl hd rfl r) h
theorem Runs.i2l {x : Int32} (d : DAt M pc .i2l 1 q) (h : Runs C M k n q P (.long x.toInt64 :: S) G Q) : Runs C M k n pc P (.int x :: S) G Q :=
  Runs.stk d (fun p e s m args below meth c T locs L hx hd hP X t r => XS.i2l (g := mkF m pc L (.int x :: S)) X.here hx rfl hd rfl r) h
theorem Runs.l2i {x : Int64} (d : DAt M pc .l2i 1 q) (h : Runs C M k n q P (.int x.toInt32 :: S) G Q) : Runs C M k n pc P (.long x :: S) G Q :=
  Runs.stk d (fun p e s m args below meth c T locs L hx hd hP X t r => XS.l2i (g := mkF m pc L (.long x :: S)) X.here hx rfl hd rfl r) h
theorem Runs.lcmp {x y : Int64} (d : DAt M pc .lcmp 1 q) (h : Runs C M k n q P (.int (lcmpW x y) :: S) G Q) : Runs C M k n pc P (.long y :: .long x :: S) G Q :=
  Runs.stk d (fun p e s m args below meth c T locs L hx hd hP X t r => XS.lcmp (g := mkF m pc L (.long y :: .long x :: S)) X.here hx rfl hd rfl r) h
theorem Runs.idiv {x y : Int32} (d : DAt M pc .idiv 1 q) (hy : y ≠ 0) (h : Runs C M k n q P (.int (x / y) :: S) G Q) : Runs C M k n pc P (.int y :: .int x :: S) G Q :=
  Runs.stk d (fun p e s m args below meth c T locs L hx hd hP X t r => XS.idiv (g := mkF m pc L (.int y :: .int x :: S)) X.here hx rfl hd rfl hy r) h
theorem Runs.irem {x y : Int32} (d : DAt M pc .irem 1 q) (hy : y ≠ 0) (h : Runs C M k n q P (.int (x % y) :: S) G Q) : Runs C M k n pc P (.int y :: .int x :: S) G Q :=
  Runs.stk d (fun p e s m args below meth c T locs L hx hd hP X t r => iremM (g := mkF m pc L (.int y :: .int x :: S)) X hx rfl hd rfl hy r) h
theorem Runs.dup {x : Value} (d : DAt M pc .dup 1 q) (hc : x.category = 1) (h : Runs C M k n q P (x :: x :: S) G Q) : Runs C M k n pc P (x :: S) G Q :=
  Runs.stk d (fun p e s m args below meth c T locs L hx hd hP X t r => XS.dup (g := mkF m pc L (x :: S)) X.here hx rfl hd rfl hc r) h
theorem Runs.dup2 {x y : Value} (d : DAt M pc .dup2 1 q) (hc : x.category = 1) (hc' : y.category = 1) (h : Runs C M k n q P (x :: y :: x :: y :: S) G Q) : Runs C M k n pc P (x :: y :: S) G Q :=
  Runs.stk d (fun p e s m args below meth c T locs L hx hd hP X t r => Jvm.Free.XT.dup2 (g := mkF m pc L (x :: y :: S)) X.here hx rfl hd rfl hc hc' r) h
theorem Runs.pop {x : Value} (d : DAt M pc .pop 1 q) (hc : x.category = 1) (h : Runs C M k n q P S G Q) : Runs C M k n pc P (x :: S) G Q :=
  Runs.stk d (fun p e s m args below meth c T locs L hx hd hP X t r => XS.pop (g := mkF m pc L (x :: S)) X.here hx rfl hd rfl hc r) h
theorem Runs.goto {o : Int} {pc' : Nat} (d : DAt M pc (.goto o) 3 q) (ho : 0 ≤ (pc : Int) + o ∧ ((pc : Int) + o).toNat = pc') (h : Runs C M k n pc' P S G Q) : Runs C M k n pc P S G Q :=
  Runs.pure d (fun p e s m args below meth c T locs L hw hx hown hZ hd hP hsz _ X => ⟨L, hP, hsz, fun t r => XS.goto (g := mkF m pc L S) X.here hx rfl (pc0 := pc) rfl hd ho.1 ho.2 r⟩) h
theorem Runs.ifY {cd : ClassFile.Cond} {x : Int32} {o : Int} {pc' : Nat} (d : DAt M pc (.ifCond cd o) 3 q) (hc : if_icmp.holds cd x 0 = true) (ho : 0 ≤ (pc : Int) + o ∧ ((pc : Int) + o).toNat = pc') (h : Runs C M k n pc' P S G Q) : Runs C M k n pc P (.int x :: S) G Q :=
  Runs.pure d (fun p e s m args below meth c T locs L hw hx hown hZ hd hP hsz _ X => ⟨L, hP, hsz, fun t r => XS.ifYes (g := mkF m pc L (.int x :: S)) X.here hx rfl (pc0 := pc) rfl hd rfl ((if0 _ _).trans hc) ho.1 ho.2 r⟩) h
theorem Runs.ifN {cd : ClassFile.Cond} {x : Int32} {o : Int} (d : DAt M pc (.ifCond cd o) 3 q) (hc : if_icmp.holds cd x 0 = false) (h : Runs C M k n q P S G Q) : Runs C M k n pc P (.int x :: S) G Q :=
  Runs.stk d (fun p e s m args below meth c T locs L hx hd hP X t r => XS.ifNo (g := mkF m pc L (.int x :: S)) X.here hx rfl hd rfl ((if0 _ _).trans hc) r) h
theorem Runs.icY {cd : ClassFile.Cond} {x y : Int32} {o : Int} {pc' : Nat} (d : DAt M pc (.if_icmp cd o) 3 q) (hc : if_icmp.holds cd x y = true) (ho : 0 ≤ (pc : Int) + o ∧ ((pc : Int) + o).toNat = pc') (h : Runs C M k n pc' P S G Q) : Runs C M k n pc P (.int y :: .int x :: S) G Q :=
  Runs.pure d (fun p e s m args below meth c T locs L hw hx hown hZ hd hP hsz _ X => ⟨L, hP, hsz, fun t r => XS.icmpYes (g := mkF m pc L (.int y :: .int x :: S)) X.here hx rfl (pc0 := pc) rfl hd rfl hc ho.1 ho.2 r⟩) h
theorem Runs.icN {cd : ClassFile.Cond} {x y : Int32} {o : Int} (d : DAt M pc (.if_icmp cd o) 3 q) (hc : if_icmp.holds cd x y = false) (h : Runs C M k n q P S G Q) : Runs C M k n pc P (.int y :: .int x :: S) G Q :=
  Runs.stk d (fun p e s m args below meth c T locs L hx hd hP X t r => XS.icmpNo (g := mkF m pc L (.int y :: .int x :: S)) X.here hx rfl hd rfl hc r) h
theorem Runs.tswI {dflt low high : Int} {offs : Array Int} {len : Nat} {o : Int} {pc' : Nat} {i : Int32} (d : DAt M pc (.tableswitch dflt low high offs) len q) (hin : ¬ (i.toInt < low ∨ i.toInt > high)) (hoff : offs[(i.toInt - low).toNat]? = some o) (ho : 0 ≤ (pc : Int) + o ∧ ((pc : Int) + o).toNat = pc') (h : Runs C M k n pc' P S G Q) : Runs C M k n pc P (.int i :: S) G Q :=
  Runs.pure d (fun p e s m args below meth c T locs L hw hx hown hZ hd hP hsz _ X => ⟨L, hP, hsz, fun t r => XS.tswIn (g := mkF m pc L (.int i :: S)) X.here hx rfl (pc0 := pc) rfl hd rfl hin hoff ho.1 ho.2 r⟩) h
theorem Runs.tswO {dflt low high : Int} {offs : Array Int} {len : Nat} {pc' : Nat} {i : Int32} (d : DAt M pc (.tableswitch dflt low high offs) len q) (hout : i.toInt < low ∨ i.toInt > high) (ho : 0 ≤ (pc : Int) + dflt ∧ ((pc : Int) + dflt).toNat = pc') (h : Runs C M k n pc' P S G Q) : Runs C M k n pc P (.int i :: S) G Q :=
  Runs.pure d (fun p e s m args below meth c T locs L hw hx hown hZ hd hP hsz _ X => ⟨L, hP, hsz, fun t r => XS.tswOut (g := mkF m pc L (.int i :: S)) X.here hx rfl (pc0 := pc) rfl hd rfl hout ho.1 ho.2 r⟩) h
theorem Runs.istoreN {j : Fin 4} {x : Int32} (d : DAt M pc (.istore_n j) 1 q) (hi : j.val < M.2.2.1) (hP' : ps1 P j.val (.int x) = P') (h : Runs C M k n q P' S G Q) : Runs C M k n pc P (.int x :: S) G Q := by
  have hq := d.2
  subst hq hP'
  refine Runs.pure d (fun p e s m args below meth c T locs L hw hx hown hZ hd hP hsz _ X => ?_) h
  obtain ⟨L', e1, e2, e3⟩ := hP.store1 (i := j.val) (v := .int x) (by omega) rfl
  exact ⟨L', e3, e2.trans hsz, fun t r => XS.istoreN (g := mkF m pc L (.int x :: S)) X.here hx rfl hd rfl e1 r⟩
theorem Runs.istore {j : Nat} {x : Int32} (d : DAt M pc (.istore j) 2 q) (hi : j < M.2.2.1) (hP' : ps1 P j (.int x) = P') (h : Runs C M k n q P' S G Q) : Runs C M k n pc P (.int x :: S) G Q := by
  have hq := d.2
  subst hq hP'
  refine Runs.pure d (fun p e s m args below meth c T locs L hw hx hown hZ hd hP hsz _ X => ?_) h
  obtain ⟨L', e1, e2, e3⟩ := hP.store1 (i := j) (v := .int x) (by omega) rfl
  exact ⟨L', e3, e2.trans hsz, fun t r => XS.istore (g := mkF m pc L (.int x :: S)) X.here hx rfl hd rfl e1 r⟩
theorem Runs.astoreN {j : Fin 4} {x : Nat} (d : DAt M pc (.astore_n j) 1 q) (hi : j.val < M.2.2.1) (hP' : ps1 P j.val (.ref x) = P') (h : Runs C M k n q P' S G Q) : Runs C M k n pc P (.ref x :: S) G Q := by
  have hq := d.2
  subst hq hP'
  refine Runs.pure d (fun p e s m args below meth c T locs L hw hx hown hZ hd hP hsz _ X => ?_) h
  obtain ⟨L', e1, e2, e3⟩ := hP.store1 (i := j.val) (v := .ref x) (by omega) rfl
  exact ⟨L', e3, e2.trans hsz, fun t r => XS.astoreN (g := mkF m pc L (.ref x :: S)) X.here hx rfl hd rfl rfl e1 r⟩
theorem Runs.astore {j : Nat} {x : Nat} (d : DAt M pc (.astore j) 2 q) (hi : j < M.2.2.1) (hP' : ps1 P j (.ref x) = P') (h : Runs C M k n q P' S G Q) : Runs C M k n pc P (.ref x :: S) G Q := by
  have hq := d.2
  subst hq hP'
  refine Runs.pure d (fun p e s m args below meth c T locs L hw hx hown hZ hd hP hsz _ X => ?_) h
  obtain ⟨L', e1, e2, e3⟩ := hP.store1 (i := j) (v := .ref x) (by omega) rfl
  exact ⟨L', e3, e2.trans hsz, fun t r => XS.astore (g := mkF m pc L (.ref x :: S)) X.here hx rfl hd rfl rfl e1 r⟩
theorem Runs.lstoreN {j : Fin 4} {x : Int64} (d : DAt M pc (.lstore_n j) 1 q) (hi : j.val + 1 < M.2.2.1) (hP' : ps2 P j.val (.long x) = P') (h : Runs C M k n q P' S G Q) : Runs C M k n pc P (.long x :: S) G Q := by
  have hq := d.2
  subst hq hP'
  refine Runs.pure d (fun p e s m args below meth c T locs L hw hx hown hZ hd hP hsz _ X => ?_) h
  obtain ⟨L', e1, e2, e3⟩ := hP.store2 (i := j.val) (v := .long x) (by omega) rfl
  exact ⟨L', e3, e2.trans hsz, fun t r => XS.lstoreN (g := mkF m pc L (.long x :: S)) X.here hx rfl hd rfl e1 r⟩
theorem Runs.lstore {j : Nat} {x : Int64} (d : DAt M pc (.lstore j) 2 q) (hi : j + 1 < M.2.2.1) (hP' : ps2 P j (.long x) = P') (h : Runs C M k n q P' S G Q) : Runs C M k n pc P (.long x :: S) G Q := by
  have hq := d.2
  subst hq hP'
  refine Runs.pure d (fun p e s m args below meth c T locs L hw hx hown hZ hd hP hsz _ X => ?_) h
  obtain ⟨L', e1, e2, e3⟩ := hP.store2 (i := j) (v := .long x) (by omega) rfl
  exact ⟨L', e3, e2.trans hsz, fun t r => XS.lstore (g := mkF m pc L (.long x :: S)) X.here hx rfl hd rfl e1 r⟩
theorem Runs.iinc {j : Nat} {cst : Int} {x v : Int32} (d : DAt M pc (.iinc j cst) 3 q) (hv : Int32.ofInt cst = v) (hl : pget P j = vi x) (hi : j < M.2.2.1) (hP' : ps1 P j (.int (x + v)) = P') (h : Runs C M k n q P' S G Q) : Runs C M k n pc P S G Q := by
  have hq := d.2
  subst hq hP' hv
  refine Runs.pure d (fun p e s m args below meth c T locs L hw hx hown hZ hd hP hsz _ X => ?_) h
  obtain ⟨L', e1, e2, e3⟩ := hP.store1 (i := j) (v := .int (x + Int32.ofInt cst)) (by omega) rfl
  exact ⟨L', e3, e2.trans hsz, fun t r => XS.iinc (g := mkF m pc L S) X.here hx rfl hd (hP.1 _ _ hl) e1 r⟩
/-- less is known of the locals -/
def psub : Pat → Pat → Prop
  | [], _ => True
  | none :: l, _ :: l' => psub l l'
  | some s :: l, y :: l' => y = some s ∧ psub l l'
  | none :: l, [] => psub l []
  | some _ :: _, [] => False
theorem psub_get : ∀ (P P' : Pat), psub P P' → ∀ i s, pget P i = some s → pget P' i = some s
  | [], _, _, i, s, h => by simp [pget] at h
  | none :: l, _ :: l', H, 0, s, h => by simp [pget] at h
  | none :: l, _ :: l', H, i + 1, s, h => psub_get l l' H i s h
  | some x :: l, y :: l', H, 0, s, h => by rw [show y = some x from H.1]; exact h
  | some x :: l, y :: l', H, i + 1, s, h => psub_get l l' H.2 i s h
  | none :: l, [], H, 0, s, h => by simp [pget] at h
  | none :: l, [], H, i + 1, s, h => by have := psub_get l [] H i s h; simp [pget] at this
  | some _ :: _, [], H, _, _, _ => H.elim
theorem Runs.weak (hP : psub P' P) (h : Runs C M k n pc P' S G Q) : Runs C M k n pc P S G Q := by
  intro hw p e s m args below meth c T locs L hx hby hml hret hnm hown hZ hf
  exact h hw p e s m args below meth c T locs L hx hby hml hret hnm hown hZ ⟨fun i s hi => hf.1 i s (psub_get _ _ hP i s hi), hf.2⟩
theorem Runs.swap {top : Nat} {x y : Nat × Nat × Rec} {H : List (Nat × Nat × Rec)} (h : Runs C M k n pc P S (top, y :: x :: H) Q) : Runs C M k n pc P S (top, x :: y :: H) Q := by
  intro hw p e s m args below meth c T locs L hx hby hml hret hnm hown hZ hf hsz X hR hF
  exact h hw p e s m args below meth c T locs L hx hby hml hret hnm hown hZ hf hsz X hR.swap hF
end Rules
/- the steps that touch the heap -/
section Made
variable {p : Program} {l : Launch} {e : Env} {R : Room} {s : State} {m : MethodId} {args : Array Value} {below : List Frame} {meth : Method} {c : Code} {T : State} {locs : List Loc} {cells slots : Nat} {Z : State} {a0 : Array Value}
theorem ext_push (h : Heap) (x : Cell) : Ext h (h.push x) := ⟨by simp, fun a c q => by rw [Array.getElem?_push_lt (Array.getElem?_eq_some_iff.mp q).1]; exact (Array.getElem?_eq_getElem _).symm.trans q⟩
/-- 'new', with the heap's size behind it -/
theorem new1 (X : Stand p l e R s m args below meth c T locs cells slots) (hx : p.tables.exec = Jvm.exec) (hZ : Z.Warmed39 s.vm) {own C : String} {index n : Nat} (hown : s.vm.findClass own = some m.cls) (w : (Jvm.Cond.classLink own index C).before a0 Z = true) (wi : (Jvm.Cond.instantiable C n).before a0 Z = true) (wz : (Jvm.Cond.initialized C).before a0 Z = true)
    {g : JFrame} (hg : g.method = m) (hd : decode c.code g.pc = .ok (.new index, 3)) (hc : cells + 1 ≤ R.cells) (hl : slots + n ≤ R.slots) :
    ∃ T', Stand p l e R s m args below meth c T' locs (cells + 1) (slots + n) ∧ T'.heap.size = T.heap.size + 1 ∧ Ext T.heap T'.heap ∧ Exa Z T'.heap T.heap.size C ∧ (∀ {O nm d : String} {ty : FieldType}, Laid Z a0 C O nm d → parseFieldDescriptor d = some ty → Fld Z T'.heap T.heap.size O nm d (defaultValue ty)) ∧
      ∀ target, Steps p.tables e below (T'.setTop { g with pc := g.pc + 3, stack := .ref T.heap.size :: g.stack }) target → Steps p.tables e below (T.setTop g) target := by
  obtain ⟨vm', cC, kC, h1, h2, h3, h4, X', st⟩ := X.newCold hx hown (mv hZ w) (mv hZ wi) (mv hZ wz) hg hd hc hl
  rw [hZ.alike.findClass] at h1
  obtain ⟨kZ, z1, -⟩ := Vm.findClass_spec h1
  obtain ⟨k', z2, z3⟩ := hZ.alike.2.2 _ _ z1
  have ek : kC.instanceTypes = kZ.instanceTypes := by rw [Option.some.inj (h2.symm.trans z2), z3]
  obtain ⟨cell, hcell⟩ : ∃ cell : Cell, cell = { cls := cC, slots := kC.instanceTypes.map defaultValue, vm := .none } := ⟨_, rfl⟩
  rw [← hcell] at X' st
  have hp : ((T.setVm vm').pushCell cell).heap = T.heap.push cell := rfl
  have at' : (T.heap.push cell)[T.heap.size]? = some cell := by simp
  refine ⟨_, X', by rw [hp]; simp, by rw [hp]; exact ext_push _ _, ?_, fun {O nm d ty} L ht => ?_, st⟩
  · rw [hp]; exact ⟨cell, kZ, at', by rw [hcell]; exact h1, by rw [hcell]; exact z1, by rw [hcell]; rfl, fun _ => by rw [hcell]; simp [ek]⟩
  · rw [hp]
    obtain ⟨c1, k1, cf, kf, i, f, a1, a2, a3, a4, a5, a6, -⟩ := L.spec
    cases h1.symm.trans a1
    cases z1.symm.trans a2
    refine ⟨cell, cf, kf, i, f, at', a3, a4, by rw [hcell]; simp, by rw [hcell]; rfl, by rw [hcell]; exact a5, ?_⟩
    rw [hcell]; simp [ek, a6, (State.fieldFound?_type a3 ht).2]
theorem newArr1 (X : Stand p l e R s m args below meth c T locs cells slots) (hx : p.tables.exec = Jvm.exec) (hZ : Z.Warmed39 s.vm) {aty : ArrayType} (w : (Jvm.Cond.arrayClass (newarray.typeOf aty)).before a0 Z = true) {g : JFrame} (hg : g.method = m) (hd : decode c.code g.pc = .ok (.newarray aty, 2)) {n : Int32} {rest : List Value} (hs : g.stack = .int n :: rest)
    (hn : ¬ n < 0) (hb : n.toNatClampNeg * 8 ≤ 536870912) (hc : cells + 1 ≤ R.cells) (hl : slots + n.toNatClampNeg ≤ R.slots) :
    ∃ T' cA, Stand p l e R s m args below meth c T' locs (cells + 1) (slots + n.toNatClampNeg) ∧ T'.heap.size = T.heap.size + 1 ∧ Ext T.heap T'.heap ∧ Arr Z T'.heap T.heap.size (newA cA (newarray.typeOf aty) n) (newarray.typeOf aty) ∧
      ∀ target, Steps p.tables e below (T'.setTop { g with pc := g.pc + 2, stack := .ref T.heap.size :: rest }) target → Steps p.tables e below (T.setTop g) target := by
  have hcb : componentBytes (newarray.typeOf aty) ≤ 8 := by cases aty <;> decide
  obtain ⟨cA, kA, comp, h1, h2, h3, X', st⟩ := X.newarrayPrim hx (mvA hZ w) hg hd hs hn (Nat.le_trans (Nat.mul_le_mul_left _ hcb) hb) hc hl
  rw [hZ.alike.findClass] at h1
  obtain ⟨kZ, z1, -⟩ := Vm.findClass_spec h1
  obtain ⟨k', z2, z3⟩ := hZ.alike.2.2 _ _ z1
  have ek : kA.kind = kZ.kind := by rw [Option.some.inj (h2.symm.trans z2), z3]
  have hp : (T.pushCell (newA cA (newarray.typeOf aty) n)).heap = T.heap.push (newA cA (newarray.typeOf aty) n) := rfl
  refine ⟨T.pushCell (newA cA (newarray.typeOf aty) n), cA, X', by rw [hp]; simp, by rw [hp]; exact ext_push _ _, ?_, st⟩
  rw [hp]
  exact ⟨by simp, ⟨by simp [newA], kZ, z1, comp, by rw [← ek]; exact h3⟩, by simp [newA]⟩
end Made
section Heap
variable {C : Ctx} {M : Bdy} {k n pc q : Nat} {P P' : Pat} {S S' : List Value} {G : AH} {Q : Option Value → AH → Prop} {top : Nat} {a : Nat} {qq j idx : Nat} {ob : Rec} {H : List (Nat × Nat × Rec)} {nm ds : String}
theorem Runs.getI (d : DAt M pc (.getfield idx) 3 q) (w : Jvm.Cond.fieldLink M.1.cls idx K.1 nm ds ∈ tables_1) (hk : K.2.1[j]? = some (nm, ds)) (h : Runs C M k n q P (.int (gI ob j) :: S) (top, (a, qq, ob) :: H) Q) : Runs C M k n pc P (.ref a :: S) (top, (a, qq, ob) :: H) Q := by
  intro hw p e s m args below meth c T locs L hx hby hml hret hnm hown hZ hf hsz X hR hF
  have hq := d.2
  subst hq
  obtain ⟨T1, X1, e1, st1⟩ := getF X hx hZ hown (host := "") (Or.inl (hw _ w)) Via.refl rfl (hR.objs.2.2.2.1 j _ hk) (g := mkF m pc L (.ref a :: S)) rfl rfl (hb hby d.1)
  obtain ⟨T', locs', k', n', r, G', g1, g2, g3, g4, g5, g6, g7, g8⟩ := h hw p e s m args below meth c T1 locs L hx hby hml hret hnm hown hZ hf hsz X1 (by rw [e1]; exact hR) hF
  exact ⟨T', locs', k', n', r, G', g1, g2, g3, g4, g5, g6, g7, fun fs hr => st1 _ (g8 fs hr)⟩
theorem Runs.getA {ty : FieldType} {len : Int32} (d : DAt M pc (.getfield idx) 3 q) (hk : K.2.2[j]? = some (nm, ty, len)) (w : Jvm.Cond.fieldLink M.1.cls idx K.1 nm (aD ty) ∈ tables_1) (hq : j < qq) (h : Runs C M k n q P (.ref (a + 1 + j) :: S) (top, (a, qq, ob) :: H) Q) : Runs C M k n pc P (.ref a :: S) (top, (a, qq, ob) :: H) Q := by
  intro hw p e s m args below meth c T locs L hx hby hml hret hnm hown hZ hf hsz X hR hF
  have hqq := d.2
  subst hqq
  obtain ⟨T1, X1, e1, st1⟩ := getF X hx hZ hown (host := "") (Or.inl (hw _ w)) Via.refl rfl (hR.objs.2.2.2.2.1 j _ hk hq).1 (g := mkF m pc L (.ref a :: S)) rfl rfl (hb hby d.1)
  obtain ⟨T', locs', k', n', r, G', g1, g2, g3, g4, g5, g6, g7, g8⟩ := h hw p e s m args below meth c T1 locs L hx hby hml hret hnm hown hZ hf hsz X1 (by rw [e1]; exact hR) hF
  exact ⟨T', locs', k', n', r, G', g1, g2, g3, g4, g5, g6, g7, fun fs hr => st1 _ (g8 fs hr)⟩
theorem lw_of {Z : State} {a0 : Array Value} {meth : Method} (hw : ∀ d ∈ tables_1, d.before a0 Z = true) {C O n d own : String} (h : Jvm.Cond.lays C O n d ∈ tables_1 ∨ Jvm.Cond.laysFinal C O n d ∈ tables_1) (hc : Jvm.Cond.lays C O n d ∈ tables_1 ∨ (own = O ∧ meth.name = "<init>")) : (Jvm.Cond.lays C O n d).before a0 Z = true ∨ ((Jvm.Cond.laysFinal C O n d).before a0 Z = true ∧ own = O ∧ meth.name = "<init>") := by
  rcases hc with hc | hc
  · exact Or.inl (hw _ hc)
  · exact h.imp (hw _) (fun u => ⟨hw _ u, hc⟩)
/-- a field that may be written here: not final, or in a constructor of its class -/
def Mine (M : Bdy) (nm ds : String) : Prop := Jvm.Cond.lays K.1 K.1 nm ds ∈ tables_1 ∨ (M.1.cls = K.1 ∧ M.1.name = "<init>")
theorem Runs.putI {x : Int32} (d : DAt M pc (.putfield idx) 3 q) (w : Jvm.Cond.fieldLink M.1.cls idx K.1 nm "I" ∈ tables_1) (hk : K.2.1[j]? = some (nm, "I")) (hm : Mine M nm "I") (h : Runs C M k n q P S (top, (a, qq, sI ob j x) :: H) Q) : Runs C M k n pc P (.int x :: .ref a :: S) (top, (a, qq, ob) :: H) Q := by
  intro hw p e s m args below meth c T locs L hx hby hml hret hnm hown hZ hf hsz X hR hF
  have hqq := d.2
  subst hqq
  obtain ⟨T1, h1, X1, e1, W1, st1⟩ := putF X hx hZ hown (host := "") (Or.inl (hw _ w)) Via.refl rfl (hR.objs.2.2.2.1 j _ hk) hR.objs.2.2.1 (lw_of hw ((All.mem kS (List.mem_of_getElem? hk)).1) (hm.imp id (fun u => ⟨u.1, hnm.trans u.2⟩))) (hw _ kI) (ty := .int) (by decide) rfl rfl (g := mkF m pc L (.int x :: .ref a :: S)) rfl rfl (hb hby d.1)
  obtain ⟨T', locs', k', n', r, G', g1, g2, g3, g4, g5, g6, g7, g8⟩ := h hw p e s m args below meth c T1 _ L hx hby hml hret hnm hown hZ hf hsz X1 (by rw [e1]; exact hR.putI hw hk W1) (Fr.snoc X1 hF hR.objs.1)
  exact ⟨T', locs', k', n', r, G', g1, g2, g3, g4, g5, g6, g7, fun fs hr => st1 _ (g8 fs hr)⟩
theorem Runs.putZ {x y : Int32} (d : DAt M pc (.putfield idx) 3 q) (w : Jvm.Cond.fieldLink M.1.cls idx K.1 nm "Z" ∈ tables_1) (hk : K.2.1[j]? = some (nm, "Z")) (hm : Mine M nm "Z") (hy : nar .boolean x = y) (h : Runs C M k n q P S (top, (a, qq, sI ob j y) :: H) Q) : Runs C M k n pc P (.int x :: .ref a :: S) (top, (a, qq, ob) :: H) Q := by
  subst hy
  intro hw p e s m args below meth c T locs L hx hby hml hret hnm hown hZ hf hsz X hR hF
  have hqq := d.2
  subst hqq
  obtain ⟨T1, h1, X1, e1, W1, st1⟩ := putFN X hx hZ hown (hw _ w) Via.refl rfl (hR.objs.2.2.2.1 j _ hk) hR.objs.2.2.1 (lw_of hw ((All.mem kS (List.mem_of_getElem? hk)).1) (hm.imp id (fun u => ⟨u.1, hnm.trans u.2⟩))) (hw _ kI) (ty := .boolean) (v' := .int (nar .boolean x)) (by decide) rfl (fits_nar_bool _) (g := mkF m pc L (.int x :: .ref a :: S)) rfl rfl (hb hby d.1)
  obtain ⟨T', locs', k', n', r, G', g1, g2, g3, g4, g5, g6, g7, g8⟩ := h hw p e s m args below meth c T1 _ L hx hby hml hret hnm hown hZ hf hsz X1 (by rw [e1]; exact hR.putI hw hk W1) (Fr.snoc X1 hF hR.objs.1)
  exact ⟨T', locs', k', n', r, G', g1, g2, g3, g4, g5, g6, g7, fun fs hr => st1 _ (g8 fs hr)⟩
theorem Runs.ialoadA {i len : Int32} (d : DAt M pc .iaload 1 q) (hk : K.2.2[j]? = some (nm, .int, len)) (hq : j < qq) (hi : ¬ i < 0 ∧ i < len) (h : Runs C M k n q P (.int (gA ob j i) :: S) (top, (a, qq, ob) :: H) Q) : Runs C M k n pc P (.int i :: .ref (a + 1 + j) :: S) (top, (a, qq, ob) :: H) Q := by
  have hqq := d.2
  subst hqq
  refine Runs.pure d (fun p e s m args below meth c T locs L hw hx hown hZ hd hP hsz hR X => ⟨L, hP, hsz, fun t r => ?_⟩) h
  obtain ⟨cl, A, Sz, V⟩ := (hR.objs.2.2.2.2.1 j _ hk hq).2
  exact X.iaload hx (j := i) (v := .int (gA ob j i)) A.1 (State.isArrayOf_alike hZ.alike A.2.1) A.2.2 (inb_of Sz hi) (V i hi.1 hi.2) (g := mkF m pc L (.int i :: .ref (a + 1 + j) :: S)) rfl rfl hd _ r
theorem Runs.baloadA {i len : Int32} (d : DAt M pc .baload 1 q) (hk : K.2.2[j]? = some (nm, .boolean, len)) (hq : j < qq) (hi : ¬ i < 0 ∧ i < len) (h : Runs C M k n q P (.int (gA ob j i) :: S) (top, (a, qq, ob) :: H) Q) : Runs C M k n pc P (.int i :: .ref (a + 1 + j) :: S) (top, (a, qq, ob) :: H) Q := by
  have hqq := d.2
  subst hqq
  refine Runs.pure d (fun p e s m args below meth c T locs L hw hx hown hZ hd hP hsz hR X => ⟨L, hP, hsz, fun t r => ?_⟩) h
  obtain ⟨cl, A, Sz, V⟩ := (hR.objs.2.2.2.2.1 j _ hk hq).2
  exact X.baloadBooleans hx (j := i) (v := .int (gA ob j i)) A.1 (State.isArrayOf_alike hZ.alike A.2.1) A.2.2 (inb_of Sz hi) (V i hi.1 hi.2) (g := mkF m pc L (.int i :: .ref (a + 1 + j) :: S)) rfl rfl hd _ r
theorem Runs.laloadA {i len : Int32} (d : DAt M pc .laload 1 q) (hk : K.2.2[j]? = some (nm, .long, len)) (hq : j < qq) (hi : ¬ i < 0 ∧ i < len) (h : Runs C M k n q P (.long (gJ ob j i) :: S) (top, (a, qq, ob) :: H) Q) : Runs C M k n pc P (.int i :: .ref (a + 1 + j) :: S) (top, (a, qq, ob) :: H) Q := by
  have hqq := d.2
  subst hqq
  refine Runs.pure d (fun p e s m args below meth c T locs L hw hx hown hZ hd hP hsz hR X => ⟨L, hP, hsz, fun t r => ?_⟩) h
  obtain ⟨cl, A, Sz, V⟩ := (hR.objs.2.2.2.2.1 j _ hk hq).2
  exact X.laload hx (j := i) (v := .long (gJ ob j i)) A.1 (State.isArrayOf_alike hZ.alike A.2.1) A.2.2 (inb_of Sz hi) (V i hi.1 hi.2) (g := mkF m pc L (.int i :: .ref (a + 1 + j) :: S)) rfl rfl hd _ r
theorem Runs.iastoreA {i x len : Int32} (d : DAt M pc .iastore 1 q) (hk : K.2.2[j]? = some (nm, .int, len)) (hq : j < qq) (hi : ¬ i < 0 ∧ i < len) (h : Runs C M k n q P S (top, (a, qq, sA ob j i x) :: H) Q) : Runs C M k n pc P (.int x :: .int i :: .ref (a + 1 + j) :: S) (top, (a, qq, ob) :: H) Q := by
  intro hw p e s m args below meth c T locs L hx hby hml hret hnm hown hZ hf hsz X hR hF
  have hqq := d.2
  subst hqq
  obtain ⟨cl, A, Sz, V⟩ := (hR.objs.2.2.2.2.1 j _ hk hq).2
  obtain ⟨T1, h1, X1, e1, W1, st1⟩ := stI X hx hZ rfl A (j := i) (x := x) (inb_of Sz hi) (g := mkF m pc L (.int x :: .int i :: .ref (a + 1 + j) :: S)) rfl rfl (hb hby d.1)
  obtain ⟨T', locs', k', n', r, G', g1, g2, g3, g4, g5, g6, g7, g8⟩ := h hw p e s m args below meth c T1 _ L hx hby hml hret hnm hown hZ hf hsz X1 (by rw [e1]; exact hR.putA hk hq (by simp) hi W1) (Fr.snoc X1 hF (by have := hR.objs.1; omega))
  exact ⟨T', locs', k', n', r, G', g1, g2, g3, g4, g5, g6, g7, fun fs hr => st1 _ (g8 fs hr)⟩
theorem Runs.bastoreA {i x len : Int32} (d : DAt M pc .bastore 1 q) (hk : K.2.2[j]? = some (nm, .boolean, len)) (hq : j < qq) (hi : ¬ i < 0 ∧ i < len) {y : Int32} (hy : nar .boolean x = y) (h : Runs C M k n q P S (top, (a, qq, sA ob j i y) :: H) Q) : Runs C M k n pc P (.int x :: .int i :: .ref (a + 1 + j) :: S) (top, (a, qq, ob) :: H) Q := by
  subst hy
  intro hw p e s m args below meth c T locs L hx hby hml hret hnm hown hZ hf hsz X hR hF
  have hqq := d.2
  subst hqq
  obtain ⟨cl, A, Sz, V⟩ := (hR.objs.2.2.2.2.1 j _ hk hq).2
  obtain ⟨T1, h1, X1, e1, W1, st1⟩ := stZ X hx hZ rfl A (j := i) (x := x) (inb_of Sz hi) (g := mkF m pc L (.int x :: .int i :: .ref (a + 1 + j) :: S)) rfl rfl (hb hby d.1)
  obtain ⟨T', locs', k', n', r, G', g1, g2, g3, g4, g5, g6, g7, g8⟩ := h hw p e s m args below meth c T1 _ L hx hby hml hret hnm hown hZ hf hsz X1 (by rw [e1]; exact hR.putA hk hq (by simp) hi W1) (Fr.snoc X1 hF (by have := hR.objs.1; omega))
  exact ⟨T', locs', k', n', r, G', g1, g2, g3, g4, g5, g6, g7, fun fs hr => st1 _ (g8 fs hr)⟩
theorem Runs.lastoreA {i len : Int32} {x : Int64} (d : DAt M pc .lastore 1 q) (hk : K.2.2[j]? = some (nm, .long, len)) (hq : j < qq) (hi : ¬ i < 0 ∧ i < len) (h : Runs C M k n q P S (top, (a, qq, sJ ob j i x) :: H) Q) : Runs C M k n pc P (.long x :: .int i :: .ref (a + 1 + j) :: S) (top, (a, qq, ob) :: H) Q := by
  intro hw p e s m args below meth c T locs L hx hby hml hret hnm hown hZ hf hsz X hR hF
  have hqq := d.2
  subst hqq
  obtain ⟨cl, A, Sz, V⟩ := (hR.objs.2.2.2.2.1 j _ hk hq).2
  obtain ⟨T1, h1, X1, e1, W1, st1⟩ := stJ X hx hZ rfl A (j := i) (x := x) (inb_of Sz hi) (g := mkF m pc L (.long x :: .int i :: .ref (a + 1 + j) :: S)) rfl rfl (hb hby d.1)
  obtain ⟨T', locs', k', n', r, G', g1, g2, g3, g4, g5, g6, g7, g8⟩ := h hw p e s m args below meth c T1 _ L hx hby hml hret hnm hown hZ hf hsz X1 (by rw [e1]; exact hR.putJ hk hq rfl hi W1) (Fr.snoc X1 hF (by have := hR.objs.1; omega))
  exact ⟨T', locs', k', n', r, G', g1, g2, g3, g4, g5, g6, g7, fun fs hr => st1 _ (g8 fs hr)⟩
/-- the script: an array that stood before the law began -/
def ScrF (C : Ctx) (sa : Nat) (z : Int32) (f : Int32 → Int32) : Prop := ∃ cl : Cell, Scr C.2.1 C.2.1.heap sa cl z ∧ f = atv cl
theorem Runs.lenS {sa : Nat} {z : Int32} {f : Int32 → Int32} (hs : ScrF C sa z f) (d : DAt M pc .arraylength 1 q) (h : Runs C M k n q P (.int z :: S) G Q) : Runs C M k n pc P (.ref sa :: S) G Q := by
  have hqq := d.2
  subst hqq
  refine Runs.pure d (fun p e s m args below meth c T locs L hw hx hown hZ hd hP hsz hR X => ⟨L, hP, hsz, fun t r => ?_⟩) h
  obtain ⟨cl, F, -⟩ := hs
  obtain ⟨A, Sz, N, V⟩ := F.ext hR.2.1.2
  exact X.arraylength hx A.1 (State.isArrayOf_alike hZ.alike A.2.1) (g := mkF m pc L (.ref sa :: S)) rfl rfl hd _ (by rw [len_of Sz N]; exact r)
theorem Runs.ialoadS {sa : Nat} {z i : Int32} {f : Int32 → Int32} (hs : ScrF C sa z f) (d : DAt M pc .iaload 1 q) (hi : ¬ i < 0 ∧ i < z) (h : Runs C M k n q P (.int (f i) :: S) G Q) : Runs C M k n pc P (.int i :: .ref sa :: S) G Q := by
  have hqq := d.2
  subst hqq
  refine Runs.pure d (fun p e s m args below meth c T locs L hw hx hown hZ hd hP hsz hR X => ⟨L, hP, hsz, fun t r => ?_⟩) h
  obtain ⟨cl, F, rfl⟩ := hs
  obtain ⟨A, Sz, N, V⟩ := F.ext hR.2.1.2
  exact X.iaload hx (j := i) (v := .int (atv cl i)) A.1 (State.isArrayOf_alike hZ.alike A.2.1) A.2.2 (inb_of Sz hi) (V i (inb_of Sz hi)) (g := mkF m pc L (.int i :: .ref sa :: S)) rfl rfl hd _ r
/- leaving -/
theorem Runs.retI {v : Int32} (d : DAt M pc .ireturn 1 q) (hret : M.2.2.2.1 = some .int) (hk : k ≤ M.2.2.2.2.cells ∧ n ≤ M.2.2.2.2.slots) (hQ : Q (some (.int v)) G) : Runs C M k n pc P (.int v :: S) G Q := by
  intro hw p e s m args below meth c T locs L hx hby hml hr0 hnm hown hZ hf hsz X hR hF
  exact ⟨T, locs, k, n, _, G, X, hk.1, hk.2, hR, hF, hQ, (fun u => by rw [hret] at u; cases u), fun fs hr => Jvm.RoadKit.retI X hx (hr0.trans hret) (hb hby d.1) hr⟩
theorem Runs.retZ {v : Int32} (d : DAt M pc .ireturn 1 q) (hret : M.2.2.2.1 = some .boolean) (hk : k ≤ M.2.2.2.2.cells ∧ n ≤ M.2.2.2.2.slots) {y : Int32} (hy : nar .boolean v = y) (hQ : Q (some (.int y)) G) : Runs C M k n pc P (.int v :: S) G Q := by
  subst hy
  intro hw p e s m args below meth c T locs L hx hby hml hr0 hnm hown hZ hf hsz X hR hF
  exact ⟨T, locs, k, n, _, G, X, hk.1, hk.2, hR, hF, hQ, (fun u => by rw [hret] at u; cases u), fun fs hr => retN X hx (t := .boolean) (hr0.trans hret) (by simp) (hb hby d.1) hr⟩
theorem Runs.retJ {v : Int64} (d : DAt M pc .lreturn 1 q) (hret : M.2.2.2.1 = some .long) (hk : k ≤ M.2.2.2.2.cells ∧ n ≤ M.2.2.2.2.slots) (hQ : Q (some (.long v)) G) : Runs C M k n pc P (.long v :: []) G Q := by
  intro hw p e s m args below meth c T locs L hx hby hml hr0 hnm hown hZ hf hsz X hR hF
  exact ⟨T, locs, k, n, _, G, X, hk.1, hk.2, hR, hF, hQ, (fun u => by rw [hret] at u; cases u), fun fs hr => X.lreturnOut hx (hr0.trans hret) (hb hby d.1) hr⟩
theorem Runs.retV (d : DAt M pc .return_ 1 q) (hret : M.2.2.2.1 = none) (hk : k ≤ M.2.2.2.2.cells ∧ n ≤ M.2.2.2.2.slots) (hQ : Q none G) : Runs C M k n pc P [] G Q := by
  intro hw p e s m args below meth c T locs L hx hby hml hr0 hnm hown hZ hf hsz X hR hF
  exact ⟨T, locs, k, n, _, G, X, hk.1, hk.2, hR, hF, hQ, (fun _ => rfl), fun fs hr => X.returnOut hx (hr0.trans hret) (hb hby d.1) hr⟩
/- a new object, and the arrays that its constructor makes -/
theorem Runs.newK (d : DAt M pc (.new idx) 3 q) (w : Jvm.Cond.classLink M.1.cls idx K.1 ∈ tables_1) (hc : k + 1 ≤ M.2.2.2.2.cells ∧ n + kN ≤ M.2.2.2.2.slots) {k' n' : Nat} (hk' : k + 1 = k') (hn' : n + kN = n') {H : List (Nat × Nat × Rec)} (hd : ∀ x ∈ H, x.1 + x.2.1 < top) (h : Runs C M k' n' q P (.ref top :: S) (top + 1, (top, 0, zrec) :: H) Q) : Runs C M k n pc P S (top, H) Q := by
  subst hk' hn'
  intro hw p e s m args below meth c T locs L hx hby hml hr0 hnm hown hZ hf hsz X hR hF
  have hqq := d.2
  subst hqq
  obtain ⟨T2, X2, s2, E2, A2, D2, st2⟩ := new1 X hx hZ hown (hw _ w) (hw _ kI) (hw _ kZ) (g := mkF m pc L S) rfl (hb hby d.1) hc.1 hc.2
  have hs : T.heap.size = top := hR.1
  rw [hs] at A2 D2 st2 s2
  have hR2 : Rep C.2.1 C.2.2.1 T2.heap (top + 1, (top, 0, zrec) :: H) := by
    refine ⟨s2, hR.2.1.ext E2, fun x hx' => ?_, ?_⟩
    · rcases List.mem_cons.mp hx' with rfl | hx'
      · refine ⟨?_, by simp, A2, fun k nd hk => ?_, fun k t hk hq => by simp at hq, fun k t hk hq => ?_⟩
        · have := hR.2.1.2.1; rw [hR.2.1.1] at this; simp only; omega
        · rcases (All.mem kS (List.mem_of_getElem? hk)).2 with e | e
          · have := D2 (laidS hw hk) (ty := .int) (by rw [e]; decide); exact this
          · have := D2 (laidS hw hk) (ty := .boolean) (by rw [e]; decide); exact this
        · have := D2 (laidA hw hk) (pfA hk); exact this
      · obtain ⟨p1, p2, p3⟩ := hR.2.2.1 x hx'
        exact ⟨p1, by simp only at p2 ⊢; omega, p3.ext E2⟩
    · exact List.pairwise_cons.mpr ⟨fun y hy => Or.inr (hd y hy), hR.2.2.2⟩
  obtain ⟨T', locs', k', n', r, G', g1, g2, g3, g4, g5, g6, g7, g8⟩ := h hw p e s m args below meth c T2 _ L hx hby hml hr0 hnm hown hZ hf hsz X2 hR2 hF
  exact ⟨T', locs', k', n', r, G', g1, g2, g3, g4, g5, g6, g7, fun fs hr => st2 _ (g8 fs hr)⟩
/-- newarray and the putfield behind it: the next array of an object that is being made -/
theorem Runs.newArr {aty : ArrayType} {ty : FieldType} {len : Int32} {q1 : Nat} (d : DAt M pc (.newarray aty) 2 q1) (d' : DAt M q1 (.putfield idx) 3 q) (hk : K.2.2[j]? = some (nm, ty, len)) (w : Jvm.Cond.fieldLink M.1.cls idx K.1 nm (aD ty) ∈ tables_1) (ht : newarray.typeOf aty = ty) (wa : Jvm.Cond.arrayClass ty ∈ tables_1) (hm : Mine M nm (aD ty))
    (htop : top = a + 1 + j) (hlen : ¬ len < 0 ∧ len.toNatClampNeg * 8 ≤ 536870912) (hc : k + 1 ≤ M.2.2.2.2.cells ∧ n + len.toNatClampNeg ≤ M.2.2.2.2.slots) (hz : (∀ i, ob.2.1 j i = 0) ∧ (∀ i, ob.2.2 j i = 0)) {j' top' k' n' : Nat} (hj' : j + 1 = j') (ht' : top + 1 = top') (hk' : k + 1 = k') (hn' : n + len.toNatClampNeg = n')
    (h : Runs C M k' n' q P S (top', (a, j', ob) :: H) Q) : Runs C M k n pc P (.int len :: .ref a :: S) (top, (a, j, ob) :: H) Q := by
  subst hj' ht' hk' hn'
  intro hw p e s m args below meth c T locs L hx hby hml hr0 hnm hown hZ hf hsz X hR hF
  have hqq := d.2
  have hqq' := d'.2
  subst hqq hqq' ht
  obtain ⟨T1, cA, X1, s1, E1, A1, st1⟩ := newArr1 X hx hZ (hw _ wa) (g := mkF m pc L (.int len :: .ref a :: S)) rfl (hb hby d.1) rfl hlen.1 hlen.2 hc.1 hc.2
  have hs : T.heap.size = top := hR.1
  rw [hs] at A1 st1 s1
  have O1 := hR.objs.2.2.ext E1
  obtain ⟨T2, h2, X2, e2, W2, st2⟩ := putF X1 hx hZ hown (host := "") (Or.inl (hw _ w)) Via.refl rfl (O1.2.2.2 j _ hk (Nat.le_refl _)) O1.1 (lw_of hw ((All.mem kA (List.mem_of_getElem? hk)).1) (hm.imp id (fun u => ⟨u.1, hnm.trans u.2⟩))) (hw _ kI) (ty := .array (newarray.typeOf aty)) (pfA hk) rfl rfl (g := mkF m (pc + 2) L (.ref top :: .ref a :: S)) rfl rfl (hb hby d'.1)
  have hts : (newarray.typeOf aty = .int ∨ newarray.typeOf aty = .boolean ∨ newarray.typeOf aty = .long) := (All.mem kA (List.mem_of_getElem? hk)).2.1
  have hA := arr_new A1 hts hz
  have hR2 : Rep C.2.1 C.2.2.1 T2.heap (top + 1, (a, j + 1, ob) :: H) := by rw [e2]; exact hR.addA hw E1 s1 htop hk hA W2
  obtain ⟨T', locs', k', n', r, G', g1, g2, g3, g4, g5, g6, g7, g8⟩ := h hw p e s m args below meth c T2 _ L hx hby hml hr0 hnm hown hZ hf hsz X2 hR2 (Fr.snoc X2 hF hR.objs.1)
  exact ⟨T', locs', k', n', r, G', g1, g2, g3, g4, g5, g6, g7, fun fs hr => st1 _ (st2 _ (g8 fs hr))⟩
theorem Runs.initO {W : Nat} (d : DAt M pc (.invokespecial idx) 3 q) (w1 : Jvm.Cond.methodLink M.1.cls idx Lib.objectInit ∈ tables_1) (w2 : Jvm.Cond.instanceMethod Lib.objectInit ∈ tables_1) (w3 : Jvm.Cond.code Lib.objectInit ⟨#[0xb1]⟩ 1 none ∈ tables_1) (hW : (S.map fun v => v.category).sum = W) (hc : 1 ≤ M.2.2.2.2.frames ∧ W + 12 ≤ M.2.2.2.2.locals) (h : Runs C M k n q P S G Q) : Runs C M k n pc P (.ref a :: S) G Q := by
  intro hw p e s m args below meth c T locs L hx hby hml hr0 hnm hown hZ hf hsz X hR hF
  have hqq := d.2
  subst hqq
  obtain ⟨T1, X1, e1, st1⟩ := Jvm.RoadKit.initO X hx hZ hown (hw _ w1) (hw _ w2) (hw _ w3) rfl (g := mkF m pc L (.ref a :: S)) rfl (by rw [hml]; exact hsz) rfl (hb hby d.1) hc.1 (W := W) (by show 2 * 0 + _ ≤ _; omega) hc.2
  obtain ⟨T', locs', k', n', r, G', g1, g2, g3, g4, g5, g6, g7, g8⟩ := h hw p e s m args below meth c T1 _ L hx hby hml hr0 hnm hown hZ hf hsz X1 (by rw [e1]; exact hR) hF
  exact ⟨T', locs', k', n', r, G', g1, g2, g3, g4, g5, g6, g7, fun fs hr => st1 _ (g8 fs hr)⟩
end Heap
/- a body's contract, and the calls that are paid by one -/
def Pays (C : Ctx) (N : Bdy) (as : List Value) (G : AH) (Q : Option Value → AH → Prop) : Prop :=
  Ok C → ∀ h0 : Heap, Rep C.2.1 C.2.2.1 h0 G → ∀ ws : List Jvm.Cond, MetFree C.1 N.1 (head1 (Jvm.Cond.code N.1 N.2.1 N.2.2.1 N.2.2.2.1 :: ws) N.2.2.2.2) (fun a U => a = as.toArray ∧ C.2.1.Warmed39 U.vm ∧ U.heap = h0) (fun _ _ _ _ _ => True)
    (fun _ U o U' => ∃ v L, o = .returned v ∧ (Fr C.2.2.1 L ∧ ∃ G', Rep C.2.1 C.2.2.1 U'.heap G' ∧ Q v G') ∧ FrameEnd U o U' L N.2.2.2.2.cells N.2.2.2.2.slots)
def lay : List Value → List Slot
  | [] => []
  | v :: l => if v.category = 2 then .val v :: .second :: lay l else .val v :: lay l
theorem lay_foldl (l : List Value) : ∀ acc : Array Slot, (l.foldl (fun acc v => if v.category = 2 then (acc.push (.val v)).push .second else acc.push (.val v)) acc).toList = acc.toList ++ lay l := by
  induction l with
  | nil => intro acc; simp [lay]
  | cons v l ih =>
    intro acc
    rw [List.foldl_cons, ih]
    by_cases h : v.category = 2 <;> simp [lay, h]
theorem args_lay (as : List Value) (ml : Nat) : argsToLocals as.toArray ml = (lay as ++ List.replicate (ml - (lay as).length) Slot.unset).toArray := by
  have h := lay_foldl as #[]
  apply Array.ext'
  simp only [argsToLocals, Array.toList_append, List.toList_toArray] at *
  rw [show (as.toArray.foldl (init := #[]) fun acc v => if v.category = 2 then (acc.push (Slot.val v)).push .second else acc.push (.val v)).toList = lay as by simpa using h]
  congr 1
  rw [← Array.length_toList, show (as.toArray.foldl (init := #[]) fun acc v => if v.category = 2 then (acc.push (Slot.val v)).push .second else acc.push (.val v)).toList = lay as by simpa using h]
  simp
def WFL (l : List Slot) : Prop := (∀ i : Nat, l[i]? = some .second → ∃ (j : Nat) (v : Value), i = j + 1 ∧ l[j]? = some (.val v) ∧ v.category = 2) ∧ (∀ (i : Nat) (v : Value), l[i]? = some (.val v) → v.category = 2 → l[i + 1]? = some .second)
theorem WFL.unset (n : Nat) : WFL (List.replicate n Slot.unset) := by
  refine ⟨fun i h => ?_, fun i v h => ?_⟩ <;> (rw [List.getElem?_replicate] at h; split at h <;> cases h)
theorem WFL.one {l : List Slot} {v : Value} (h : WFL l) (hv : v.category ≠ 2) : WFL (.val v :: l) := by
  refine ⟨fun i hi => ?_, fun i w hi hw => ?_⟩
  · cases i with
    | zero => simp at hi
    | succ i =>
      obtain ⟨j, w, e1, e2, e3⟩ := h.1 i (by simpa using hi)
      exact ⟨j + 1, w, by omega, by simpa using e2, e3⟩
  · cases i with
    | zero => simp at hi; subst hi; exact absurd hw hv
    | succ i => have := h.2 i w (by simpa using hi) hw; simpa using this
theorem WFL.two {l : List Slot} {v : Value} (h : WFL l) (hv : v.category = 2) : WFL (.val v :: .second :: l) := by
  refine ⟨fun i hi => ?_, fun i w hi hw => ?_⟩
  · match i, hi with
    | 0, hi => simp at hi
    | 1, hi => exact ⟨0, v, rfl, by simp, hv⟩
    | i + 2, hi =>
      obtain ⟨j, w, e1, e2, e3⟩ := h.1 i (by simpa using hi)
      exact ⟨j + 2, w, by omega, by simpa using e2, e3⟩
  · match i, hi with
    | 0, hi => simp
    | 1, hi => simp at hi
    | i + 2, hi => have := h.2 i w (by simpa using hi) hw; simpa using this
theorem WFL.lay (as : List Value) (n : Nat) : WFL (lay as ++ List.replicate n Slot.unset) := by
  induction as with
  | nil => exact WFL.unset n
  | cons v l ih =>
    by_cases h : v.category = 2
    · simpa [Jvm.Pilot.@@N@@.lay, h] using ih.two h
    · simpa [Jvm.Pilot.@@N@@.lay, h] using ih.one h
def pforget : List Bool → Pat → Pat
  | [], _ => []
  | _, [] => []
  | true :: ms, x :: l => x :: pforget ms l
  | false :: ms, _ :: l => none :: pforget ms l
theorem pforget_get : ∀ (ms : List Bool) (P : Pat) (i : Nat) (s : Slot), pget (pforget ms P) i = some s → pget P i = some s
  | [], _, i, s, h => by simp [pforget, pget] at h
  | _ :: _, [], i, s, h => by simp [pforget, pget] at h
  | true :: ms, x :: l, 0, s, h => h
  | true :: ms, x :: l, i + 1, s, h => pforget_get ms l i s h
  | false :: ms, x :: l, 0, s, h => by simp [pforget, pget] at h
  | false :: ms, x :: l, i + 1, s, h => pforget_get ms l i s h
section Calls
variable {C : Ctx} {M N : Bdy} {k n pc q : Nat} {P P' : Pat} {S S' : List Value} {G G1 : AH} {Q : Option Value → AH → Prop} {top : Nat} {a : Nat} {qq j idx W : Nat} {ob : Rec} {H : List (Nat × Nat × Rec)} {as : List Value}
theorem Runs.forget (ms : List Bool) (hP : pforget ms P = P') (h : Runs C M k n pc P' S G Q) : Runs C M k n pc P S G Q := by
  intro hw p e s m args below meth c T locs L hx hby hml hret hnm hown hZ hf
  subst hP
  exact h hw p e s m args below meth c T locs L hx hby hml hret hnm hown hZ ⟨fun i s hi => hf.1 i s (pforget_get _ _ i s hi), hf.2⟩
theorem Pays.of (hpl : plainName N.1.cls = true) (hml : (lay as).length ≤ N.2.2.1) (x : Nat) (hP : (lay as).map some ++ List.replicate x none = P) (h : Runs C N 0 0 0 P [] G Q) : Pays C N as G Q := by
  intro hw h0 hR ws
  refine MetFree.of_bodySF (plainFor_of_name hpl) hisR ?_
  intro p e s m args below meth c s₁ Bd hml0 hp hK
  obtain ⟨rfl, hZ, hh⟩ := hp
  have X0 : Stand p C.1 e N.2.2.2.2 s m as.toArray below meth c s₁ [] 0 0 := Stand.of_body Bd
  have e0 : s₁.heap = h0 := by rw [← hh, Bd.state]; rfl
  obtain ⟨L, hL⟩ : ∃ L : Array Slot, L = (lay as ++ List.replicate (N.2.2.1 - (lay as).length) Slot.unset).toArray := ⟨_, rfl⟩
  have hfit : Fits P L := by
    subst hP hL
    refine ⟨fun i s hi => ?_, ?_⟩
    · rw [pget_eq] at hi
      cases hq : (lay as)[i]? with
      | none =>
        rw [List.getElem?_append_right (by simpa using hq), List.getElem?_replicate] at hi
        split at hi <;> simp at hi
      | some y =>
        have hlt := (List.getElem?_eq_some_iff.mp hq).1
        rw [List.getElem?_append_left (by simpa using hlt), List.getElem?_map, hq] at hi
        have this : y = s := by simpa using hi
        simp only [List.getElem?_toArray]
        rw [List.getElem?_append_left hlt, hq, this]
    · have := WFL.lay as (N.2.2.1 - (lay as).length)
      refine ⟨fun i hi => ?_, fun i v hi hv => ?_⟩
      · rw [List.getElem?_toArray] at hi
        obtain ⟨j, v, e1, e2, e3⟩ := this.1 i hi
        exact ⟨j, v, e1, by rw [List.getElem?_toArray]; exact e2, e3⟩
      · rw [List.getElem?_toArray] at hi ⊢
        exact this.2 i v hi hv
  obtain ⟨T', locs', k', n', r, G', g1, g2, g3, g4, g5, g6, g7, g8⟩ := h hw p e s m as.toArray below meth c s₁ [] L Bd.exec Bd.bytes hml0 Bd.returns (name_of_methodNamed Bd.named Bd.method).1 (findClass_of_methodNamed Bd.named) hZ hfit (by rw [hL]; simp; omega) X0 (by rw [e0]; exact hR) (Fr.nil _)
  obtain ⟨fs, hr, hrun, hended, hW, hsame⟩ := g1.leave (v := r) (fun u => g7 (by rw [← Bd.returns]; exact u))
  refine ⟨_, _, ?_, hrun, hended, _, _, rfl, ⟨g5, G', ?_, g6⟩, ⟨_, rfl⟩, hW, hsame.mono g2 g3⟩
  · have ef : entryFrame m as.toArray N.2.2.1 = mkF m 0 L [] := by
      rw [hL, ← args_lay]; rfl
    rw [ef]; exact g8 fs hr
  · exact g4
abbrev room_al (M N : Bdy) (W k n : Nat) : Prop := N.2.2.2.2.frames + 1 ≤ M.2.2.2.2.frames ∧ W + (N.2.2.1 + 11) + N.2.2.2.2.locals ≤ M.2.2.2.2.locals ∧ k + N.2.2.2.2.cells ≤ M.2.2.2.2.cells ∧ n + N.2.2.2.2.slots ≤ M.2.2.2.2.slots
abbrev room_ok (M N : Bdy) (W : Nat) : Prop := N.2.2.2.2.frames + 1 ≤ M.2.2.2.2.frames ∧ W + (N.2.2.1 + 11) + N.2.2.2.2.locals ≤ M.2.2.2.2.locals ∧ N.2.2.2.2.cells = 0 ∧ N.2.2.2.2.slots = 0
abbrev full_ok (M : Bdy) (k n : Nat) : Prop := k ≤ M.2.2.2.2.cells ∧ n ≤ M.2.2.2.2.slots
theorem room_ok.al (h : room_ok M N W) (f : full_ok M k n) : room_al M N W k n := ⟨h.1, h.2.1, by rw [h.2.2.1]; exact f.1, by rw [h.2.2.2]; exact f.2⟩
abbrev code_w (N : Bdy) : Prop := Jvm.Cond.code N.1 N.2.1 N.2.2.1 N.2.2.2.1 ∈ tables_1 ∧ Jvm.Cond.initialized N.1.cls ∈ tables_1 ∧ (N.1.cls ≠ "java/lang/invoke/MethodHandle" ∧ N.1.cls ≠ "java/lang/invoke/VarHandle")
def arity (N : Bdy) (na : Nat) : Prop := ∃ ps r, parseMethodDescriptor N.1.desc = some ⟨ps, r⟩ ∧ na = ps.length
theorem arity.len {na : Nat} (h : arity N na) (e : as.length = na) : ∀ sig, parseMethodDescriptor N.1.desc = some sig → as.length = sig.parameters.length := by
  obtain ⟨ps, r, h1, h2⟩ := h
  exact lenOf h1 (e.trans h2)
theorem after_call {v : Option Value} {p : Program} {e : Env} {s : State} {m : MethodId} {args : Array Value} {below : List Frame} {meth : Method} {c : Code} {T T0 : State} {locs : List Loc} {L : Array Slot} {QN : Option Value → AH → Prop} {Lc : List Loc}
    (hw : Ok C) (hx : p.tables.exec = Jvm.exec) (hby : c.code = M.2.1) (hml : c.maxLocals = M.2.2.1) (hret : meth.sig.returnType = M.2.2.2.1) (hnm : meth.name = M.1.name) (hown : s.vm.findClass M.1.cls = some m.cls) (hZ : C.2.1.Warmed39 s.vm) (hf : Fits P L) (hsz : L.size = M.2.2.1) (hF : Fr C.2.2.1 locs)
    (X : Stand p C.1 e M.2.2.2.2 s m args below meth c T (locs ++ Lc) (k + N.2.2.2.2.cells) (n + N.2.2.2.2.slots)) (hQ : Fr C.2.2.1 Lc ∧ ∃ G', Rep C.2.1 C.2.2.1 T.heap G' ∧ QN v G')
    (h : ∀ v G', QN v G' → Runs C M (k + N.2.2.2.2.cells) (n + N.2.2.2.2.slots) (pc + 3) P (v.toList ++ S') G' Q)
    (st : ∀ t, Steps p.tables e below (T.setTop (mkF m (pc + 3) L (v.toList ++ S'))) t → Steps p.tables e below (T0.setTop (mkF m pc L S)) t) :
    ∃ (T' : State) (locs' : List Loc) (k' n' : Nat) (r : Option Value) (G' : AH), Stand p C.1 e M.2.2.2.2 s m args below meth c T' locs' k' n' ∧ k' ≤ M.2.2.2.2.cells ∧ n' ≤ M.2.2.2.2.slots ∧ Rep C.2.1 C.2.2.1 T'.heap G' ∧ Fr C.2.2.1 locs' ∧ Q r G' ∧
      (M.2.2.2.1 = none → r = none) ∧
      ∀ fs : List Frame, (∀ (f : JFrame) (acts : List Action), f.method = m → f.locked = none → f.entered = [] → (doReturn e (T'.setTop f) acts r).1 = T'.setFrames fs) → Steps p.tables e below (T0.setTop (mkF m pc L S)) (T'.setFrames fs) := by
  obtain ⟨f1, G', f2, f3⟩ := hQ
  obtain ⟨T', locs', k', n', r, G'', g1, g2, g3, g4, g5, g6, g7, g8⟩ := h v G' f3 hw p e s m args below meth c T _ L hx hby hml hret hnm hown hZ hf hsz X f2 (Fr.app hF f1)
  exact ⟨T', locs', k', n', r, G'', g1, g2, g3, g4, g5, g6, g7, fun fs hr => st _ (g8 fs hr)⟩
theorem Runs.callS {QN : Option Value → AH → Prop} (d : DAt M pc (.invokestatic idx) 3 q) (wl : Jvm.Cond.methodLink M.1.cls idx N.1 ∈ tables_1) (wt : Jvm.Cond.static N.1 ∈ tables_1) (wc : code_w N) (ar : arity N as.length) (hr0 : room_ok M N W) (hfull : full_ok M k n) (hS : S = as.reverse ++ S') (hW : (S'.map fun v => v.category).sum = W)
    (hN : Pays C N as G QN) (h : ∀ v G', QN v G' → Runs C M k n q P (v.toList ++ S') G' Q) : Runs C M k n pc P S G Q := by
  intro hw p e s m args below meth c T locs L hx hby hml hret hnm hown hZ hf hsz X hR hF
  have hq := d.2
  subst hq hS
  have hr := hr0.al hfull
  obtain ⟨_, _, ⟨T1, L1, k1, n1⟩, -, X1, ⟨Lc, hQ, l1, y1, z1⟩, st⟩ := Jvm.LawKit.callS X hx (y := N.1) hown (mvT hZ (hw _ wl)) (mvT hZ (hw _ wt)) (mvT hZ (hw _ wc.2.1)) (mvT hZ (hw _ wc.1)) wc.2.2 (backOf (W := W) (Q := fun v h L => Fr C.2.2.1 L ∧ ∃ G', Rep C.2.1 C.2.2.1 h G' ∧ QN v G') (hN hw T.heap hR []) hZ (hw _ wc.1) (hw _ wc.2.1) hr.1 hr.2.1) (g := mkF m pc L (as.reverse ++ S')) rfl (by rw [hml]; exact hsz) (argsL := as) (rest := S') (ar.len rfl) rfl (by show 2 * 0 + _ ≤ _; omega) (hb hby d.1) (fun _ _ => ⟨rfl, rfl, hr.2.2.1, hr.2.2.2⟩)
  dsimp only [Pt.U, Pt.locs, Pt.cells, Pt.slots] at X1 l1 y1 z1 st hQ
  subst l1 y1 z1
  exact after_call hw hx hby hml hret hnm hown hZ hf hsz hF X1 hQ (by rw [hr0.2.2.1, hr0.2.2.2]; exact h) (fun t u => st t u)
theorem Runs.callV {QN : Option Value → AH → Prop} (d : DAt M pc (.invokevirtual idx) 3 q) (wl : Jvm.Cond.methodLink M.1.cls idx N.1 ∈ tables_1) (wd : Jvm.Cond.declares N.1 ∈ tables_1) (wi : Jvm.Cond.instanceMethod N.1 ∈ tables_1) (ws : Jvm.Cond.selects K.1 N.1 N.1 ∈ tables_1) (wc : code_w N) (ar : arity N as.length) (hr0 : room_ok M N W) (hfull : full_ok M k n) (hS : S = as.reverse ++ .ref a :: S') (hW : (S'.map fun v => v.category).sum = W)
    (hN : Pays C N (.ref a :: as) (top, (a, qq, ob) :: H) QN) (h : ∀ v G', QN v G' → Runs C M k n q P (v.toList ++ S') G' Q) : Runs C M k n pc P S (top, (a, qq, ob) :: H) Q := by
  intro hw p e s m args below meth c T locs L hx hby hml hret hnm hown hZ hf hsz X hR hF
  have hq := d.2
  subst hq hS
  have hr := hr0.al hfull
  obtain ⟨cB, kB, u1, -, u3⟩ := isOf hZ rfl hR.objs.2.2.1
  obtain ⟨_, _, ⟨T1, L1, k1, n1⟩, -, X1, ⟨Lc, hQ, l1, y1, z1⟩, st⟩ := X.virtualBack hx (y := N.1) (z := N.1) hown (mvT hZ (hw _ wl)) (mvT hZ (hw _ wd)) (notFace_of_selects (args := #[]) (mvT hZ (hw _ ws))) (mvT hZ (hw _ ws)) (mvT hZ (hw _ wi)) wc.2.2 (backOf (W := W) (Q := fun v h L => Fr C.2.2.1 L ∧ ∃ G', Rep C.2.1 C.2.2.1 h G' ∧ QN v G') (hN hw T.heap hR []) hZ (hw _ wc.1) (hw _ wc.2.1) hr.1 hr.2.1) u1 u3 (g := mkF m pc L (as.reverse ++ .ref a :: S')) rfl (by rw [hml]; exact hsz) (Steps.refl _) (argsL := as) (rest := S') (ar.len rfl) rfl (by show 2 * 0 + _ ≤ _; omega) (hb hby d.1) (fun _ _ => ⟨rfl, rfl, hr.2.2.1, hr.2.2.2⟩)
  dsimp only [Pt.U, Pt.locs, Pt.cells, Pt.slots] at X1 l1 y1 z1 st hQ
  subst l1 y1 z1
  exact after_call hw hx hby hml hret hnm hown hZ hf hsz hF X1 hQ (by rw [hr0.2.2.1, hr0.2.2.2]; exact h) (fun t u => st.trans u)
theorem Runs.callP {QN : Option Value → AH → Prop} (d : DAt M pc (.invokevirtual idx) 3 q) (wl : Jvm.Cond.methodLink M.1.cls idx N.1 ∈ tables_1) (wi : Jvm.Cond.instanceMethod N.1 ∈ tables_1) (wp : Jvm.Cond.privateMethod N.1 ∈ tables_1) (wK : N.1.cls = K.1) (wc : code_w N) (ar : arity N as.length) (hr0 : room_ok M N W) (hfull : full_ok M k n) (hS : S = as.reverse ++ .ref a :: S') (hW : (S'.map fun v => v.category).sum = W)
    (hN : Pays C N (.ref a :: as) (top, (a, qq, ob) :: H) QN) (h : ∀ v G', QN v G' → Runs C M k n q P (v.toList ++ S') G' Q) : Runs C M k n pc P S (top, (a, qq, ob) :: H) Q := by
  intro hw p e s m args below meth c T locs L hx hby hml hret hnm hown hZ hf hsz X hR hF
  have hq := d.2
  subst hq hS
  have hr := hr0.al hfull
  obtain ⟨cl, u1, u2⟩ := hR.objs.2.2.1.cell
  have hpr : s.PrivateAt N.1 := Cond.privateMethod_at (mvP hZ (hw _ wp) (args := #[]))
  obtain ⟨c2, k2, i1, i2, i3, i4, -⟩ := Cond.instantiable_spec (mvT (args := args) hZ (hw _ kI))
  have hsel : (Jvm.Cond.selects N.1.cls N.1 N.1).before args s = true := Stand.selects_self_of_private (by rw [wK]; exact i1) i2 (by simp at i4; exact i4.1) hpr (mvT hZ (hw _ wi)) wc.2.2
  obtain ⟨_, _, ⟨T1, L1, k1, n1⟩, -, X1, ⟨Lc, hQ, l1, y1, z1⟩, st⟩ := X.privateBack hx (y := N.1) hown (mvT hZ (hw _ wl)) (mvT hZ (hw _ wi)) hsel hpr (mvT hZ (hw _ wc.1)) wc.2.2 (backOf (W := W) (Q := fun v h L => Fr C.2.2.1 L ∧ ∃ G', Rep C.2.1 C.2.2.1 h G' ∧ QN v G') (hN hw T.heap hR []) hZ (hw _ wc.1) (hw _ wc.2.1) hr.1 hr.2.1) (g := mkF m pc L (as.reverse ++ .ref a :: S')) rfl (by rw [hml]; exact hsz) (Steps.refl _) (a := a) u1 u2 (argsL := as) (rest := S') (ar.len rfl) rfl (by show 2 * 0 + _ ≤ _; omega) (hb hby d.1) (fun _ _ => ⟨rfl, rfl, hr.2.2.1, hr.2.2.2⟩)
  dsimp only [Pt.U, Pt.locs, Pt.cells, Pt.slots] at X1 l1 y1 z1 st hQ
  subst l1 y1 z1
  exact after_call hw hx hby hml hret hnm hown hZ hf hsz hF X1 hQ (by rw [hr0.2.2.1, hr0.2.2.2]; exact h) (fun t u => st.trans u)
theorem Runs.callI {QN : Option Value → AH → Prop} (d : DAt M pc (.invokespecial idx) 3 q) (hi : N.1.name = "<init>") (hn : N.2.2.2.1 = none) (wl : Jvm.Cond.methodLink M.1.cls idx N.1 ∈ tables_1) (wi : Jvm.Cond.instanceMethod N.1 ∈ tables_1) (wc : code_w N) (ar : arity N as.length) (hr : room_al M N W k n) (hS : S = as.reverse ++ .ref a :: S') (hW : (S'.map fun v => v.category).sum = W) {k' n' : Nat} (hk' : k + N.2.2.2.2.cells = k') (hn' : n + N.2.2.2.2.slots = n')
    (hN : Pays C N (.ref a :: as) G QN) (h : ∀ v G', QN v G' → Runs C M k' n' q P (v.toList ++ S') G' Q) : Runs C M k n pc P S G Q := by
  intro hw p e s m args below meth c T locs L hx hby hml hret hnm hown hZ hf hsz X hR hF
  have hq := d.2
  subst hq hS hk' hn'
  have wc1 := hw _ wc.1
  obtain ⟨_, _, ⟨T1, L1, k1, n1⟩, -, X1, ⟨Lc, hQ, l1, y1, z1⟩, st⟩ := X.specialBack hx (y := N.1) hi hown (mvT hZ (hw _ wl)) (mvT hZ (hw _ wi)) (bytes := N.2.1) (maxL := N.2.2.1) (by have := mvT (args := args) hZ wc1; rw [hn] at this; exact this) wc.2.2 (backOf (W := W) (Q := fun v h L => Fr C.2.2.1 L ∧ ∃ G', Rep C.2.1 C.2.2.1 h G' ∧ QN v G') (hN hw T.heap hR []) hZ wc1 (hw _ wc.2.1) hr.1 hr.2.1) (g := mkF m pc L (as.reverse ++ .ref a :: S')) rfl (by rw [hml]; exact hsz) (Steps.refl _) (a := a) (argsL := as) (rest := S') (ar.len rfl) rfl (by show 2 * 0 + _ ≤ _; omega) (hb hby d.1) (fun _ _ => ⟨rfl, rfl, hr.2.2.1, hr.2.2.2⟩)
  dsimp only [Pt.U, Pt.locs, Pt.cells, Pt.slots] at X1 l1 y1 z1 st hQ
  subst l1 y1 z1
  exact after_call hw hx hby hml hret hnm hown hZ hf hsz hF X1 hQ h (fun t u => st.trans u)
/-- the plain form of a contract: one answer, one heap -/
abbrev Ans (r : Option Value) (G1 : AH) : Option Value → AH → Prop := fun v G' => v = r ∧ G' = G1
theorem ans1 {x : Value} {k n : Nat} (h : Runs C M k n pc P (x :: S) G1 Q) : ∀ v G', Ans (some x) G1 v G' → Runs C M k n pc P (v.toList ++ S) G' Q := by
  rintro v G' ⟨rfl, rfl⟩; exact h
theorem ans0 {k n : Nat} (h : Runs C M k n pc P S G1 Q) : ∀ v G', Ans none G1 v G' → Runs C M k n pc P (v.toList ++ S) G' Q := by
  rintro v G' ⟨rfl, rfl⟩; exact h
end Calls
theorem pnK : plainName "WsClockPager" = true := by first | (simp [plainName, overriddenIn]; done) | decide +kernel
theorem pnL : plainName "WsClockPagerL2" = true := by first | (simp [plainName, overriddenIn]; done) | decide +kernel
theorem w0 : (Jvm.Cond.classLink "WsClockPagerL2" (7 : Nat) "WsClockPager") ∈ tables_1 := mem1 0 rfl
theorem w3 : (Jvm.Cond.methodLink "WsClockPagerL2" (9 : Nat) ({ cls := "WsClockPager", name := "<init>", desc := "(IIII)V" } : Jvm.MethodName)) ∈ tables_1 := mem1 3 rfl
theorem w4 : (Jvm.Cond.instanceMethod ({ cls := "WsClockPager", name := "<init>", desc := "(IIII)V" } : Jvm.MethodName)) ∈ tables_1 := mem1 4 rfl
theorem w6 : (Jvm.Cond.methodLink "WsClockPager" (1 : Nat) ({ cls := "java/lang/Object", name := "<init>", desc := "()V" } : Jvm.MethodName)) ∈ tables_1 := mem1 6 rfl
theorem w7 : (Jvm.Cond.instanceMethod ({ cls := "java/lang/Object", name := "<init>", desc := "()V" } : Jvm.MethodName)) ∈ tables_1 := mem1 7 rfl
theorem w8 : (Jvm.Cond.code ({ cls := "java/lang/Object", name := "<init>", desc := "()V" } : Jvm.MethodName) object_method_1_code (1 : Nat) (Option.none : Option Jvm.ClassFile.FieldType)) ∈ tables_1 := mem1 8 rfl
theorem w9 : (Jvm.Cond.arrayClass Jvm.ClassFile.FieldType.boolean) ∈ tables_1 := mem1 9 rfl
theorem w10 : (Jvm.Cond.fieldLink "WsClockPager" (7 : Nat) "WsClockPager" "suspended" "[Z") ∈ tables_1 := mem1 10 rfl
theorem w11 : (Jvm.Cond.lays "WsClockPager" "WsClockPager" "suspended" "[Z") ∈ tables_1 := mem1 11 rfl
theorem w12 : (Jvm.Cond.arrayClass Jvm.ClassFile.FieldType.int) ∈ tables_1 := mem1 12 rfl
theorem w13 : (Jvm.Cond.fieldLink "WsClockPager" (13 : Nat) "WsClockPager" "vtime" "[I") ∈ tables_1 := mem1 13 rfl
theorem w14 : (Jvm.Cond.lays "WsClockPager" "WsClockPager" "vtime" "[I") ∈ tables_1 := mem1 14 rfl
theorem w15 : (Jvm.Cond.fieldLink "WsClockPager" (17 : Nat) "WsClockPager" "winLen" "[I") ∈ tables_1 := mem1 15 rfl
theorem w16 : (Jvm.Cond.lays "WsClockPager" "WsClockPager" "winLen" "[I") ∈ tables_1 := mem1 16 rfl
theorem w17 : (Jvm.Cond.fieldLink "WsClockPager" (20 : Nat) "WsClockPager" "winHead" "[I") ∈ tables_1 := mem1 17 rfl
theorem w18 : (Jvm.Cond.lays "WsClockPager" "WsClockPager" "winHead" "[I") ∈ tables_1 := mem1 18 rfl
theorem w19 : (Jvm.Cond.fieldLink "WsClockPager" (23 : Nat) "WsClockPager" "wsSize" "[I") ∈ tables_1 := mem1 19 rfl
theorem w20 : (Jvm.Cond.lays "WsClockPager" "WsClockPager" "wsSize" "[I") ∈ tables_1 := mem1 20 rfl
theorem w21 : (Jvm.Cond.fieldLink "WsClockPager" (26 : Nat) "WsClockPager" "touchedCount" "[I") ∈ tables_1 := mem1 21 rfl
theorem w22 : (Jvm.Cond.lays "WsClockPager" "WsClockPager" "touchedCount" "[I") ∈ tables_1 := mem1 22 rfl
theorem w23 : (Jvm.Cond.fieldLink "WsClockPager" (29 : Nat) "WsClockPager" "ring" "[I") ∈ tables_1 := mem1 23 rfl
theorem w24 : (Jvm.Cond.lays "WsClockPager" "WsClockPager" "ring" "[I") ∈ tables_1 := mem1 24 rfl
theorem w25 : (Jvm.Cond.fieldLink "WsClockPager" (32 : Nat) "WsClockPager" "winCount" "[I") ∈ tables_1 := mem1 25 rfl
theorem w26 : (Jvm.Cond.lays "WsClockPager" "WsClockPager" "winCount" "[I") ∈ tables_1 := mem1 26 rfl
theorem w27 : (Jvm.Cond.fieldLink "WsClockPager" (35 : Nat) "WsClockPager" "touched" "[Z") ∈ tables_1 := mem1 27 rfl
theorem w28 : (Jvm.Cond.lays "WsClockPager" "WsClockPager" "touched" "[Z") ∈ tables_1 := mem1 28 rfl
theorem w29 : (Jvm.Cond.fieldLink "WsClockPager" (38 : Nat) "WsClockPager" "pageFrame" "[I") ∈ tables_1 := mem1 29 rfl
theorem w30 : (Jvm.Cond.lays "WsClockPager" "WsClockPager" "pageFrame" "[I") ∈ tables_1 := mem1 30 rfl
theorem w31 : (Jvm.Cond.fieldLink "WsClockPager" (41 : Nat) "WsClockPager" "pageSlot" "[I") ∈ tables_1 := mem1 31 rfl
theorem w32 : (Jvm.Cond.lays "WsClockPager" "WsClockPager" "pageSlot" "[I") ∈ tables_1 := mem1 32 rfl
theorem w33 : (Jvm.Cond.fieldLink "WsClockPager" (44 : Nat) "WsClockPager" "pageLastUse" "[I") ∈ tables_1 := mem1 33 rfl
theorem w34 : (Jvm.Cond.lays "WsClockPager" "WsClockPager" "pageLastUse" "[I") ∈ tables_1 := mem1 34 rfl
theorem w35 : (Jvm.Cond.fieldLink "WsClockPager" (47 : Nat) "WsClockPager" "frameOwner" "[I") ∈ tables_1 := mem1 35 rfl
theorem w36 : (Jvm.Cond.lays "WsClockPager" "WsClockPager" "frameOwner" "[I") ∈ tables_1 := mem1 36 rfl
theorem w37 : (Jvm.Cond.fieldLink "WsClockPager" (50 : Nat) "WsClockPager" "frameRef" "[Z") ∈ tables_1 := mem1 37 rfl
theorem w38 : (Jvm.Cond.lays "WsClockPager" "WsClockPager" "frameRef" "[Z") ∈ tables_1 := mem1 38 rfl
theorem w39 : (Jvm.Cond.fieldLink "WsClockPager" (53 : Nat) "WsClockPager" "frameDirty" "[Z") ∈ tables_1 := mem1 39 rfl
theorem w40 : (Jvm.Cond.lays "WsClockPager" "WsClockPager" "frameDirty" "[Z") ∈ tables_1 := mem1 40 rfl
theorem w41 : (Jvm.Cond.fieldLink "WsClockPager" (56 : Nat) "WsClockPager" "frameWords" "[I") ∈ tables_1 := mem1 41 rfl
theorem w42 : (Jvm.Cond.lays "WsClockPager" "WsClockPager" "frameWords" "[I") ∈ tables_1 := mem1 42 rfl
theorem w43 : (Jvm.Cond.fieldLink "WsClockPager" (59 : Nat) "WsClockPager" "slotUsed" "[Z") ∈ tables_1 := mem1 43 rfl
theorem w44 : (Jvm.Cond.lays "WsClockPager" "WsClockPager" "slotUsed" "[Z") ∈ tables_1 := mem1 44 rfl
theorem w45 : (Jvm.Cond.fieldLink "WsClockPager" (62 : Nat) "WsClockPager" "swapWords" "[I") ∈ tables_1 := mem1 45 rfl
theorem w46 : (Jvm.Cond.lays "WsClockPager" "WsClockPager" "swapWords" "[I") ∈ tables_1 := mem1 46 rfl
theorem w47 : (Jvm.Cond.methodLink "WsClockPager" (65 : Nat) ({ cls := "WsClockPager", name := "clamp", desc := "(III)I" } : Jvm.MethodName)) ∈ tables_1 := mem1 47 rfl
theorem w48 : (Jvm.Cond.instanceMethod ({ cls := "WsClockPager", name := "clamp", desc := "(III)I" } : Jvm.MethodName)) ∈ tables_1 := mem1 48 rfl
theorem w49 : (Jvm.Cond.privateMethod ({ cls := "WsClockPager", name := "clamp", desc := "(III)I" } : Jvm.MethodName)) ∈ tables_1 := mem1 49 rfl
theorem w51 : (Jvm.Cond.fieldLink "WsClockPager" (69 : Nat) "WsClockPager" "procs" "I") ∈ tables_1 := mem1 51 rfl
theorem w52 : (Jvm.Cond.lays "WsClockPager" "WsClockPager" "procs" "I") ∈ tables_1 := mem1 52 rfl
theorem w53 : (Jvm.Cond.fieldLink "WsClockPager" (73 : Nat) "WsClockPager" "pages" "I") ∈ tables_1 := mem1 53 rfl
theorem w54 : (Jvm.Cond.lays "WsClockPager" "WsClockPager" "pages" "I") ∈ tables_1 := mem1 54 rfl
theorem w55 : (Jvm.Cond.fieldLink "WsClockPager" (76 : Nat) "WsClockPager" "frames" "I") ∈ tables_1 := mem1 55 rfl
theorem w56 : (Jvm.Cond.lays "WsClockPager" "WsClockPager" "frames" "I") ∈ tables_1 := mem1 56 rfl
theorem w57 : (Jvm.Cond.fieldLink "WsClockPager" (79 : Nat) "WsClockPager" "tau" "I") ∈ tables_1 := mem1 57 rfl
theorem w58 : (Jvm.Cond.lays "WsClockPager" "WsClockPager" "tau" "I") ∈ tables_1 := mem1 58 rfl
theorem w59 : (Jvm.Cond.fieldLink "WsClockPager" (82 : Nat) "WsClockPager" "status" "I") ∈ tables_1 := mem1 59 rfl
theorem w60 : (Jvm.Cond.lays "WsClockPager" "WsClockPager" "status" "I") ∈ tables_1 := mem1 60 rfl
theorem w61 : (Jvm.Cond.fieldLink "WsClockPager" (85 : Nat) "WsClockPager" "suspensionCount" "I") ∈ tables_1 := mem1 61 rfl
theorem w62 : (Jvm.Cond.lays "WsClockPager" "WsClockPager" "suspensionCount" "I") ∈ tables_1 := mem1 62 rfl
theorem w63 : (Jvm.Cond.fieldLink "WsClockPager" (88 : Nat) "WsClockPager" "readmissionCount" "I") ∈ tables_1 := mem1 63 rfl
theorem w64 : (Jvm.Cond.lays "WsClockPager" "WsClockPager" "readmissionCount" "I") ∈ tables_1 := mem1 64 rfl
theorem w65 : (Jvm.Cond.fieldLink "WsClockPager" (91 : Nat) "WsClockPager" "hand" "I") ∈ tables_1 := mem1 65 rfl
theorem w66 : (Jvm.Cond.lays "WsClockPager" "WsClockPager" "hand" "I") ∈ tables_1 := mem1 66 rfl
theorem w67 : (Jvm.Cond.methodLink "WsClockPagerL2" (12 : Nat) ({ cls := "WsClockPager", name := "store", desc := "(III)I" } : Jvm.MethodName)) ∈ tables_1 := mem1 67 rfl
theorem w68 : (Jvm.Cond.declares ({ cls := "WsClockPager", name := "store", desc := "(III)I" } : Jvm.MethodName)) ∈ tables_1 := mem1 68 rfl
theorem w69 : (Jvm.Cond.instanceMethod ({ cls := "WsClockPager", name := "store", desc := "(III)I" } : Jvm.MethodName)) ∈ tables_1 := mem1 69 rfl
theorem w70 : (Jvm.Cond.selects "WsClockPager" ({ cls := "WsClockPager", name := "store", desc := "(III)I" } : Jvm.MethodName) ({ cls := "WsClockPager", name := "store", desc := "(III)I" } : Jvm.MethodName)) ∈ tables_1 := mem1 70 rfl
theorem w72 : (Jvm.Cond.methodLink "WsClockPager" (94 : Nat) ({ cls := "WsClockPager", name := "check", desc := "(II)I" } : Jvm.MethodName)) ∈ tables_1 := mem1 72 rfl
theorem w73 : (Jvm.Cond.instanceMethod ({ cls := "WsClockPager", name := "check", desc := "(II)I" } : Jvm.MethodName)) ∈ tables_1 := mem1 73 rfl
theorem w74 : (Jvm.Cond.privateMethod ({ cls := "WsClockPager", name := "check", desc := "(II)I" } : Jvm.MethodName)) ∈ tables_1 := mem1 74 rfl
theorem w76 : (Jvm.Cond.methodLink "WsClockPager" (111 : Nat) ({ cls := "WsClockPager", name := "validPid", desc := "(I)Z" } : Jvm.MethodName)) ∈ tables_1 := mem1 76 rfl
theorem w77 : (Jvm.Cond.instanceMethod ({ cls := "WsClockPager", name := "validPid", desc := "(I)Z" } : Jvm.MethodName)) ∈ tables_1 := mem1 77 rfl
theorem w78 : (Jvm.Cond.privateMethod ({ cls := "WsClockPager", name := "validPid", desc := "(I)Z" } : Jvm.MethodName)) ∈ tables_1 := mem1 78 rfl
theorem w80 : (Jvm.Cond.methodLink "WsClockPager" (100 : Nat) ({ cls := "WsClockPager", name := "ensureResident", desc := "(II)I" } : Jvm.MethodName)) ∈ tables_1 := mem1 80 rfl
theorem w81 : (Jvm.Cond.instanceMethod ({ cls := "WsClockPager", name := "ensureResident", desc := "(II)I" } : Jvm.MethodName)) ∈ tables_1 := mem1 81 rfl
theorem w82 : (Jvm.Cond.privateMethod ({ cls := "WsClockPager", name := "ensureResident", desc := "(II)I" } : Jvm.MethodName)) ∈ tables_1 := mem1 82 rfl
theorem w84 : (Jvm.Cond.methodLink "WsClockPager" (132 : Nat) ({ cls := "WsClockPager", name := "findFreeFrame", desc := "()I" } : Jvm.MethodName)) ∈ tables_1 := mem1 84 rfl
theorem w85 : (Jvm.Cond.instanceMethod ({ cls := "WsClockPager", name := "findFreeFrame", desc := "()I" } : Jvm.MethodName)) ∈ tables_1 := mem1 85 rfl
theorem w86 : (Jvm.Cond.privateMethod ({ cls := "WsClockPager", name := "findFreeFrame", desc := "()I" } : Jvm.MethodName)) ∈ tables_1 := mem1 86 rfl
theorem w88 : (Jvm.Cond.methodLink "WsClockPager" (141 : Nat) ({ cls := "WsClockPager", name := "fillFrame", desc := "(II)V" } : Jvm.MethodName)) ∈ tables_1 := mem1 88 rfl
theorem w89 : (Jvm.Cond.instanceMethod ({ cls := "WsClockPager", name := "fillFrame", desc := "(II)V" } : Jvm.MethodName)) ∈ tables_1 := mem1 89 rfl
theorem w90 : (Jvm.Cond.privateMethod ({ cls := "WsClockPager", name := "fillFrame", desc := "(II)V" } : Jvm.MethodName)) ∈ tables_1 := mem1 90 rfl
theorem w92 : (Jvm.Cond.methodLink "WsClockPager" (103 : Nat) ({ cls := "WsClockPager", name := "recordReference", desc := "(II)V" } : Jvm.MethodName)) ∈ tables_1 := mem1 92 rfl
theorem w93 : (Jvm.Cond.instanceMethod ({ cls := "WsClockPager", name := "recordReference", desc := "(II)V" } : Jvm.MethodName)) ∈ tables_1 := mem1 93 rfl
theorem w94 : (Jvm.Cond.privateMethod ({ cls := "WsClockPager", name := "recordReference", desc := "(II)V" } : Jvm.MethodName)) ∈ tables_1 := mem1 94 rfl
theorem w96 : (Jvm.Cond.methodLink "WsClockPager" (121 : Nat) ({ cls := "WsClockPager", name := "pushWindow", desc := "(II)V" } : Jvm.MethodName)) ∈ tables_1 := mem1 96 rfl
theorem w97 : (Jvm.Cond.instanceMethod ({ cls := "WsClockPager", name := "pushWindow", desc := "(II)V" } : Jvm.MethodName)) ∈ tables_1 := mem1 97 rfl
theorem w98 : (Jvm.Cond.privateMethod ({ cls := "WsClockPager", name := "pushWindow", desc := "(II)V" } : Jvm.MethodName)) ∈ tables_1 := mem1 98 rfl
theorem w100 : (Jvm.Cond.methodLink "WsClockPager" (107 : Nat) ({ cls := "WsClockPager", name := "loadControl", desc := "(I)V" } : Jvm.MethodName)) ∈ tables_1 := mem1 100 rfl
theorem w101 : (Jvm.Cond.instanceMethod ({ cls := "WsClockPager", name := "loadControl", desc := "(I)V" } : Jvm.MethodName)) ∈ tables_1 := mem1 101 rfl
theorem w102 : (Jvm.Cond.privateMethod ({ cls := "WsClockPager", name := "loadControl", desc := "(I)V" } : Jvm.MethodName)) ∈ tables_1 := mem1 102 rfl
theorem w104 : (Jvm.Cond.methodLink "WsClockPager" (124 : Nat) ({ cls := "WsClockPager", name := "activeTotal", desc := "()I" } : Jvm.MethodName)) ∈ tables_1 := mem1 104 rfl
theorem w105 : (Jvm.Cond.declares ({ cls := "WsClockPager", name := "activeTotal", desc := "()I" } : Jvm.MethodName)) ∈ tables_1 := mem1 105 rfl
theorem w106 : (Jvm.Cond.instanceMethod ({ cls := "WsClockPager", name := "activeTotal", desc := "()I" } : Jvm.MethodName)) ∈ tables_1 := mem1 106 rfl
theorem w107 : (Jvm.Cond.selects "WsClockPager" ({ cls := "WsClockPager", name := "activeTotal", desc := "()I" } : Jvm.MethodName) ({ cls := "WsClockPager", name := "activeTotal", desc := "()I" } : Jvm.MethodName)) ∈ tables_1 := mem1 107 rfl
theorem w109 : (Jvm.Cond.methodLink "WsClockPagerL2" (16 : Nat) ({ cls := "WsClockPager", name := "lastStatus", desc := "()I" } : Jvm.MethodName)) ∈ tables_1 := mem1 109 rfl
theorem w110 : (Jvm.Cond.declares ({ cls := "WsClockPager", name := "lastStatus", desc := "()I" } : Jvm.MethodName)) ∈ tables_1 := mem1 110 rfl
theorem w111 : (Jvm.Cond.instanceMethod ({ cls := "WsClockPager", name := "lastStatus", desc := "()I" } : Jvm.MethodName)) ∈ tables_1 := mem1 111 rfl
theorem w112 : (Jvm.Cond.selects "WsClockPager" ({ cls := "WsClockPager", name := "lastStatus", desc := "()I" } : Jvm.MethodName) ({ cls := "WsClockPager", name := "lastStatus", desc := "()I" } : Jvm.MethodName)) ∈ tables_1 := mem1 112 rfl
theorem w114 : (Jvm.Cond.methodLink "WsClockPagerL2" (20 : Nat) ({ cls := "WsClockPager", name := "memorySum", desc := "(I)I" } : Jvm.MethodName)) ∈ tables_1 := mem1 114 rfl
theorem w115 : (Jvm.Cond.declares ({ cls := "WsClockPager", name := "memorySum", desc := "(I)I" } : Jvm.MethodName)) ∈ tables_1 := mem1 115 rfl
theorem w116 : (Jvm.Cond.instanceMethod ({ cls := "WsClockPager", name := "memorySum", desc := "(I)I" } : Jvm.MethodName)) ∈ tables_1 := mem1 116 rfl
theorem w117 : (Jvm.Cond.selects "WsClockPager" ({ cls := "WsClockPager", name := "memorySum", desc := "(I)I" } : Jvm.MethodName) ({ cls := "WsClockPager", name := "memorySum", desc := "(I)I" } : Jvm.MethodName)) ∈ tables_1 := mem1 117 rfl
theorem w119 : (Jvm.Cond.methodLink "WsClockPager" (118 : Nat) ({ cls := "WsClockPager", name := "readWord", desc := "(II)I" } : Jvm.MethodName)) ∈ tables_1 := mem1 119 rfl
theorem w120 : (Jvm.Cond.instanceMethod ({ cls := "WsClockPager", name := "readWord", desc := "(II)I" } : Jvm.MethodName)) ∈ tables_1 := mem1 120 rfl
theorem w121 : (Jvm.Cond.privateMethod ({ cls := "WsClockPager", name := "readWord", desc := "(II)I" } : Jvm.MethodName)) ∈ tables_1 := mem1 121 rfl
theorem w123 : (Jvm.Cond.methodLink "WsClockPagerL2" (24 : Nat) ({ cls := "WsClockPager", name := "load", desc := "(II)J" } : Jvm.MethodName)) ∈ tables_1 := mem1 123 rfl
theorem w124 : (Jvm.Cond.declares ({ cls := "WsClockPager", name := "load", desc := "(II)J" } : Jvm.MethodName)) ∈ tables_1 := mem1 124 rfl
theorem w125 : (Jvm.Cond.instanceMethod ({ cls := "WsClockPager", name := "load", desc := "(II)J" } : Jvm.MethodName)) ∈ tables_1 := mem1 125 rfl
theorem w126 : (Jvm.Cond.selects "WsClockPager" ({ cls := "WsClockPager", name := "load", desc := "(II)J" } : Jvm.MethodName) ({ cls := "WsClockPager", name := "load", desc := "(II)J" } : Jvm.MethodName)) ∈ tables_1 := mem1 126 rfl
theorem w128 : (Jvm.Cond.methodLink "WsClockPagerL2" (30 : Nat) ({ cls := "WsClockPager", name := "virtualTime", desc := "(I)I" } : Jvm.MethodName)) ∈ tables_1 := mem1 128 rfl
theorem w129 : (Jvm.Cond.declares ({ cls := "WsClockPager", name := "virtualTime", desc := "(I)I" } : Jvm.MethodName)) ∈ tables_1 := mem1 129 rfl
theorem w130 : (Jvm.Cond.instanceMethod ({ cls := "WsClockPager", name := "virtualTime", desc := "(I)I" } : Jvm.MethodName)) ∈ tables_1 := mem1 130 rfl
theorem w131 : (Jvm.Cond.selects "WsClockPager" ({ cls := "WsClockPager", name := "virtualTime", desc := "(I)I" } : Jvm.MethodName) ({ cls := "WsClockPager", name := "virtualTime", desc := "(I)I" } : Jvm.MethodName)) ∈ tables_1 := mem1 131 rfl
theorem w133 : (Jvm.Cond.methodLink "WsClockPagerL2" (33 : Nat) ({ cls := "WsClockPager", name := "workingSetSize", desc := "(I)I" } : Jvm.MethodName)) ∈ tables_1 := mem1 133 rfl
theorem w134 : (Jvm.Cond.declares ({ cls := "WsClockPager", name := "workingSetSize", desc := "(I)I" } : Jvm.MethodName)) ∈ tables_1 := mem1 134 rfl
theorem w135 : (Jvm.Cond.instanceMethod ({ cls := "WsClockPager", name := "workingSetSize", desc := "(I)I" } : Jvm.MethodName)) ∈ tables_1 := mem1 135 rfl
theorem w136 : (Jvm.Cond.selects "WsClockPager" ({ cls := "WsClockPager", name := "workingSetSize", desc := "(I)I" } : Jvm.MethodName) ({ cls := "WsClockPager", name := "workingSetSize", desc := "(I)I" } : Jvm.MethodName)) ∈ tables_1 := mem1 136 rfl
theorem w138 : (Jvm.Cond.methodLink "WsClockPagerL2" (36 : Nat) ({ cls := "WsClockPager", name := "touchedPages", desc := "(I)I" } : Jvm.MethodName)) ∈ tables_1 := mem1 138 rfl
theorem w139 : (Jvm.Cond.declares ({ cls := "WsClockPager", name := "touchedPages", desc := "(I)I" } : Jvm.MethodName)) ∈ tables_1 := mem1 139 rfl
theorem w140 : (Jvm.Cond.instanceMethod ({ cls := "WsClockPager", name := "touchedPages", desc := "(I)I" } : Jvm.MethodName)) ∈ tables_1 := mem1 140 rfl
theorem w141 : (Jvm.Cond.selects "WsClockPager" ({ cls := "WsClockPager", name := "touchedPages", desc := "(I)I" } : Jvm.MethodName) ({ cls := "WsClockPager", name := "touchedPages", desc := "(I)I" } : Jvm.MethodName)) ∈ tables_1 := mem1 141 rfl
theorem w143 : (Jvm.Cond.methodLink "WsClockPagerL2" (39 : Nat) ({ cls := "WsClockPager", name := "activeTotal", desc := "()I" } : Jvm.MethodName)) ∈ tables_1 := mem1 143 rfl
theorem w144 : (Jvm.Cond.methodLink "WsClockPagerL2" (42 : Nat) ({ cls := "WsClockPager", name := "suspensions", desc := "()I" } : Jvm.MethodName)) ∈ tables_1 := mem1 144 rfl
theorem w145 : (Jvm.Cond.declares ({ cls := "WsClockPager", name := "suspensions", desc := "()I" } : Jvm.MethodName)) ∈ tables_1 := mem1 145 rfl
theorem w146 : (Jvm.Cond.instanceMethod ({ cls := "WsClockPager", name := "suspensions", desc := "()I" } : Jvm.MethodName)) ∈ tables_1 := mem1 146 rfl
theorem w147 : (Jvm.Cond.selects "WsClockPager" ({ cls := "WsClockPager", name := "suspensions", desc := "()I" } : Jvm.MethodName) ({ cls := "WsClockPager", name := "suspensions", desc := "()I" } : Jvm.MethodName)) ∈ tables_1 := mem1 147 rfl
theorem w149 : (Jvm.Cond.constantLong "WsClockPager" (98 : Nat) (-9223372036854775808 : Int64)) ∈ tables_1 := mem1 149 rfl
theorem w150 : (Jvm.Cond.constantLong "WsClockPagerL2" (28 : Nat) (-9223372036854775808 : Int64)) ∈ tables_1 := mem1 150 rfl
theorem fS_0 : K.2.1[0]? = some ("procs", "I") := rfl
theorem fS_1 : K.2.1[1]? = some ("pages", "I") := rfl
theorem fS_2 : K.2.1[2]? = some ("frames", "I") := rfl
theorem fS_3 : K.2.1[3]? = some ("tau", "I") := rfl
theorem fS_4 : K.2.1[4]? = some ("status", "I") := rfl
theorem fS_5 : K.2.1[5]? = some ("suspensionCount", "I") := rfl
theorem fS_6 : K.2.1[6]? = some ("readmissionCount", "I") := rfl
theorem fS_7 : K.2.1[7]? = some ("hand", "I") := rfl
theorem fA_0 : K.2.2[0]? = some ("suspended", .boolean, (4 : Int32)) := rfl
theorem fA_1 : K.2.2[1]? = some ("vtime", .int, (4 : Int32)) := rfl
theorem fA_2 : K.2.2[2]? = some ("winLen", .int, (4 : Int32)) := rfl
theorem fA_3 : K.2.2[3]? = some ("winHead", .int, (4 : Int32)) := rfl
theorem fA_4 : K.2.2[4]? = some ("wsSize", .int, (4 : Int32)) := rfl
theorem fA_5 : K.2.2[5]? = some ("touchedCount", .int, (4 : Int32)) := rfl
theorem fA_6 : K.2.2[6]? = some ("ring", .int, (64 : Int32)) := rfl
theorem fA_7 : K.2.2[7]? = some ("winCount", .int, (64 : Int32)) := rfl
theorem fA_8 : K.2.2[8]? = some ("touched", .boolean, (64 : Int32)) := rfl
theorem fA_9 : K.2.2[9]? = some ("pageFrame", .int, (64 : Int32)) := rfl
theorem fA_10 : K.2.2[10]? = some ("pageSlot", .int, (64 : Int32)) := rfl
theorem fA_11 : K.2.2[11]? = some ("pageLastUse", .int, (64 : Int32)) := rfl
theorem fA_12 : K.2.2[12]? = some ("frameOwner", .int, (32 : Int32)) := rfl
theorem fA_13 : K.2.2[13]? = some ("frameRef", .boolean, (32 : Int32)) := rfl
theorem fA_14 : K.2.2[14]? = some ("frameDirty", .boolean, (32 : Int32)) := rfl
theorem fA_15 : K.2.2[15]? = some ("frameWords", .int, (128 : Int32)) := rfl
theorem fA_16 : K.2.2[16]? = some ("slotUsed", .boolean, (64 : Int32)) := rfl
theorem fA_17 : K.2.2[17]? = some ("swapWords", .int, (256 : Int32)) := rfl
theorem cb_16 : (Int8.ofInt 16).toInt32 = (16 : Int32) := by decide
theorem cb_32 : (Int8.ofInt 32).toInt32 = (32 : Int32) := by decide
theorem cb_64 : (Int8.ofInt 64).toInt32 = (64 : Int32) := by decide
theorem ci_m1 : Int32.ofInt (-1) = (-1 : Int32) := by decide
theorem ci_0 : Int32.ofInt 0 = (0 : Int32) := by decide
theorem ci_1 : Int32.ofInt 1 = (1 : Int32) := by decide
theorem ci_2 : Int32.ofInt 2 = (2 : Int32) := by decide
theorem ci_3 : Int32.ofInt 3 = (3 : Int32) := by decide
theorem ci_4 : Int32.ofInt 4 = (4 : Int32) := by decide
theorem cs_128 : (Int16.ofInt 128).toInt32 = (128 : Int32) := by decide
theorem cs_256 : (Int16.ofInt 256).toInt32 = (256 : Int32) := by decide
def B2 : Bdy := ((⟨"WsClockPager", "clamp", "(III)I"⟩ : MethodName), prog_1_method_16_code, 4, (some .int), ({ frames := 0, cells := 0, slots := 0, locals := 0 } : Room))
theorem d2_0 : DAt B2 0 (.iload_n 1) 1 1 := ⟨by decide +kernel, rfl⟩
theorem d2_1 : DAt B2 1 (.iload_n 2) 1 2 := ⟨by decide +kernel, rfl⟩
theorem d2_2 : DAt B2 2 (.if_icmp .ge 5) 3 5 := ⟨by decide +kernel, rfl⟩
theorem d2_5 : DAt B2 5 (.iload_n 2) 1 6 := ⟨by decide +kernel, rfl⟩
theorem d2_6 : DAt B2 6 (.ireturn) 1 7 := ⟨by decide +kernel, rfl⟩
theorem d2_7 : DAt B2 7 (.iload_n 1) 1 8 := ⟨by decide +kernel, rfl⟩
theorem d2_8 : DAt B2 8 (.iload_n 3) 1 9 := ⟨by decide +kernel, rfl⟩
theorem d2_9 : DAt B2 9 (.if_icmp .le 5) 3 12 := ⟨by decide +kernel, rfl⟩
theorem d2_12 : DAt B2 12 (.iload_n 3) 1 13 := ⟨by decide +kernel, rfl⟩
theorem d2_13 : DAt B2 13 (.ireturn) 1 14 := ⟨by decide +kernel, rfl⟩
theorem d2_14 : DAt B2 14 (.iload_n 1) 1 15 := ⟨by decide +kernel, rfl⟩
theorem d2_15 : DAt B2 15 (.ireturn) 1 16 := ⟨by decide +kernel, rfl⟩
def B1 : Bdy := ((⟨"WsClockPager", "<init>", "(IIII)V"⟩ : MethodName), prog_1_method_1_code, 6, none, ({ frames := 1, cells := 18, slots := 952, locals := 16 } : Room))
theorem d1_0 : DAt B1 0 (.aload_n 0) 1 1 := ⟨by decide +kernel, rfl⟩
theorem d1_1 : DAt B1 1 (.invokespecial 1) 3 4 := ⟨by decide +kernel, rfl⟩
theorem d1_4 : DAt B1 4 (.aload_n 0) 1 5 := ⟨by decide +kernel, rfl⟩
theorem d1_5 : DAt B1 5 (.iconst 4) 1 6 := ⟨by decide +kernel, rfl⟩
theorem d1_6 : DAt B1 6 (.newarray .boolean) 2 8 := ⟨by decide +kernel, rfl⟩
theorem d1_8 : DAt B1 8 (.putfield 7) 3 11 := ⟨by decide +kernel, rfl⟩
theorem d1_11 : DAt B1 11 (.aload_n 0) 1 12 := ⟨by decide +kernel, rfl⟩
theorem d1_12 : DAt B1 12 (.iconst 4) 1 13 := ⟨by decide +kernel, rfl⟩
theorem d1_13 : DAt B1 13 (.newarray .int) 2 15 := ⟨by decide +kernel, rfl⟩
theorem d1_15 : DAt B1 15 (.putfield 13) 3 18 := ⟨by decide +kernel, rfl⟩
theorem d1_18 : DAt B1 18 (.aload_n 0) 1 19 := ⟨by decide +kernel, rfl⟩
theorem d1_19 : DAt B1 19 (.iconst 4) 1 20 := ⟨by decide +kernel, rfl⟩
theorem d1_20 : DAt B1 20 (.newarray .int) 2 22 := ⟨by decide +kernel, rfl⟩
theorem d1_22 : DAt B1 22 (.putfield 17) 3 25 := ⟨by decide +kernel, rfl⟩
theorem d1_25 : DAt B1 25 (.aload_n 0) 1 26 := ⟨by decide +kernel, rfl⟩
theorem d1_26 : DAt B1 26 (.iconst 4) 1 27 := ⟨by decide +kernel, rfl⟩
theorem d1_27 : DAt B1 27 (.newarray .int) 2 29 := ⟨by decide +kernel, rfl⟩
theorem d1_29 : DAt B1 29 (.putfield 20) 3 32 := ⟨by decide +kernel, rfl⟩
theorem d1_32 : DAt B1 32 (.aload_n 0) 1 33 := ⟨by decide +kernel, rfl⟩
theorem d1_33 : DAt B1 33 (.iconst 4) 1 34 := ⟨by decide +kernel, rfl⟩
theorem d1_34 : DAt B1 34 (.newarray .int) 2 36 := ⟨by decide +kernel, rfl⟩
theorem d1_36 : DAt B1 36 (.putfield 23) 3 39 := ⟨by decide +kernel, rfl⟩
theorem d1_39 : DAt B1 39 (.aload_n 0) 1 40 := ⟨by decide +kernel, rfl⟩
theorem d1_40 : DAt B1 40 (.iconst 4) 1 41 := ⟨by decide +kernel, rfl⟩
theorem d1_41 : DAt B1 41 (.newarray .int) 2 43 := ⟨by decide +kernel, rfl⟩
theorem d1_43 : DAt B1 43 (.putfield 26) 3 46 := ⟨by decide +kernel, rfl⟩
theorem d1_46 : DAt B1 46 (.aload_n 0) 1 47 := ⟨by decide +kernel, rfl⟩
theorem d1_47 : DAt B1 47 (.bipush 64) 2 49 := ⟨by decide +kernel, rfl⟩
theorem d1_49 : DAt B1 49 (.newarray .int) 2 51 := ⟨by decide +kernel, rfl⟩
theorem d1_51 : DAt B1 51 (.putfield 29) 3 54 := ⟨by decide +kernel, rfl⟩
theorem d1_54 : DAt B1 54 (.aload_n 0) 1 55 := ⟨by decide +kernel, rfl⟩
theorem d1_55 : DAt B1 55 (.bipush 64) 2 57 := ⟨by decide +kernel, rfl⟩
theorem d1_57 : DAt B1 57 (.newarray .int) 2 59 := ⟨by decide +kernel, rfl⟩
theorem d1_59 : DAt B1 59 (.putfield 32) 3 62 := ⟨by decide +kernel, rfl⟩
theorem d1_62 : DAt B1 62 (.aload_n 0) 1 63 := ⟨by decide +kernel, rfl⟩
theorem d1_63 : DAt B1 63 (.bipush 64) 2 65 := ⟨by decide +kernel, rfl⟩
theorem d1_65 : DAt B1 65 (.newarray .boolean) 2 67 := ⟨by decide +kernel, rfl⟩
theorem d1_67 : DAt B1 67 (.putfield 35) 3 70 := ⟨by decide +kernel, rfl⟩
theorem d1_70 : DAt B1 70 (.aload_n 0) 1 71 := ⟨by decide +kernel, rfl⟩
theorem d1_71 : DAt B1 71 (.bipush 64) 2 73 := ⟨by decide +kernel, rfl⟩
theorem d1_73 : DAt B1 73 (.newarray .int) 2 75 := ⟨by decide +kernel, rfl⟩
theorem d1_75 : DAt B1 75 (.putfield 38) 3 78 := ⟨by decide +kernel, rfl⟩
theorem d1_78 : DAt B1 78 (.aload_n 0) 1 79 := ⟨by decide +kernel, rfl⟩
theorem d1_79 : DAt B1 79 (.bipush 64) 2 81 := ⟨by decide +kernel, rfl⟩
theorem d1_81 : DAt B1 81 (.newarray .int) 2 83 := ⟨by decide +kernel, rfl⟩
theorem d1_83 : DAt B1 83 (.putfield 41) 3 86 := ⟨by decide +kernel, rfl⟩
theorem d1_86 : DAt B1 86 (.aload_n 0) 1 87 := ⟨by decide +kernel, rfl⟩
theorem d1_87 : DAt B1 87 (.bipush 64) 2 89 := ⟨by decide +kernel, rfl⟩
theorem d1_89 : DAt B1 89 (.newarray .int) 2 91 := ⟨by decide +kernel, rfl⟩
theorem d1_91 : DAt B1 91 (.putfield 44) 3 94 := ⟨by decide +kernel, rfl⟩
theorem d1_94 : DAt B1 94 (.aload_n 0) 1 95 := ⟨by decide +kernel, rfl⟩
theorem d1_95 : DAt B1 95 (.bipush 32) 2 97 := ⟨by decide +kernel, rfl⟩
theorem d1_97 : DAt B1 97 (.newarray .int) 2 99 := ⟨by decide +kernel, rfl⟩
theorem d1_99 : DAt B1 99 (.putfield 47) 3 102 := ⟨by decide +kernel, rfl⟩
theorem d1_102 : DAt B1 102 (.aload_n 0) 1 103 := ⟨by decide +kernel, rfl⟩
theorem d1_103 : DAt B1 103 (.bipush 32) 2 105 := ⟨by decide +kernel, rfl⟩
theorem d1_105 : DAt B1 105 (.newarray .boolean) 2 107 := ⟨by decide +kernel, rfl⟩
theorem d1_107 : DAt B1 107 (.putfield 50) 3 110 := ⟨by decide +kernel, rfl⟩
theorem d1_110 : DAt B1 110 (.aload_n 0) 1 111 := ⟨by decide +kernel, rfl⟩
theorem d1_111 : DAt B1 111 (.bipush 32) 2 113 := ⟨by decide +kernel, rfl⟩
theorem d1_113 : DAt B1 113 (.newarray .boolean) 2 115 := ⟨by decide +kernel, rfl⟩
theorem d1_115 : DAt B1 115 (.putfield 53) 3 118 := ⟨by decide +kernel, rfl⟩
theorem d1_118 : DAt B1 118 (.aload_n 0) 1 119 := ⟨by decide +kernel, rfl⟩
theorem d1_119 : DAt B1 119 (.sipush 128) 3 122 := ⟨by decide +kernel, rfl⟩
theorem d1_122 : DAt B1 122 (.newarray .int) 2 124 := ⟨by decide +kernel, rfl⟩
theorem d1_124 : DAt B1 124 (.putfield 56) 3 127 := ⟨by decide +kernel, rfl⟩
theorem d1_127 : DAt B1 127 (.aload_n 0) 1 128 := ⟨by decide +kernel, rfl⟩
theorem d1_128 : DAt B1 128 (.bipush 64) 2 130 := ⟨by decide +kernel, rfl⟩
theorem d1_130 : DAt B1 130 (.newarray .boolean) 2 132 := ⟨by decide +kernel, rfl⟩
theorem d1_132 : DAt B1 132 (.putfield 59) 3 135 := ⟨by decide +kernel, rfl⟩
theorem d1_135 : DAt B1 135 (.aload_n 0) 1 136 := ⟨by decide +kernel, rfl⟩
theorem d1_136 : DAt B1 136 (.sipush 256) 3 139 := ⟨by decide +kernel, rfl⟩
theorem d1_139 : DAt B1 139 (.newarray .int) 2 141 := ⟨by decide +kernel, rfl⟩
theorem d1_141 : DAt B1 141 (.putfield 62) 3 144 := ⟨by decide +kernel, rfl⟩
theorem d1_144 : DAt B1 144 (.aload_n 0) 1 145 := ⟨by decide +kernel, rfl⟩
theorem d1_145 : DAt B1 145 (.aload_n 0) 1 146 := ⟨by decide +kernel, rfl⟩
theorem d1_146 : DAt B1 146 (.iload_n 1) 1 147 := ⟨by decide +kernel, rfl⟩
theorem d1_147 : DAt B1 147 (.iconst 1) 1 148 := ⟨by decide +kernel, rfl⟩
theorem d1_148 : DAt B1 148 (.iconst 4) 1 149 := ⟨by decide +kernel, rfl⟩
theorem d1_149 : DAt B1 149 (.invokevirtual 65) 3 152 := ⟨by decide +kernel, rfl⟩
theorem d1_152 : DAt B1 152 (.putfield 69) 3 155 := ⟨by decide +kernel, rfl⟩
theorem d1_155 : DAt B1 155 (.aload_n 0) 1 156 := ⟨by decide +kernel, rfl⟩
theorem d1_156 : DAt B1 156 (.aload_n 0) 1 157 := ⟨by decide +kernel, rfl⟩
theorem d1_157 : DAt B1 157 (.iload_n 2) 1 158 := ⟨by decide +kernel, rfl⟩
theorem d1_158 : DAt B1 158 (.iconst 4) 1 159 := ⟨by decide +kernel, rfl⟩
theorem d1_159 : DAt B1 159 (.bipush 16) 2 161 := ⟨by decide +kernel, rfl⟩
theorem d1_161 : DAt B1 161 (.invokevirtual 65) 3 164 := ⟨by decide +kernel, rfl⟩
theorem d1_164 : DAt B1 164 (.putfield 73) 3 167 := ⟨by decide +kernel, rfl⟩
theorem d1_167 : DAt B1 167 (.aload_n 0) 1 168 := ⟨by decide +kernel, rfl⟩
theorem d1_168 : DAt B1 168 (.aload_n 0) 1 169 := ⟨by decide +kernel, rfl⟩
theorem d1_169 : DAt B1 169 (.iload_n 3) 1 170 := ⟨by decide +kernel, rfl⟩
theorem d1_170 : DAt B1 170 (.iconst 4) 1 171 := ⟨by decide +kernel, rfl⟩
theorem d1_171 : DAt B1 171 (.bipush 32) 2 173 := ⟨by decide +kernel, rfl⟩
theorem d1_173 : DAt B1 173 (.invokevirtual 65) 3 176 := ⟨by decide +kernel, rfl⟩
theorem d1_176 : DAt B1 176 (.putfield 76) 3 179 := ⟨by decide +kernel, rfl⟩
theorem d1_179 : DAt B1 179 (.aload_n 0) 1 180 := ⟨by decide +kernel, rfl⟩
theorem d1_180 : DAt B1 180 (.aload_n 0) 1 181 := ⟨by decide +kernel, rfl⟩
theorem d1_181 : DAt B1 181 (.iload 4) 2 183 := ⟨by decide +kernel, rfl⟩
theorem d1_183 : DAt B1 183 (.iconst 1) 1 184 := ⟨by decide +kernel, rfl⟩
theorem d1_184 : DAt B1 184 (.bipush 16) 2 186 := ⟨by decide +kernel, rfl⟩
theorem d1_186 : DAt B1 186 (.invokevirtual 65) 3 189 := ⟨by decide +kernel, rfl⟩
theorem d1_189 : DAt B1 189 (.putfield 79) 3 192 := ⟨by decide +kernel, rfl⟩
theorem d1_192 : DAt B1 192 (.aload_n 0) 1 193 := ⟨by decide +kernel, rfl⟩
theorem d1_193 : DAt B1 193 (.iconst 0) 1 194 := ⟨by decide +kernel, rfl⟩
theorem d1_194 : DAt B1 194 (.putfield 82) 3 197 := ⟨by decide +kernel, rfl⟩
theorem d1_197 : DAt B1 197 (.aload_n 0) 1 198 := ⟨by decide +kernel, rfl⟩
theorem d1_198 : DAt B1 198 (.iconst 0) 1 199 := ⟨by decide +kernel, rfl⟩
theorem d1_199 : DAt B1 199 (.putfield 85) 3 202 := ⟨by decide +kernel, rfl⟩
theorem d1_202 : DAt B1 202 (.aload_n 0) 1 203 := ⟨by decide +kernel, rfl⟩
theorem d1_203 : DAt B1 203 (.iconst 0) 1 204 := ⟨by decide +kernel, rfl⟩
theorem d1_204 : DAt B1 204 (.putfield 88) 3 207 := ⟨by decide +kernel, rfl⟩
theorem d1_207 : DAt B1 207 (.aload_n 0) 1 208 := ⟨by decide +kernel, rfl⟩
theorem d1_208 : DAt B1 208 (.iconst 0) 1 209 := ⟨by decide +kernel, rfl⟩
theorem d1_209 : DAt B1 209 (.putfield 91) 3 212 := ⟨by decide +kernel, rfl⟩
theorem d1_212 : DAt B1 212 (.iconst 0) 1 213 := ⟨by decide +kernel, rfl⟩
theorem d1_213 : DAt B1 213 (.istore 5) 2 215 := ⟨by decide +kernel, rfl⟩
theorem d1_215 : DAt B1 215 (.iload 5) 2 217 := ⟨by decide +kernel, rfl⟩
theorem d1_217 : DAt B1 217 (.bipush 64) 2 219 := ⟨by decide +kernel, rfl⟩
theorem d1_219 : DAt B1 219 (.if_icmp .ge 25) 3 222 := ⟨by decide +kernel, rfl⟩
theorem d1_222 : DAt B1 222 (.aload_n 0) 1 223 := ⟨by decide +kernel, rfl⟩
theorem d1_223 : DAt B1 223 (.getfield 38) 3 226 := ⟨by decide +kernel, rfl⟩
theorem d1_226 : DAt B1 226 (.iload 5) 2 228 := ⟨by decide +kernel, rfl⟩
theorem d1_228 : DAt B1 228 (.iconst (-1)) 1 229 := ⟨by decide +kernel, rfl⟩
theorem d1_229 : DAt B1 229 (.iastore) 1 230 := ⟨by decide +kernel, rfl⟩
theorem d1_230 : DAt B1 230 (.aload_n 0) 1 231 := ⟨by decide +kernel, rfl⟩
theorem d1_231 : DAt B1 231 (.getfield 41) 3 234 := ⟨by decide +kernel, rfl⟩
theorem d1_234 : DAt B1 234 (.iload 5) 2 236 := ⟨by decide +kernel, rfl⟩
theorem d1_236 : DAt B1 236 (.iconst (-1)) 1 237 := ⟨by decide +kernel, rfl⟩
theorem d1_237 : DAt B1 237 (.iastore) 1 238 := ⟨by decide +kernel, rfl⟩
theorem d1_238 : DAt B1 238 (.iinc 5 1) 3 241 := ⟨by decide +kernel, rfl⟩
theorem d1_241 : DAt B1 241 (.goto (-26)) 3 244 := ⟨by decide +kernel, rfl⟩
theorem d1_244 : DAt B1 244 (.iconst 0) 1 245 := ⟨by decide +kernel, rfl⟩
theorem d1_245 : DAt B1 245 (.istore 5) 2 247 := ⟨by decide +kernel, rfl⟩
theorem d1_247 : DAt B1 247 (.iload 5) 2 249 := ⟨by decide +kernel, rfl⟩
theorem d1_249 : DAt B1 249 (.bipush 32) 2 251 := ⟨by decide +kernel, rfl⟩
theorem d1_251 : DAt B1 251 (.if_icmp .ge 17) 3 254 := ⟨by decide +kernel, rfl⟩
theorem d1_254 : DAt B1 254 (.aload_n 0) 1 255 := ⟨by decide +kernel, rfl⟩
theorem d1_255 : DAt B1 255 (.getfield 47) 3 258 := ⟨by decide +kernel, rfl⟩
theorem d1_258 : DAt B1 258 (.iload 5) 2 260 := ⟨by decide +kernel, rfl⟩
theorem d1_260 : DAt B1 260 (.iconst (-1)) 1 261 := ⟨by decide +kernel, rfl⟩
theorem d1_261 : DAt B1 261 (.iastore) 1 262 := ⟨by decide +kernel, rfl⟩
theorem d1_262 : DAt B1 262 (.iinc 5 1) 3 265 := ⟨by decide +kernel, rfl⟩
theorem d1_265 : DAt B1 265 (.goto (-18)) 3 268 := ⟨by decide +kernel, rfl⟩
theorem d1_268 : DAt B1 268 (.return_) 1 269 := ⟨by decide +kernel, rfl⟩
def B5 : Bdy := ((⟨"WsClockPager", "validPid", "(I)Z"⟩ : MethodName), prog_1_method_17_code, 2, (some .boolean), ({ frames := 0, cells := 0, slots := 0, locals := 0 } : Room))
theorem d5_0 : DAt B5 0 (.iload_n 1) 1 1 := ⟨by decide +kernel, rfl⟩
theorem d5_1 : DAt B5 1 (.ifCond .lt 15) 3 4 := ⟨by decide +kernel, rfl⟩
theorem d5_4 : DAt B5 4 (.iload_n 1) 1 5 := ⟨by decide +kernel, rfl⟩
theorem d5_5 : DAt B5 5 (.aload_n 0) 1 6 := ⟨by decide +kernel, rfl⟩
theorem d5_6 : DAt B5 6 (.getfield 69) 3 9 := ⟨by decide +kernel, rfl⟩
theorem d5_9 : DAt B5 9 (.if_icmp .ge 7) 3 12 := ⟨by decide +kernel, rfl⟩
theorem d5_12 : DAt B5 12 (.iconst 1) 1 13 := ⟨by decide +kernel, rfl⟩
theorem d5_13 : DAt B5 13 (.goto 4) 3 16 := ⟨by decide +kernel, rfl⟩
theorem d5_16 : DAt B5 16 (.iconst 0) 1 17 := ⟨by decide +kernel, rfl⟩
theorem d5_17 : DAt B5 17 (.ireturn) 1 18 := ⟨by decide +kernel, rfl⟩
def B4 : Bdy := ((⟨"WsClockPager", "check", "(II)I"⟩ : MethodName), prog_1_method_18_code, 3, (some .int), ({ frames := 1, cells := 0, slots := 0, locals := 13 } : Room))
theorem d4_0 : DAt B4 0 (.aload_n 0) 1 1 := ⟨by decide +kernel, rfl⟩
theorem d4_1 : DAt B4 1 (.iload_n 1) 1 2 := ⟨by decide +kernel, rfl⟩
theorem d4_2 : DAt B4 2 (.invokevirtual 111) 3 5 := ⟨by decide +kernel, rfl⟩
theorem d4_5 : DAt B4 5 (.ifCond .ne 5) 3 8 := ⟨by decide +kernel, rfl⟩
theorem d4_8 : DAt B4 8 (.iconst 1) 1 9 := ⟨by decide +kernel, rfl⟩
theorem d4_9 : DAt B4 9 (.ireturn) 1 10 := ⟨by decide +kernel, rfl⟩
theorem d4_10 : DAt B4 10 (.iload_n 2) 1 11 := ⟨by decide +kernel, rfl⟩
theorem d4_11 : DAt B4 11 (.ifCond .lt 13) 3 14 := ⟨by decide +kernel, rfl⟩
theorem d4_14 : DAt B4 14 (.iload_n 2) 1 15 := ⟨by decide +kernel, rfl⟩
theorem d4_15 : DAt B4 15 (.aload_n 0) 1 16 := ⟨by decide +kernel, rfl⟩
theorem d4_16 : DAt B4 16 (.getfield 73) 3 19 := ⟨by decide +kernel, rfl⟩
theorem d4_19 : DAt B4 19 (.iconst 4) 1 20 := ⟨by decide +kernel, rfl⟩
theorem d4_20 : DAt B4 20 (.imul) 1 21 := ⟨by decide +kernel, rfl⟩
theorem d4_21 : DAt B4 21 (.if_icmp .lt 5) 3 24 := ⟨by decide +kernel, rfl⟩
theorem d4_24 : DAt B4 24 (.iconst 2) 1 25 := ⟨by decide +kernel, rfl⟩
theorem d4_25 : DAt B4 25 (.ireturn) 1 26 := ⟨by decide +kernel, rfl⟩
theorem d4_26 : DAt B4 26 (.aload_n 0) 1 27 := ⟨by decide +kernel, rfl⟩
theorem d4_27 : DAt B4 27 (.getfield 7) 3 30 := ⟨by decide +kernel, rfl⟩
theorem d4_30 : DAt B4 30 (.iload_n 1) 1 31 := ⟨by decide +kernel, rfl⟩
theorem d4_31 : DAt B4 31 (.baload) 1 32 := ⟨by decide +kernel, rfl⟩
theorem d4_32 : DAt B4 32 (.ifCond .eq 5) 3 35 := ⟨by decide +kernel, rfl⟩
theorem d4_35 : DAt B4 35 (.iconst 3) 1 36 := ⟨by decide +kernel, rfl⟩
theorem d4_36 : DAt B4 36 (.ireturn) 1 37 := ⟨by decide +kernel, rfl⟩
theorem d4_37 : DAt B4 37 (.iconst 0) 1 38 := ⟨by decide +kernel, rfl⟩
theorem d4_38 : DAt B4 38 (.ireturn) 1 39 := ⟨by decide +kernel, rfl⟩
def B7 : Bdy := ((⟨"WsClockPager", "findFreeFrame", "()I"⟩ : MethodName), prog_1_method_26_code, 2, (some .int), ({ frames := 0, cells := 0, slots := 0, locals := 0 } : Room))
theorem d7_0 : DAt B7 0 (.iconst 0) 1 1 := ⟨by decide +kernel, rfl⟩
theorem d7_1 : DAt B7 1 (.istore_n 1) 1 2 := ⟨by decide +kernel, rfl⟩
theorem d7_2 : DAt B7 2 (.iload_n 1) 1 3 := ⟨by decide +kernel, rfl⟩
theorem d7_3 : DAt B7 3 (.aload_n 0) 1 4 := ⟨by decide +kernel, rfl⟩
theorem d7_4 : DAt B7 4 (.getfield 76) 3 7 := ⟨by decide +kernel, rfl⟩
theorem d7_7 : DAt B7 7 (.if_icmp .ge 20) 3 10 := ⟨by decide +kernel, rfl⟩
theorem d7_10 : DAt B7 10 (.aload_n 0) 1 11 := ⟨by decide +kernel, rfl⟩
theorem d7_11 : DAt B7 11 (.getfield 47) 3 14 := ⟨by decide +kernel, rfl⟩
theorem d7_14 : DAt B7 14 (.iload_n 1) 1 15 := ⟨by decide +kernel, rfl⟩
theorem d7_15 : DAt B7 15 (.iaload) 1 16 := ⟨by decide +kernel, rfl⟩
theorem d7_16 : DAt B7 16 (.ifCond .ge 5) 3 19 := ⟨by decide +kernel, rfl⟩
theorem d7_19 : DAt B7 19 (.iload_n 1) 1 20 := ⟨by decide +kernel, rfl⟩
theorem d7_20 : DAt B7 20 (.ireturn) 1 21 := ⟨by decide +kernel, rfl⟩
theorem d7_21 : DAt B7 21 (.iinc 1 1) 3 24 := ⟨by decide +kernel, rfl⟩
theorem d7_24 : DAt B7 24 (.goto (-22)) 3 27 := ⟨by decide +kernel, rfl⟩
theorem d7_27 : DAt B7 27 (.iconst (-1)) 1 28 := ⟨by decide +kernel, rfl⟩
theorem d7_28 : DAt B7 28 (.ireturn) 1 29 := ⟨by decide +kernel, rfl⟩
def B8 : Bdy := ((⟨"WsClockPager", "fillFrame", "(II)V"⟩ : MethodName), prog_1_method_27_code, 6, none, ({ frames := 0, cells := 0, slots := 0, locals := 0 } : Room))
theorem d8_0 : DAt B8 0 (.aload_n 0) 1 1 := ⟨by decide +kernel, rfl⟩
theorem d8_1 : DAt B8 1 (.getfield 41) 3 4 := ⟨by decide +kernel, rfl⟩
theorem d8_4 : DAt B8 4 (.iload_n 2) 1 5 := ⟨by decide +kernel, rfl⟩
theorem d8_5 : DAt B8 5 (.iaload) 1 6 := ⟨by decide +kernel, rfl⟩
theorem d8_6 : DAt B8 6 (.istore_n 3) 1 7 := ⟨by decide +kernel, rfl⟩
theorem d8_7 : DAt B8 7 (.iload_n 1) 1 8 := ⟨by decide +kernel, rfl⟩
theorem d8_8 : DAt B8 8 (.iconst 4) 1 9 := ⟨by decide +kernel, rfl⟩
theorem d8_9 : DAt B8 9 (.imul) 1 10 := ⟨by decide +kernel, rfl⟩
theorem d8_10 : DAt B8 10 (.istore 4) 2 12 := ⟨by decide +kernel, rfl⟩
theorem d8_12 : DAt B8 12 (.iconst 0) 1 13 := ⟨by decide +kernel, rfl⟩
theorem d8_13 : DAt B8 13 (.istore 5) 2 15 := ⟨by decide +kernel, rfl⟩
theorem d8_15 : DAt B8 15 (.iload 5) 2 17 := ⟨by decide +kernel, rfl⟩
theorem d8_17 : DAt B8 17 (.iconst 4) 1 18 := ⟨by decide +kernel, rfl⟩
theorem d8_18 : DAt B8 18 (.if_icmp .ge 48) 3 21 := ⟨by decide +kernel, rfl⟩
theorem d8_21 : DAt B8 21 (.iload_n 3) 1 22 := ⟨by decide +kernel, rfl⟩
theorem d8_22 : DAt B8 22 (.ifCond .lt 27) 3 25 := ⟨by decide +kernel, rfl⟩
theorem d8_25 : DAt B8 25 (.aload_n 0) 1 26 := ⟨by decide +kernel, rfl⟩
theorem d8_26 : DAt B8 26 (.getfield 56) 3 29 := ⟨by decide +kernel, rfl⟩
theorem d8_29 : DAt B8 29 (.iload 4) 2 31 := ⟨by decide +kernel, rfl⟩
theorem d8_31 : DAt B8 31 (.iload 5) 2 33 := ⟨by decide +kernel, rfl⟩
theorem d8_33 : DAt B8 33 (.iadd) 1 34 := ⟨by decide +kernel, rfl⟩
theorem d8_34 : DAt B8 34 (.aload_n 0) 1 35 := ⟨by decide +kernel, rfl⟩
theorem d8_35 : DAt B8 35 (.getfield 62) 3 38 := ⟨by decide +kernel, rfl⟩
theorem d8_38 : DAt B8 38 (.iload_n 3) 1 39 := ⟨by decide +kernel, rfl⟩
theorem d8_39 : DAt B8 39 (.iconst 4) 1 40 := ⟨by decide +kernel, rfl⟩
theorem d8_40 : DAt B8 40 (.imul) 1 41 := ⟨by decide +kernel, rfl⟩
theorem d8_41 : DAt B8 41 (.iload 5) 2 43 := ⟨by decide +kernel, rfl⟩
theorem d8_43 : DAt B8 43 (.iadd) 1 44 := ⟨by decide +kernel, rfl⟩
theorem d8_44 : DAt B8 44 (.iaload) 1 45 := ⟨by decide +kernel, rfl⟩
theorem d8_45 : DAt B8 45 (.iastore) 1 46 := ⟨by decide +kernel, rfl⟩
theorem d8_46 : DAt B8 46 (.goto 14) 3 49 := ⟨by decide +kernel, rfl⟩
theorem d8_49 : DAt B8 49 (.aload_n 0) 1 50 := ⟨by decide +kernel, rfl⟩
theorem d8_50 : DAt B8 50 (.getfield 56) 3 53 := ⟨by decide +kernel, rfl⟩
theorem d8_53 : DAt B8 53 (.iload 4) 2 55 := ⟨by decide +kernel, rfl⟩
theorem d8_55 : DAt B8 55 (.iload 5) 2 57 := ⟨by decide +kernel, rfl⟩
theorem d8_57 : DAt B8 57 (.iadd) 1 58 := ⟨by decide +kernel, rfl⟩
theorem d8_58 : DAt B8 58 (.iconst 0) 1 59 := ⟨by decide +kernel, rfl⟩
theorem d8_59 : DAt B8 59 (.iastore) 1 60 := ⟨by decide +kernel, rfl⟩
theorem d8_60 : DAt B8 60 (.iinc 5 1) 3 63 := ⟨by decide +kernel, rfl⟩
theorem d8_63 : DAt B8 63 (.goto (-48)) 3 66 := ⟨by decide +kernel, rfl⟩
theorem d8_66 : DAt B8 66 (.aload_n 0) 1 67 := ⟨by decide +kernel, rfl⟩
theorem d8_67 : DAt B8 67 (.getfield 47) 3 70 := ⟨by decide +kernel, rfl⟩
theorem d8_70 : DAt B8 70 (.iload_n 1) 1 71 := ⟨by decide +kernel, rfl⟩
theorem d8_71 : DAt B8 71 (.iload_n 2) 1 72 := ⟨by decide +kernel, rfl⟩
theorem d8_72 : DAt B8 72 (.iastore) 1 73 := ⟨by decide +kernel, rfl⟩
theorem d8_73 : DAt B8 73 (.aload_n 0) 1 74 := ⟨by decide +kernel, rfl⟩
theorem d8_74 : DAt B8 74 (.getfield 50) 3 77 := ⟨by decide +kernel, rfl⟩
theorem d8_77 : DAt B8 77 (.iload_n 1) 1 78 := ⟨by decide +kernel, rfl⟩
theorem d8_78 : DAt B8 78 (.iconst 0) 1 79 := ⟨by decide +kernel, rfl⟩
theorem d8_79 : DAt B8 79 (.bastore) 1 80 := ⟨by decide +kernel, rfl⟩
theorem d8_80 : DAt B8 80 (.aload_n 0) 1 81 := ⟨by decide +kernel, rfl⟩
theorem d8_81 : DAt B8 81 (.getfield 53) 3 84 := ⟨by decide +kernel, rfl⟩
theorem d8_84 : DAt B8 84 (.iload_n 1) 1 85 := ⟨by decide +kernel, rfl⟩
theorem d8_85 : DAt B8 85 (.iconst 0) 1 86 := ⟨by decide +kernel, rfl⟩
theorem d8_86 : DAt B8 86 (.bastore) 1 87 := ⟨by decide +kernel, rfl⟩
theorem d8_87 : DAt B8 87 (.aload_n 0) 1 88 := ⟨by decide +kernel, rfl⟩
theorem d8_88 : DAt B8 88 (.getfield 38) 3 91 := ⟨by decide +kernel, rfl⟩
theorem d8_91 : DAt B8 91 (.iload_n 2) 1 92 := ⟨by decide +kernel, rfl⟩
theorem d8_92 : DAt B8 92 (.iload_n 1) 1 93 := ⟨by decide +kernel, rfl⟩
theorem d8_93 : DAt B8 93 (.iastore) 1 94 := ⟨by decide +kernel, rfl⟩
theorem d8_94 : DAt B8 94 (.aload_n 0) 1 95 := ⟨by decide +kernel, rfl⟩
theorem d8_95 : DAt B8 95 (.getfield 44) 3 98 := ⟨by decide +kernel, rfl⟩
theorem d8_98 : DAt B8 98 (.iload_n 2) 1 99 := ⟨by decide +kernel, rfl⟩
theorem d8_99 : DAt B8 99 (.aload_n 0) 1 100 := ⟨by decide +kernel, rfl⟩
theorem d8_100 : DAt B8 100 (.getfield 13) 3 103 := ⟨by decide +kernel, rfl⟩
theorem d8_103 : DAt B8 103 (.iload_n 2) 1 104 := ⟨by decide +kernel, rfl⟩
theorem d8_104 : DAt B8 104 (.bipush 16) 2 106 := ⟨by decide +kernel, rfl⟩
theorem d8_106 : DAt B8 106 (.idiv) 1 107 := ⟨by decide +kernel, rfl⟩
theorem d8_107 : DAt B8 107 (.iaload) 1 108 := ⟨by decide +kernel, rfl⟩
theorem d8_108 : DAt B8 108 (.iastore) 1 109 := ⟨by decide +kernel, rfl⟩
theorem d8_109 : DAt B8 109 (.return_) 1 110 := ⟨by decide +kernel, rfl⟩
def B6 : Bdy := ((⟨"WsClockPager", "ensureResident", "(II)I"⟩ : MethodName), prog_1_method_25_code, 5, (some .int), ({ frames := 1, cells := 0, slots := 0, locals := 17 } : Room))
theorem d6_0 : DAt B6 0 (.iload_n 1) 1 1 := ⟨by decide +kernel, rfl⟩
theorem d6_1 : DAt B6 1 (.bipush 16) 2 3 := ⟨by decide +kernel, rfl⟩
theorem d6_3 : DAt B6 3 (.imul) 1 4 := ⟨by decide +kernel, rfl⟩
theorem d6_4 : DAt B6 4 (.iload_n 2) 1 5 := ⟨by decide +kernel, rfl⟩
theorem d6_5 : DAt B6 5 (.iadd) 1 6 := ⟨by decide +kernel, rfl⟩
theorem d6_6 : DAt B6 6 (.istore_n 3) 1 7 := ⟨by decide +kernel, rfl⟩
theorem d6_7 : DAt B6 7 (.aload_n 0) 1 8 := ⟨by decide +kernel, rfl⟩
theorem d6_8 : DAt B6 8 (.getfield 38) 3 11 := ⟨by decide +kernel, rfl⟩
theorem d6_11 : DAt B6 11 (.iload_n 3) 1 12 := ⟨by decide +kernel, rfl⟩
theorem d6_12 : DAt B6 12 (.iaload) 1 13 := ⟨by decide +kernel, rfl⟩
theorem d6_13 : DAt B6 13 (.istore 4) 2 15 := ⟨by decide +kernel, rfl⟩
theorem d6_15 : DAt B6 15 (.iload 4) 2 17 := ⟨by decide +kernel, rfl⟩
theorem d6_17 : DAt B6 17 (.ifCond .lt 6) 3 20 := ⟨by decide +kernel, rfl⟩
theorem d6_20 : DAt B6 20 (.iload 4) 2 22 := ⟨by decide +kernel, rfl⟩
theorem d6_22 : DAt B6 22 (.ireturn) 1 23 := ⟨by decide +kernel, rfl⟩
theorem d6_23 : DAt B6 23 (.aload_n 0) 1 24 := ⟨by decide +kernel, rfl⟩
theorem d6_24 : DAt B6 24 (.invokevirtual 132) 3 27 := ⟨by decide +kernel, rfl⟩
theorem d6_27 : DAt B6 27 (.istore 4) 2 29 := ⟨by decide +kernel, rfl⟩
theorem d6_29 : DAt B6 29 (.iload 4) 2 31 := ⟨by decide +kernel, rfl⟩
theorem d6_31 : DAt B6 31 (.ifCond .ge 15) 3 34 := ⟨by decide +kernel, rfl⟩
theorem d6_34 : DAt B6 34 (.aload_n 0) 1 35 := ⟨by decide +kernel, rfl⟩
theorem d6_46 : DAt B6 46 (.aload_n 0) 1 47 := ⟨by decide +kernel, rfl⟩
theorem d6_47 : DAt B6 47 (.iload 4) 2 49 := ⟨by decide +kernel, rfl⟩
theorem d6_49 : DAt B6 49 (.iload_n 3) 1 50 := ⟨by decide +kernel, rfl⟩
theorem d6_50 : DAt B6 50 (.invokevirtual 141) 3 53 := ⟨by decide +kernel, rfl⟩
theorem d6_53 : DAt B6 53 (.iload 4) 2 55 := ⟨by decide +kernel, rfl⟩
theorem d6_55 : DAt B6 55 (.ireturn) 1 56 := ⟨by decide +kernel, rfl⟩
def B10 : Bdy := ((⟨"WsClockPager", "pushWindow", "(II)V"⟩ : MethodName), prog_1_method_22_code, 6, none, ({ frames := 0, cells := 0, slots := 0, locals := 0 } : Room))
theorem d10_0 : DAt B10 0 (.iload_n 1) 1 1 := ⟨by decide +kernel, rfl⟩
theorem d10_1 : DAt B10 1 (.bipush 16) 2 3 := ⟨by decide +kernel, rfl⟩
theorem d10_3 : DAt B10 3 (.imul) 1 4 := ⟨by decide +kernel, rfl⟩
theorem d10_4 : DAt B10 4 (.istore_n 3) 1 5 := ⟨by decide +kernel, rfl⟩
theorem d10_5 : DAt B10 5 (.aload_n 0) 1 6 := ⟨by decide +kernel, rfl⟩
theorem d10_6 : DAt B10 6 (.getfield 20) 3 9 := ⟨by decide +kernel, rfl⟩
theorem d10_9 : DAt B10 9 (.iload_n 1) 1 10 := ⟨by decide +kernel, rfl⟩
theorem d10_10 : DAt B10 10 (.iaload) 1 11 := ⟨by decide +kernel, rfl⟩
theorem d10_11 : DAt B10 11 (.istore 4) 2 13 := ⟨by decide +kernel, rfl⟩
theorem d10_13 : DAt B10 13 (.aload_n 0) 1 14 := ⟨by decide +kernel, rfl⟩
theorem d10_14 : DAt B10 14 (.getfield 17) 3 17 := ⟨by decide +kernel, rfl⟩
theorem d10_17 : DAt B10 17 (.iload_n 1) 1 18 := ⟨by decide +kernel, rfl⟩
theorem d10_18 : DAt B10 18 (.iaload) 1 19 := ⟨by decide +kernel, rfl⟩
theorem d10_19 : DAt B10 19 (.aload_n 0) 1 20 := ⟨by decide +kernel, rfl⟩
theorem d10_20 : DAt B10 20 (.getfield 79) 3 23 := ⟨by decide +kernel, rfl⟩
theorem d10_23 : DAt B10 23 (.if_icmp .lt 63) 3 26 := ⟨by decide +kernel, rfl⟩
theorem d10_26 : DAt B10 26 (.aload_n 0) 1 27 := ⟨by decide +kernel, rfl⟩
theorem d10_27 : DAt B10 27 (.getfield 29) 3 30 := ⟨by decide +kernel, rfl⟩
theorem d10_30 : DAt B10 30 (.iload_n 3) 1 31 := ⟨by decide +kernel, rfl⟩
theorem d10_31 : DAt B10 31 (.iload 4) 2 33 := ⟨by decide +kernel, rfl⟩
theorem d10_33 : DAt B10 33 (.iadd) 1 34 := ⟨by decide +kernel, rfl⟩
theorem d10_34 : DAt B10 34 (.iaload) 1 35 := ⟨by decide +kernel, rfl⟩
theorem d10_35 : DAt B10 35 (.istore 5) 2 37 := ⟨by decide +kernel, rfl⟩
theorem d10_37 : DAt B10 37 (.aload_n 0) 1 38 := ⟨by decide +kernel, rfl⟩
theorem d10_38 : DAt B10 38 (.getfield 32) 3 41 := ⟨by decide +kernel, rfl⟩
theorem d10_41 : DAt B10 41 (.iload_n 3) 1 42 := ⟨by decide +kernel, rfl⟩
theorem d10_42 : DAt B10 42 (.iload 5) 2 44 := ⟨by decide +kernel, rfl⟩
theorem d10_44 : DAt B10 44 (.iadd) 1 45 := ⟨by decide +kernel, rfl⟩
theorem d10_45 : DAt B10 45 (.aload_n 0) 1 46 := ⟨by decide +kernel, rfl⟩
theorem d10_46 : DAt B10 46 (.getfield 32) 3 49 := ⟨by decide +kernel, rfl⟩
theorem d10_49 : DAt B10 49 (.iload_n 3) 1 50 := ⟨by decide +kernel, rfl⟩
theorem d10_50 : DAt B10 50 (.iload 5) 2 52 := ⟨by decide +kernel, rfl⟩
theorem d10_52 : DAt B10 52 (.iadd) 1 53 := ⟨by decide +kernel, rfl⟩
theorem d10_53 : DAt B10 53 (.iaload) 1 54 := ⟨by decide +kernel, rfl⟩
theorem d10_54 : DAt B10 54 (.iconst 1) 1 55 := ⟨by decide +kernel, rfl⟩
theorem d10_55 : DAt B10 55 (.isub) 1 56 := ⟨by decide +kernel, rfl⟩
theorem d10_56 : DAt B10 56 (.iastore) 1 57 := ⟨by decide +kernel, rfl⟩
theorem d10_57 : DAt B10 57 (.aload_n 0) 1 58 := ⟨by decide +kernel, rfl⟩
theorem d10_58 : DAt B10 58 (.getfield 32) 3 61 := ⟨by decide +kernel, rfl⟩
theorem d10_61 : DAt B10 61 (.iload_n 3) 1 62 := ⟨by decide +kernel, rfl⟩
theorem d10_62 : DAt B10 62 (.iload 5) 2 64 := ⟨by decide +kernel, rfl⟩
theorem d10_64 : DAt B10 64 (.iadd) 1 65 := ⟨by decide +kernel, rfl⟩
theorem d10_65 : DAt B10 65 (.iaload) 1 66 := ⟨by decide +kernel, rfl⟩
theorem d10_66 : DAt B10 66 (.ifCond .ne 17) 3 69 := ⟨by decide +kernel, rfl⟩
theorem d10_69 : DAt B10 69 (.aload_n 0) 1 70 := ⟨by decide +kernel, rfl⟩
theorem d10_70 : DAt B10 70 (.getfield 23) 3 73 := ⟨by decide +kernel, rfl⟩
theorem d10_73 : DAt B10 73 (.iload_n 1) 1 74 := ⟨by decide +kernel, rfl⟩
theorem d10_74 : DAt B10 74 (.aload_n 0) 1 75 := ⟨by decide +kernel, rfl⟩
theorem d10_75 : DAt B10 75 (.getfield 23) 3 78 := ⟨by decide +kernel, rfl⟩
theorem d10_78 : DAt B10 78 (.iload_n 1) 1 79 := ⟨by decide +kernel, rfl⟩
theorem d10_79 : DAt B10 79 (.iaload) 1 80 := ⟨by decide +kernel, rfl⟩
theorem d10_80 : DAt B10 80 (.iconst 1) 1 81 := ⟨by decide +kernel, rfl⟩
theorem d10_81 : DAt B10 81 (.isub) 1 82 := ⟨by decide +kernel, rfl⟩
theorem d10_82 : DAt B10 82 (.iastore) 1 83 := ⟨by decide +kernel, rfl⟩
theorem d10_83 : DAt B10 83 (.goto 17) 3 86 := ⟨by decide +kernel, rfl⟩
theorem d10_86 : DAt B10 86 (.aload_n 0) 1 87 := ⟨by decide +kernel, rfl⟩
theorem d10_87 : DAt B10 87 (.getfield 17) 3 90 := ⟨by decide +kernel, rfl⟩
theorem d10_90 : DAt B10 90 (.iload_n 1) 1 91 := ⟨by decide +kernel, rfl⟩
theorem d10_91 : DAt B10 91 (.aload_n 0) 1 92 := ⟨by decide +kernel, rfl⟩
theorem d10_92 : DAt B10 92 (.getfield 17) 3 95 := ⟨by decide +kernel, rfl⟩
theorem d10_95 : DAt B10 95 (.iload_n 1) 1 96 := ⟨by decide +kernel, rfl⟩
theorem d10_96 : DAt B10 96 (.iaload) 1 97 := ⟨by decide +kernel, rfl⟩
theorem d10_97 : DAt B10 97 (.iconst 1) 1 98 := ⟨by decide +kernel, rfl⟩
theorem d10_98 : DAt B10 98 (.iadd) 1 99 := ⟨by decide +kernel, rfl⟩
theorem d10_99 : DAt B10 99 (.iastore) 1 100 := ⟨by decide +kernel, rfl⟩
theorem d10_100 : DAt B10 100 (.aload_n 0) 1 101 := ⟨by decide +kernel, rfl⟩
theorem d10_101 : DAt B10 101 (.getfield 29) 3 104 := ⟨by decide +kernel, rfl⟩
theorem d10_104 : DAt B10 104 (.iload_n 3) 1 105 := ⟨by decide +kernel, rfl⟩
theorem d10_105 : DAt B10 105 (.iload 4) 2 107 := ⟨by decide +kernel, rfl⟩
theorem d10_107 : DAt B10 107 (.iadd) 1 108 := ⟨by decide +kernel, rfl⟩
theorem d10_108 : DAt B10 108 (.iload_n 2) 1 109 := ⟨by decide +kernel, rfl⟩
theorem d10_109 : DAt B10 109 (.iastore) 1 110 := ⟨by decide +kernel, rfl⟩
theorem d10_110 : DAt B10 110 (.aload_n 0) 1 111 := ⟨by decide +kernel, rfl⟩
theorem d10_111 : DAt B10 111 (.getfield 32) 3 114 := ⟨by decide +kernel, rfl⟩
theorem d10_114 : DAt B10 114 (.iload_n 3) 1 115 := ⟨by decide +kernel, rfl⟩
theorem d10_115 : DAt B10 115 (.iload_n 2) 1 116 := ⟨by decide +kernel, rfl⟩
theorem d10_116 : DAt B10 116 (.iadd) 1 117 := ⟨by decide +kernel, rfl⟩
theorem d10_117 : DAt B10 117 (.iaload) 1 118 := ⟨by decide +kernel, rfl⟩
theorem d10_118 : DAt B10 118 (.ifCond .ne 17) 3 121 := ⟨by decide +kernel, rfl⟩
theorem d10_121 : DAt B10 121 (.aload_n 0) 1 122 := ⟨by decide +kernel, rfl⟩
theorem d10_122 : DAt B10 122 (.getfield 23) 3 125 := ⟨by decide +kernel, rfl⟩
theorem d10_125 : DAt B10 125 (.iload_n 1) 1 126 := ⟨by decide +kernel, rfl⟩
theorem d10_126 : DAt B10 126 (.aload_n 0) 1 127 := ⟨by decide +kernel, rfl⟩
theorem d10_127 : DAt B10 127 (.getfield 23) 3 130 := ⟨by decide +kernel, rfl⟩
theorem d10_130 : DAt B10 130 (.iload_n 1) 1 131 := ⟨by decide +kernel, rfl⟩
theorem d10_131 : DAt B10 131 (.iaload) 1 132 := ⟨by decide +kernel, rfl⟩
theorem d10_132 : DAt B10 132 (.iconst 1) 1 133 := ⟨by decide +kernel, rfl⟩
theorem d10_133 : DAt B10 133 (.iadd) 1 134 := ⟨by decide +kernel, rfl⟩
theorem d10_134 : DAt B10 134 (.iastore) 1 135 := ⟨by decide +kernel, rfl⟩
theorem d10_135 : DAt B10 135 (.aload_n 0) 1 136 := ⟨by decide +kernel, rfl⟩
theorem d10_136 : DAt B10 136 (.getfield 32) 3 139 := ⟨by decide +kernel, rfl⟩
theorem d10_139 : DAt B10 139 (.iload_n 3) 1 140 := ⟨by decide +kernel, rfl⟩
theorem d10_140 : DAt B10 140 (.iload_n 2) 1 141 := ⟨by decide +kernel, rfl⟩
theorem d10_141 : DAt B10 141 (.iadd) 1 142 := ⟨by decide +kernel, rfl⟩
theorem d10_142 : DAt B10 142 (.aload_n 0) 1 143 := ⟨by decide +kernel, rfl⟩
theorem d10_143 : DAt B10 143 (.getfield 32) 3 146 := ⟨by decide +kernel, rfl⟩
theorem d10_146 : DAt B10 146 (.iload_n 3) 1 147 := ⟨by decide +kernel, rfl⟩
theorem d10_147 : DAt B10 147 (.iload_n 2) 1 148 := ⟨by decide +kernel, rfl⟩
theorem d10_148 : DAt B10 148 (.iadd) 1 149 := ⟨by decide +kernel, rfl⟩
theorem d10_149 : DAt B10 149 (.iaload) 1 150 := ⟨by decide +kernel, rfl⟩
theorem d10_150 : DAt B10 150 (.iconst 1) 1 151 := ⟨by decide +kernel, rfl⟩
theorem d10_151 : DAt B10 151 (.iadd) 1 152 := ⟨by decide +kernel, rfl⟩
theorem d10_152 : DAt B10 152 (.iastore) 1 153 := ⟨by decide +kernel, rfl⟩
theorem d10_153 : DAt B10 153 (.aload_n 0) 1 154 := ⟨by decide +kernel, rfl⟩
theorem d10_154 : DAt B10 154 (.getfield 20) 3 157 := ⟨by decide +kernel, rfl⟩
theorem d10_157 : DAt B10 157 (.iload_n 1) 1 158 := ⟨by decide +kernel, rfl⟩
theorem d10_158 : DAt B10 158 (.iload 4) 2 160 := ⟨by decide +kernel, rfl⟩
theorem d10_160 : DAt B10 160 (.iconst 1) 1 161 := ⟨by decide +kernel, rfl⟩
theorem d10_161 : DAt B10 161 (.iadd) 1 162 := ⟨by decide +kernel, rfl⟩
theorem d10_162 : DAt B10 162 (.aload_n 0) 1 163 := ⟨by decide +kernel, rfl⟩
theorem d10_163 : DAt B10 163 (.getfield 79) 3 166 := ⟨by decide +kernel, rfl⟩
theorem d10_166 : DAt B10 166 (.irem) 1 167 := ⟨by decide +kernel, rfl⟩
theorem d10_167 : DAt B10 167 (.iastore) 1 168 := ⟨by decide +kernel, rfl⟩
theorem d10_168 : DAt B10 168 (.return_) 1 169 := ⟨by decide +kernel, rfl⟩
def B9 : Bdy := ((⟨"WsClockPager", "recordReference", "(II)V"⟩ : MethodName), prog_1_method_21_code, 5, none, ({ frames := 1, cells := 0, slots := 0, locals := 17 } : Room))
theorem d9_0 : DAt B9 0 (.iload_n 1) 1 1 := ⟨by decide +kernel, rfl⟩
theorem d9_1 : DAt B9 1 (.bipush 16) 2 3 := ⟨by decide +kernel, rfl⟩
theorem d9_3 : DAt B9 3 (.imul) 1 4 := ⟨by decide +kernel, rfl⟩
theorem d9_4 : DAt B9 4 (.iload_n 2) 1 5 := ⟨by decide +kernel, rfl⟩
theorem d9_5 : DAt B9 5 (.iadd) 1 6 := ⟨by decide +kernel, rfl⟩
theorem d9_6 : DAt B9 6 (.istore_n 3) 1 7 := ⟨by decide +kernel, rfl⟩
theorem d9_7 : DAt B9 7 (.aload_n 0) 1 8 := ⟨by decide +kernel, rfl⟩
theorem d9_8 : DAt B9 8 (.getfield 38) 3 11 := ⟨by decide +kernel, rfl⟩
theorem d9_11 : DAt B9 11 (.iload_n 3) 1 12 := ⟨by decide +kernel, rfl⟩
theorem d9_12 : DAt B9 12 (.iaload) 1 13 := ⟨by decide +kernel, rfl⟩
theorem d9_13 : DAt B9 13 (.istore 4) 2 15 := ⟨by decide +kernel, rfl⟩
theorem d9_15 : DAt B9 15 (.iload 4) 2 17 := ⟨by decide +kernel, rfl⟩
theorem d9_17 : DAt B9 17 (.ifCond .lt 11) 3 20 := ⟨by decide +kernel, rfl⟩
theorem d9_20 : DAt B9 20 (.aload_n 0) 1 21 := ⟨by decide +kernel, rfl⟩
theorem d9_21 : DAt B9 21 (.getfield 50) 3 24 := ⟨by decide +kernel, rfl⟩
theorem d9_24 : DAt B9 24 (.iload 4) 2 26 := ⟨by decide +kernel, rfl⟩
theorem d9_26 : DAt B9 26 (.iconst 1) 1 27 := ⟨by decide +kernel, rfl⟩
theorem d9_27 : DAt B9 27 (.bastore) 1 28 := ⟨by decide +kernel, rfl⟩
theorem d9_28 : DAt B9 28 (.aload_n 0) 1 29 := ⟨by decide +kernel, rfl⟩
theorem d9_29 : DAt B9 29 (.getfield 13) 3 32 := ⟨by decide +kernel, rfl⟩
theorem d9_32 : DAt B9 32 (.iload_n 1) 1 33 := ⟨by decide +kernel, rfl⟩
theorem d9_33 : DAt B9 33 (.aload_n 0) 1 34 := ⟨by decide +kernel, rfl⟩
theorem d9_34 : DAt B9 34 (.getfield 13) 3 37 := ⟨by decide +kernel, rfl⟩
theorem d9_37 : DAt B9 37 (.iload_n 1) 1 38 := ⟨by decide +kernel, rfl⟩
theorem d9_38 : DAt B9 38 (.iaload) 1 39 := ⟨by decide +kernel, rfl⟩
theorem d9_39 : DAt B9 39 (.iconst 1) 1 40 := ⟨by decide +kernel, rfl⟩
theorem d9_40 : DAt B9 40 (.iadd) 1 41 := ⟨by decide +kernel, rfl⟩
theorem d9_41 : DAt B9 41 (.iastore) 1 42 := ⟨by decide +kernel, rfl⟩
theorem d9_42 : DAt B9 42 (.aload_n 0) 1 43 := ⟨by decide +kernel, rfl⟩
theorem d9_43 : DAt B9 43 (.getfield 44) 3 46 := ⟨by decide +kernel, rfl⟩
theorem d9_46 : DAt B9 46 (.iload_n 3) 1 47 := ⟨by decide +kernel, rfl⟩
theorem d9_47 : DAt B9 47 (.aload_n 0) 1 48 := ⟨by decide +kernel, rfl⟩
theorem d9_48 : DAt B9 48 (.getfield 13) 3 51 := ⟨by decide +kernel, rfl⟩
theorem d9_51 : DAt B9 51 (.iload_n 1) 1 52 := ⟨by decide +kernel, rfl⟩
theorem d9_52 : DAt B9 52 (.iaload) 1 53 := ⟨by decide +kernel, rfl⟩
theorem d9_53 : DAt B9 53 (.iastore) 1 54 := ⟨by decide +kernel, rfl⟩
theorem d9_54 : DAt B9 54 (.aload_n 0) 1 55 := ⟨by decide +kernel, rfl⟩
theorem d9_55 : DAt B9 55 (.iload_n 1) 1 56 := ⟨by decide +kernel, rfl⟩
theorem d9_56 : DAt B9 56 (.iload_n 2) 1 57 := ⟨by decide +kernel, rfl⟩
theorem d9_57 : DAt B9 57 (.invokevirtual 121) 3 60 := ⟨by decide +kernel, rfl⟩
theorem d9_60 : DAt B9 60 (.aload_n 0) 1 61 := ⟨by decide +kernel, rfl⟩
theorem d9_61 : DAt B9 61 (.getfield 35) 3 64 := ⟨by decide +kernel, rfl⟩
theorem d9_64 : DAt B9 64 (.iload_n 3) 1 65 := ⟨by decide +kernel, rfl⟩
theorem d9_65 : DAt B9 65 (.baload) 1 66 := ⟨by decide +kernel, rfl⟩
theorem d9_66 : DAt B9 66 (.ifCond .ne 24) 3 69 := ⟨by decide +kernel, rfl⟩
theorem d9_69 : DAt B9 69 (.aload_n 0) 1 70 := ⟨by decide +kernel, rfl⟩
theorem d9_70 : DAt B9 70 (.getfield 35) 3 73 := ⟨by decide +kernel, rfl⟩
theorem d9_73 : DAt B9 73 (.iload_n 3) 1 74 := ⟨by decide +kernel, rfl⟩
theorem d9_74 : DAt B9 74 (.iconst 1) 1 75 := ⟨by decide +kernel, rfl⟩
theorem d9_75 : DAt B9 75 (.bastore) 1 76 := ⟨by decide +kernel, rfl⟩
theorem d9_76 : DAt B9 76 (.aload_n 0) 1 77 := ⟨by decide +kernel, rfl⟩
theorem d9_77 : DAt B9 77 (.getfield 26) 3 80 := ⟨by decide +kernel, rfl⟩
theorem d9_80 : DAt B9 80 (.iload_n 1) 1 81 := ⟨by decide +kernel, rfl⟩
theorem d9_81 : DAt B9 81 (.aload_n 0) 1 82 := ⟨by decide +kernel, rfl⟩
theorem d9_82 : DAt B9 82 (.getfield 26) 3 85 := ⟨by decide +kernel, rfl⟩
theorem d9_85 : DAt B9 85 (.iload_n 1) 1 86 := ⟨by decide +kernel, rfl⟩
theorem d9_86 : DAt B9 86 (.iaload) 1 87 := ⟨by decide +kernel, rfl⟩
theorem d9_87 : DAt B9 87 (.iconst 1) 1 88 := ⟨by decide +kernel, rfl⟩
theorem d9_88 : DAt B9 88 (.iadd) 1 89 := ⟨by decide +kernel, rfl⟩
theorem d9_89 : DAt B9 89 (.iastore) 1 90 := ⟨by decide +kernel, rfl⟩
theorem d9_90 : DAt B9 90 (.return_) 1 91 := ⟨by decide +kernel, rfl⟩
def B12 : Bdy := ((⟨"WsClockPager", "activeTotal", "()I"⟩ : MethodName), prog_1_method_10_code, 3, (some .int), ({ frames := 0, cells := 0, slots := 0, locals := 0 } : Room))
theorem d12_0 : DAt B12 0 (.iconst 0) 1 1 := ⟨by decide +kernel, rfl⟩
theorem d12_1 : DAt B12 1 (.istore_n 1) 1 2 := ⟨by decide +kernel, rfl⟩
theorem d12_2 : DAt B12 2 (.iconst 0) 1 3 := ⟨by decide +kernel, rfl⟩
theorem d12_3 : DAt B12 3 (.istore_n 2) 1 4 := ⟨by decide +kernel, rfl⟩
theorem d12_4 : DAt B12 4 (.iload_n 2) 1 5 := ⟨by decide +kernel, rfl⟩
theorem d12_5 : DAt B12 5 (.aload_n 0) 1 6 := ⟨by decide +kernel, rfl⟩
theorem d12_6 : DAt B12 6 (.getfield 69) 3 9 := ⟨by decide +kernel, rfl⟩
theorem d12_9 : DAt B12 9 (.if_icmp .ge 27) 3 12 := ⟨by decide +kernel, rfl⟩
theorem d12_12 : DAt B12 12 (.aload_n 0) 1 13 := ⟨by decide +kernel, rfl⟩
theorem d12_13 : DAt B12 13 (.getfield 7) 3 16 := ⟨by decide +kernel, rfl⟩
theorem d12_16 : DAt B12 16 (.iload_n 2) 1 17 := ⟨by decide +kernel, rfl⟩
theorem d12_17 : DAt B12 17 (.baload) 1 18 := ⟨by decide +kernel, rfl⟩
theorem d12_18 : DAt B12 18 (.ifCond .ne 12) 3 21 := ⟨by decide +kernel, rfl⟩
theorem d12_21 : DAt B12 21 (.iload_n 1) 1 22 := ⟨by decide +kernel, rfl⟩
theorem d12_22 : DAt B12 22 (.aload_n 0) 1 23 := ⟨by decide +kernel, rfl⟩
theorem d12_23 : DAt B12 23 (.getfield 23) 3 26 := ⟨by decide +kernel, rfl⟩
theorem d12_26 : DAt B12 26 (.iload_n 2) 1 27 := ⟨by decide +kernel, rfl⟩
theorem d12_27 : DAt B12 27 (.iaload) 1 28 := ⟨by decide +kernel, rfl⟩
theorem d12_28 : DAt B12 28 (.iadd) 1 29 := ⟨by decide +kernel, rfl⟩
theorem d12_29 : DAt B12 29 (.istore_n 1) 1 30 := ⟨by decide +kernel, rfl⟩
theorem d12_30 : DAt B12 30 (.iinc 2 1) 3 33 := ⟨by decide +kernel, rfl⟩
theorem d12_33 : DAt B12 33 (.goto (-29)) 3 36 := ⟨by decide +kernel, rfl⟩
theorem d12_36 : DAt B12 36 (.iload_n 1) 1 37 := ⟨by decide +kernel, rfl⟩
theorem d12_37 : DAt B12 37 (.ireturn) 1 38 := ⟨by decide +kernel, rfl⟩
def B11 : Bdy := ((⟨"WsClockPager", "loadControl", "(I)V"⟩ : MethodName), prog_1_method_23_code, 5, none, ({ frames := 1, cells := 0, slots := 0, locals := 14 } : Room))
theorem d11_0 : DAt B11 0 (.iconst 0) 1 1 := ⟨by decide +kernel, rfl⟩
theorem d11_1 : DAt B11 1 (.istore_n 2) 1 2 := ⟨by decide +kernel, rfl⟩
theorem d11_2 : DAt B11 2 (.iload_n 2) 1 3 := ⟨by decide +kernel, rfl⟩
theorem d11_3 : DAt B11 3 (.aload_n 0) 1 4 := ⟨by decide +kernel, rfl⟩
theorem d11_4 : DAt B11 4 (.getfield 69) 3 7 := ⟨by decide +kernel, rfl⟩
theorem d11_7 : DAt B11 7 (.if_icmp .ge 58) 3 10 := ⟨by decide +kernel, rfl⟩
theorem d11_10 : DAt B11 10 (.aload_n 0) 1 11 := ⟨by decide +kernel, rfl⟩
theorem d11_11 : DAt B11 11 (.invokevirtual 124) 3 14 := ⟨by decide +kernel, rfl⟩
theorem d11_14 : DAt B11 14 (.istore_n 3) 1 15 := ⟨by decide +kernel, rfl⟩
theorem d11_15 : DAt B11 15 (.iload_n 3) 1 16 := ⟨by decide +kernel, rfl⟩
theorem d11_16 : DAt B11 16 (.aload_n 0) 1 17 := ⟨by decide +kernel, rfl⟩
theorem d11_17 : DAt B11 17 (.getfield 76) 3 20 := ⟨by decide +kernel, rfl⟩
theorem d11_20 : DAt B11 20 (.if_icmp .gt 6) 3 23 := ⟨by decide +kernel, rfl⟩
theorem d11_23 : DAt B11 23 (.goto 42) 3 26 := ⟨by decide +kernel, rfl⟩
theorem d11_26 : DAt B11 26 (.aload_n 0) 1 27 := ⟨by decide +kernel, rfl⟩
theorem d11_27 : DAt B11 27 (.iload_n 1) 1 28 := ⟨by decide +kernel, rfl⟩
theorem d11_65 : DAt B11 65 (.iconst 0) 1 66 := ⟨by decide +kernel, rfl⟩
theorem d11_66 : DAt B11 66 (.istore_n 2) 1 67 := ⟨by decide +kernel, rfl⟩
theorem d11_67 : DAt B11 67 (.iload_n 2) 1 68 := ⟨by decide +kernel, rfl⟩
theorem d11_68 : DAt B11 68 (.aload_n 0) 1 69 := ⟨by decide +kernel, rfl⟩
theorem d11_69 : DAt B11 69 (.getfield 69) 3 72 := ⟨by decide +kernel, rfl⟩
theorem d11_72 : DAt B11 72 (.if_icmp .ge 55) 3 75 := ⟨by decide +kernel, rfl⟩
theorem d11_75 : DAt B11 75 (.aload_n 0) 1 76 := ⟨by decide +kernel, rfl⟩
theorem d11_76 : DAt B11 76 (.getfield 7) 3 79 := ⟨by decide +kernel, rfl⟩
theorem d11_79 : DAt B11 79 (.iload_n 2) 1 80 := ⟨by decide +kernel, rfl⟩
theorem d11_80 : DAt B11 80 (.baload) 1 81 := ⟨by decide +kernel, rfl⟩
theorem d11_81 : DAt B11 81 (.ifCond .eq 40) 3 84 := ⟨by decide +kernel, rfl⟩
theorem d11_84 : DAt B11 84 (.aload_n 0) 1 85 := ⟨by decide +kernel, rfl⟩
theorem d11_85 : DAt B11 85 (.invokevirtual 124) 3 88 := ⟨by decide +kernel, rfl⟩
theorem d11_88 : DAt B11 88 (.istore_n 3) 1 89 := ⟨by decide +kernel, rfl⟩
theorem d11_89 : DAt B11 89 (.iload_n 3) 1 90 := ⟨by decide +kernel, rfl⟩
theorem d11_90 : DAt B11 90 (.aload_n 0) 1 91 := ⟨by decide +kernel, rfl⟩
theorem d11_91 : DAt B11 91 (.getfield 23) 3 94 := ⟨by decide +kernel, rfl⟩
theorem d11_94 : DAt B11 94 (.iload_n 2) 1 95 := ⟨by decide +kernel, rfl⟩
theorem d11_95 : DAt B11 95 (.iaload) 1 96 := ⟨by decide +kernel, rfl⟩
theorem d11_96 : DAt B11 96 (.iadd) 1 97 := ⟨by decide +kernel, rfl⟩
theorem d11_97 : DAt B11 97 (.aload_n 0) 1 98 := ⟨by decide +kernel, rfl⟩
theorem d11_98 : DAt B11 98 (.getfield 76) 3 101 := ⟨by decide +kernel, rfl⟩
theorem d11_101 : DAt B11 101 (.if_icmp .gt 20) 3 104 := ⟨by decide +kernel, rfl⟩
theorem d11_104 : DAt B11 104 (.aload_n 0) 1 105 := ⟨by decide +kernel, rfl⟩
theorem d11_105 : DAt B11 105 (.getfield 7) 3 108 := ⟨by decide +kernel, rfl⟩
theorem d11_108 : DAt B11 108 (.iload_n 2) 1 109 := ⟨by decide +kernel, rfl⟩
theorem d11_109 : DAt B11 109 (.iconst 0) 1 110 := ⟨by decide +kernel, rfl⟩
theorem d11_110 : DAt B11 110 (.bastore) 1 111 := ⟨by decide +kernel, rfl⟩
theorem d11_111 : DAt B11 111 (.aload_n 0) 1 112 := ⟨by decide +kernel, rfl⟩
theorem d11_112 : DAt B11 112 (.dup) 1 113 := ⟨by decide +kernel, rfl⟩
theorem d11_113 : DAt B11 113 (.getfield 88) 3 116 := ⟨by decide +kernel, rfl⟩
theorem d11_116 : DAt B11 116 (.iconst 1) 1 117 := ⟨by decide +kernel, rfl⟩
theorem d11_117 : DAt B11 117 (.iadd) 1 118 := ⟨by decide +kernel, rfl⟩
theorem d11_118 : DAt B11 118 (.putfield 88) 3 121 := ⟨by decide +kernel, rfl⟩
theorem d11_121 : DAt B11 121 (.iinc 2 1) 3 124 := ⟨by decide +kernel, rfl⟩
theorem d11_124 : DAt B11 124 (.goto (-57)) 3 127 := ⟨by decide +kernel, rfl⟩
theorem d11_127 : DAt B11 127 (.return_) 1 128 := ⟨by decide +kernel, rfl⟩
def B3 : Bdy := ((⟨"WsClockPager", "store", "(III)I"⟩ : MethodName), prog_1_method_3_code, 7, (some .int), ({ frames := 2, cells := 0, slots := 0, locals := 33 } : Room))
theorem d3_0 : DAt B3 0 (.aload_n 0) 1 1 := ⟨by decide +kernel, rfl⟩
theorem d3_1 : DAt B3 1 (.iload_n 1) 1 2 := ⟨by decide +kernel, rfl⟩
theorem d3_2 : DAt B3 2 (.iload_n 2) 1 3 := ⟨by decide +kernel, rfl⟩
theorem d3_3 : DAt B3 3 (.invokevirtual 94) 3 6 := ⟨by decide +kernel, rfl⟩
theorem d3_6 : DAt B3 6 (.istore 4) 2 8 := ⟨by decide +kernel, rfl⟩
theorem d3_8 : DAt B3 8 (.iload 4) 2 10 := ⟨by decide +kernel, rfl⟩
theorem d3_10 : DAt B3 10 (.ifCond .eq 12) 3 13 := ⟨by decide +kernel, rfl⟩
theorem d3_13 : DAt B3 13 (.aload_n 0) 1 14 := ⟨by decide +kernel, rfl⟩
theorem d3_14 : DAt B3 14 (.iload 4) 2 16 := ⟨by decide +kernel, rfl⟩
theorem d3_16 : DAt B3 16 (.putfield 82) 3 19 := ⟨by decide +kernel, rfl⟩
theorem d3_19 : DAt B3 19 (.iload 4) 2 21 := ⟨by decide +kernel, rfl⟩
theorem d3_21 : DAt B3 21 (.ireturn) 1 22 := ⟨by decide +kernel, rfl⟩
theorem d3_22 : DAt B3 22 (.iload_n 2) 1 23 := ⟨by decide +kernel, rfl⟩
theorem d3_23 : DAt B3 23 (.iconst 4) 1 24 := ⟨by decide +kernel, rfl⟩
theorem d3_24 : DAt B3 24 (.idiv) 1 25 := ⟨by decide +kernel, rfl⟩
theorem d3_25 : DAt B3 25 (.istore 5) 2 27 := ⟨by decide +kernel, rfl⟩
theorem d3_27 : DAt B3 27 (.aload_n 0) 1 28 := ⟨by decide +kernel, rfl⟩
theorem d3_28 : DAt B3 28 (.iload_n 1) 1 29 := ⟨by decide +kernel, rfl⟩
theorem d3_29 : DAt B3 29 (.iload 5) 2 31 := ⟨by decide +kernel, rfl⟩
theorem d3_31 : DAt B3 31 (.invokevirtual 100) 3 34 := ⟨by decide +kernel, rfl⟩
theorem d3_34 : DAt B3 34 (.istore 6) 2 36 := ⟨by decide +kernel, rfl⟩
theorem d3_36 : DAt B3 36 (.aload_n 0) 1 37 := ⟨by decide +kernel, rfl⟩
theorem d3_37 : DAt B3 37 (.getfield 56) 3 40 := ⟨by decide +kernel, rfl⟩
theorem d3_40 : DAt B3 40 (.iload 6) 2 42 := ⟨by decide +kernel, rfl⟩
theorem d3_42 : DAt B3 42 (.iconst 4) 1 43 := ⟨by decide +kernel, rfl⟩
theorem d3_43 : DAt B3 43 (.imul) 1 44 := ⟨by decide +kernel, rfl⟩
theorem d3_44 : DAt B3 44 (.iload_n 2) 1 45 := ⟨by decide +kernel, rfl⟩
theorem d3_45 : DAt B3 45 (.iconst 4) 1 46 := ⟨by decide +kernel, rfl⟩
theorem d3_46 : DAt B3 46 (.irem) 1 47 := ⟨by decide +kernel, rfl⟩
theorem d3_47 : DAt B3 47 (.iadd) 1 48 := ⟨by decide +kernel, rfl⟩
theorem d3_48 : DAt B3 48 (.iload_n 3) 1 49 := ⟨by decide +kernel, rfl⟩
theorem d3_49 : DAt B3 49 (.iastore) 1 50 := ⟨by decide +kernel, rfl⟩
theorem d3_50 : DAt B3 50 (.aload_n 0) 1 51 := ⟨by decide +kernel, rfl⟩
theorem d3_51 : DAt B3 51 (.getfield 53) 3 54 := ⟨by decide +kernel, rfl⟩
theorem d3_54 : DAt B3 54 (.iload 6) 2 56 := ⟨by decide +kernel, rfl⟩
theorem d3_56 : DAt B3 56 (.iconst 1) 1 57 := ⟨by decide +kernel, rfl⟩
theorem d3_57 : DAt B3 57 (.bastore) 1 58 := ⟨by decide +kernel, rfl⟩
theorem d3_58 : DAt B3 58 (.aload_n 0) 1 59 := ⟨by decide +kernel, rfl⟩
theorem d3_59 : DAt B3 59 (.iload_n 1) 1 60 := ⟨by decide +kernel, rfl⟩
theorem d3_60 : DAt B3 60 (.iload 5) 2 62 := ⟨by decide +kernel, rfl⟩
theorem d3_62 : DAt B3 62 (.invokevirtual 103) 3 65 := ⟨by decide +kernel, rfl⟩
theorem d3_65 : DAt B3 65 (.aload_n 0) 1 66 := ⟨by decide +kernel, rfl⟩
theorem d3_66 : DAt B3 66 (.iload_n 1) 1 67 := ⟨by decide +kernel, rfl⟩
theorem d3_67 : DAt B3 67 (.invokevirtual 107) 3 70 := ⟨by decide +kernel, rfl⟩
theorem d3_70 : DAt B3 70 (.aload_n 0) 1 71 := ⟨by decide +kernel, rfl⟩
theorem d3_71 : DAt B3 71 (.iconst 0) 1 72 := ⟨by decide +kernel, rfl⟩
theorem d3_72 : DAt B3 72 (.putfield 82) 3 75 := ⟨by decide +kernel, rfl⟩
theorem d3_75 : DAt B3 75 (.iconst 0) 1 76 := ⟨by decide +kernel, rfl⟩
theorem d3_76 : DAt B3 76 (.ireturn) 1 77 := ⟨by decide +kernel, rfl⟩
def B13 : Bdy := ((⟨"WsClockPager", "lastStatus", "()I"⟩ : MethodName), prog_1_method_5_code, 1, (some .int), ({ frames := 0, cells := 0, slots := 0, locals := 0 } : Room))
theorem d13_0 : DAt B13 0 (.aload_n 0) 1 1 := ⟨by decide +kernel, rfl⟩
theorem d13_1 : DAt B13 1 (.getfield 82) 3 4 := ⟨by decide +kernel, rfl⟩
theorem d13_4 : DAt B13 4 (.ireturn) 1 5 := ⟨by decide +kernel, rfl⟩
def B15 : Bdy := ((⟨"WsClockPager", "readWord", "(II)I"⟩ : MethodName), prog_1_method_19_code, 5, (some .int), ({ frames := 0, cells := 0, slots := 0, locals := 0 } : Room))
theorem d15_0 : DAt B15 0 (.aload_n 0) 1 1 := ⟨by decide +kernel, rfl⟩
theorem d15_1 : DAt B15 1 (.getfield 38) 3 4 := ⟨by decide +kernel, rfl⟩
theorem d15_4 : DAt B15 4 (.iload_n 1) 1 5 := ⟨by decide +kernel, rfl⟩
theorem d15_5 : DAt B15 5 (.iaload) 1 6 := ⟨by decide +kernel, rfl⟩
theorem d15_6 : DAt B15 6 (.istore_n 3) 1 7 := ⟨by decide +kernel, rfl⟩
theorem d15_7 : DAt B15 7 (.iload_n 3) 1 8 := ⟨by decide +kernel, rfl⟩
theorem d15_8 : DAt B15 8 (.ifCond .lt 14) 3 11 := ⟨by decide +kernel, rfl⟩
theorem d15_11 : DAt B15 11 (.aload_n 0) 1 12 := ⟨by decide +kernel, rfl⟩
theorem d15_12 : DAt B15 12 (.getfield 56) 3 15 := ⟨by decide +kernel, rfl⟩
theorem d15_15 : DAt B15 15 (.iload_n 3) 1 16 := ⟨by decide +kernel, rfl⟩
theorem d15_16 : DAt B15 16 (.iconst 4) 1 17 := ⟨by decide +kernel, rfl⟩
theorem d15_17 : DAt B15 17 (.imul) 1 18 := ⟨by decide +kernel, rfl⟩
theorem d15_18 : DAt B15 18 (.iload_n 2) 1 19 := ⟨by decide +kernel, rfl⟩
theorem d15_19 : DAt B15 19 (.iadd) 1 20 := ⟨by decide +kernel, rfl⟩
theorem d15_20 : DAt B15 20 (.iaload) 1 21 := ⟨by decide +kernel, rfl⟩
theorem d15_21 : DAt B15 21 (.ireturn) 1 22 := ⟨by decide +kernel, rfl⟩
theorem d15_22 : DAt B15 22 (.aload_n 0) 1 23 := ⟨by decide +kernel, rfl⟩
theorem d15_23 : DAt B15 23 (.getfield 41) 3 26 := ⟨by decide +kernel, rfl⟩
theorem d15_26 : DAt B15 26 (.iload_n 1) 1 27 := ⟨by decide +kernel, rfl⟩
theorem d15_27 : DAt B15 27 (.iaload) 1 28 := ⟨by decide +kernel, rfl⟩
theorem d15_28 : DAt B15 28 (.istore 4) 2 30 := ⟨by decide +kernel, rfl⟩
theorem d15_30 : DAt B15 30 (.iload 4) 2 32 := ⟨by decide +kernel, rfl⟩
theorem d15_32 : DAt B15 32 (.ifCond .lt 15) 3 35 := ⟨by decide +kernel, rfl⟩
theorem d15_35 : DAt B15 35 (.aload_n 0) 1 36 := ⟨by decide +kernel, rfl⟩
theorem d15_36 : DAt B15 36 (.getfield 62) 3 39 := ⟨by decide +kernel, rfl⟩
theorem d15_39 : DAt B15 39 (.iload 4) 2 41 := ⟨by decide +kernel, rfl⟩
theorem d15_41 : DAt B15 41 (.iconst 4) 1 42 := ⟨by decide +kernel, rfl⟩
theorem d15_42 : DAt B15 42 (.imul) 1 43 := ⟨by decide +kernel, rfl⟩
theorem d15_43 : DAt B15 43 (.iload_n 2) 1 44 := ⟨by decide +kernel, rfl⟩
theorem d15_44 : DAt B15 44 (.iadd) 1 45 := ⟨by decide +kernel, rfl⟩
theorem d15_45 : DAt B15 45 (.iaload) 1 46 := ⟨by decide +kernel, rfl⟩
theorem d15_46 : DAt B15 46 (.ireturn) 1 47 := ⟨by decide +kernel, rfl⟩
theorem d15_47 : DAt B15 47 (.iconst 0) 1 48 := ⟨by decide +kernel, rfl⟩
theorem d15_48 : DAt B15 48 (.ireturn) 1 49 := ⟨by decide +kernel, rfl⟩
def B14 : Bdy := ((⟨"WsClockPager", "memorySum", "(I)I"⟩ : MethodName), prog_1_method_14_code, 6, (some .int), ({ frames := 1, cells := 0, slots := 0, locals := 17 } : Room))
theorem d14_0 : DAt B14 0 (.aload_n 0) 1 1 := ⟨by decide +kernel, rfl⟩
theorem d14_1 : DAt B14 1 (.iload_n 1) 1 2 := ⟨by decide +kernel, rfl⟩
theorem d14_2 : DAt B14 2 (.invokevirtual 111) 3 5 := ⟨by decide +kernel, rfl⟩
theorem d14_5 : DAt B14 5 (.ifCond .ne 5) 3 8 := ⟨by decide +kernel, rfl⟩
theorem d14_8 : DAt B14 8 (.iconst 0) 1 9 := ⟨by decide +kernel, rfl⟩
theorem d14_9 : DAt B14 9 (.ireturn) 1 10 := ⟨by decide +kernel, rfl⟩
theorem d14_10 : DAt B14 10 (.iconst 0) 1 11 := ⟨by decide +kernel, rfl⟩
theorem d14_11 : DAt B14 11 (.istore_n 2) 1 12 := ⟨by decide +kernel, rfl⟩
theorem d14_12 : DAt B14 12 (.iconst 0) 1 13 := ⟨by decide +kernel, rfl⟩
theorem d14_13 : DAt B14 13 (.istore_n 3) 1 14 := ⟨by decide +kernel, rfl⟩
theorem d14_14 : DAt B14 14 (.iload_n 3) 1 15 := ⟨by decide +kernel, rfl⟩
theorem d14_15 : DAt B14 15 (.aload_n 0) 1 16 := ⟨by decide +kernel, rfl⟩
theorem d14_16 : DAt B14 16 (.getfield 73) 3 19 := ⟨by decide +kernel, rfl⟩
theorem d14_19 : DAt B14 19 (.if_icmp .ge 43) 3 22 := ⟨by decide +kernel, rfl⟩
theorem d14_22 : DAt B14 22 (.iload_n 1) 1 23 := ⟨by decide +kernel, rfl⟩
theorem d14_23 : DAt B14 23 (.bipush 16) 2 25 := ⟨by decide +kernel, rfl⟩
theorem d14_25 : DAt B14 25 (.imul) 1 26 := ⟨by decide +kernel, rfl⟩
theorem d14_26 : DAt B14 26 (.iload_n 3) 1 27 := ⟨by decide +kernel, rfl⟩
theorem d14_27 : DAt B14 27 (.iadd) 1 28 := ⟨by decide +kernel, rfl⟩
theorem d14_28 : DAt B14 28 (.istore 4) 2 30 := ⟨by decide +kernel, rfl⟩
theorem d14_30 : DAt B14 30 (.iconst 0) 1 31 := ⟨by decide +kernel, rfl⟩
theorem d14_31 : DAt B14 31 (.istore 5) 2 33 := ⟨by decide +kernel, rfl⟩
theorem d14_33 : DAt B14 33 (.iload 5) 2 35 := ⟨by decide +kernel, rfl⟩
theorem d14_35 : DAt B14 35 (.iconst 4) 1 36 := ⟨by decide +kernel, rfl⟩
theorem d14_36 : DAt B14 36 (.if_icmp .ge 20) 3 39 := ⟨by decide +kernel, rfl⟩
theorem d14_39 : DAt B14 39 (.iload_n 2) 1 40 := ⟨by decide +kernel, rfl⟩
theorem d14_40 : DAt B14 40 (.aload_n 0) 1 41 := ⟨by decide +kernel, rfl⟩
theorem d14_41 : DAt B14 41 (.iload 4) 2 43 := ⟨by decide +kernel, rfl⟩
theorem d14_43 : DAt B14 43 (.iload 5) 2 45 := ⟨by decide +kernel, rfl⟩
theorem d14_45 : DAt B14 45 (.invokevirtual 118) 3 48 := ⟨by decide +kernel, rfl⟩
theorem d14_48 : DAt B14 48 (.iadd) 1 49 := ⟨by decide +kernel, rfl⟩
theorem d14_49 : DAt B14 49 (.istore_n 2) 1 50 := ⟨by decide +kernel, rfl⟩
theorem d14_50 : DAt B14 50 (.iinc 5 1) 3 53 := ⟨by decide +kernel, rfl⟩
theorem d14_53 : DAt B14 53 (.goto (-20)) 3 56 := ⟨by decide +kernel, rfl⟩
theorem d14_56 : DAt B14 56 (.iinc 3 1) 3 59 := ⟨by decide +kernel, rfl⟩
theorem d14_59 : DAt B14 59 (.goto (-45)) 3 62 := ⟨by decide +kernel, rfl⟩
theorem d14_62 : DAt B14 62 (.iload_n 2) 1 63 := ⟨by decide +kernel, rfl⟩
theorem d14_63 : DAt B14 63 (.ireturn) 1 64 := ⟨by decide +kernel, rfl⟩
def B16 : Bdy := ((⟨"WsClockPager", "load", "(II)J"⟩ : MethodName), prog_1_method_2_code, 7, (some .long), ({ frames := 2, cells := 0, slots := 0, locals := 33 } : Room))
theorem d16_0 : DAt B16 0 (.aload_n 0) 1 1 := ⟨by decide +kernel, rfl⟩
theorem d16_1 : DAt B16 1 (.iload_n 1) 1 2 := ⟨by decide +kernel, rfl⟩
theorem d16_2 : DAt B16 2 (.iload_n 2) 1 3 := ⟨by decide +kernel, rfl⟩
theorem d16_3 : DAt B16 3 (.invokevirtual 94) 3 6 := ⟨by decide +kernel, rfl⟩
theorem d16_6 : DAt B16 6 (.istore_n 3) 1 7 := ⟨by decide +kernel, rfl⟩
theorem d16_7 : DAt B16 7 (.iload_n 3) 1 8 := ⟨by decide +kernel, rfl⟩
theorem d16_8 : DAt B16 8 (.ifCond .eq 12) 3 11 := ⟨by decide +kernel, rfl⟩
theorem d16_11 : DAt B16 11 (.aload_n 0) 1 12 := ⟨by decide +kernel, rfl⟩
theorem d16_12 : DAt B16 12 (.iload_n 3) 1 13 := ⟨by decide +kernel, rfl⟩
theorem d16_13 : DAt B16 13 (.putfield 82) 3 16 := ⟨by decide +kernel, rfl⟩
theorem d16_16 : DAt B16 16 (.ldc2_w 98) 3 19 := ⟨by decide +kernel, rfl⟩
theorem d16_19 : DAt B16 19 (.lreturn) 1 20 := ⟨by decide +kernel, rfl⟩
theorem d16_20 : DAt B16 20 (.iload_n 2) 1 21 := ⟨by decide +kernel, rfl⟩
theorem d16_21 : DAt B16 21 (.iconst 4) 1 22 := ⟨by decide +kernel, rfl⟩
theorem d16_22 : DAt B16 22 (.idiv) 1 23 := ⟨by decide +kernel, rfl⟩
theorem d16_23 : DAt B16 23 (.istore 4) 2 25 := ⟨by decide +kernel, rfl⟩
theorem d16_25 : DAt B16 25 (.aload_n 0) 1 26 := ⟨by decide +kernel, rfl⟩
theorem d16_26 : DAt B16 26 (.iload_n 1) 1 27 := ⟨by decide +kernel, rfl⟩
theorem d16_27 : DAt B16 27 (.iload 4) 2 29 := ⟨by decide +kernel, rfl⟩
theorem d16_29 : DAt B16 29 (.invokevirtual 100) 3 32 := ⟨by decide +kernel, rfl⟩
theorem d16_32 : DAt B16 32 (.istore 5) 2 34 := ⟨by decide +kernel, rfl⟩
theorem d16_34 : DAt B16 34 (.aload_n 0) 1 35 := ⟨by decide +kernel, rfl⟩
theorem d16_35 : DAt B16 35 (.getfield 56) 3 38 := ⟨by decide +kernel, rfl⟩
theorem d16_38 : DAt B16 38 (.iload 5) 2 40 := ⟨by decide +kernel, rfl⟩
theorem d16_40 : DAt B16 40 (.iconst 4) 1 41 := ⟨by decide +kernel, rfl⟩
theorem d16_41 : DAt B16 41 (.imul) 1 42 := ⟨by decide +kernel, rfl⟩
theorem d16_42 : DAt B16 42 (.iload_n 2) 1 43 := ⟨by decide +kernel, rfl⟩
theorem d16_43 : DAt B16 43 (.iconst 4) 1 44 := ⟨by decide +kernel, rfl⟩
theorem d16_44 : DAt B16 44 (.irem) 1 45 := ⟨by decide +kernel, rfl⟩
theorem d16_45 : DAt B16 45 (.iadd) 1 46 := ⟨by decide +kernel, rfl⟩
theorem d16_46 : DAt B16 46 (.iaload) 1 47 := ⟨by decide +kernel, rfl⟩
theorem d16_47 : DAt B16 47 (.istore 6) 2 49 := ⟨by decide +kernel, rfl⟩
theorem d16_49 : DAt B16 49 (.aload_n 0) 1 50 := ⟨by decide +kernel, rfl⟩
theorem d16_50 : DAt B16 50 (.iload_n 1) 1 51 := ⟨by decide +kernel, rfl⟩
theorem d16_51 : DAt B16 51 (.iload 4) 2 53 := ⟨by decide +kernel, rfl⟩
theorem d16_53 : DAt B16 53 (.invokevirtual 103) 3 56 := ⟨by decide +kernel, rfl⟩
theorem d16_56 : DAt B16 56 (.aload_n 0) 1 57 := ⟨by decide +kernel, rfl⟩
theorem d16_57 : DAt B16 57 (.iload_n 1) 1 58 := ⟨by decide +kernel, rfl⟩
theorem d16_58 : DAt B16 58 (.invokevirtual 107) 3 61 := ⟨by decide +kernel, rfl⟩
theorem d16_61 : DAt B16 61 (.aload_n 0) 1 62 := ⟨by decide +kernel, rfl⟩
theorem d16_62 : DAt B16 62 (.iconst 0) 1 63 := ⟨by decide +kernel, rfl⟩
theorem d16_63 : DAt B16 63 (.putfield 82) 3 66 := ⟨by decide +kernel, rfl⟩
theorem d16_66 : DAt B16 66 (.iload 6) 2 68 := ⟨by decide +kernel, rfl⟩
theorem d16_68 : DAt B16 68 (.i2l) 1 69 := ⟨by decide +kernel, rfl⟩
theorem d16_69 : DAt B16 69 (.lreturn) 1 70 := ⟨by decide +kernel, rfl⟩
def B17 : Bdy := ((⟨"WsClockPager", "virtualTime", "(I)I"⟩ : MethodName), prog_1_method_7_code, 2, (some .int), ({ frames := 1, cells := 0, slots := 0, locals := 13 } : Room))
theorem d17_0 : DAt B17 0 (.aload_n 0) 1 1 := ⟨by decide +kernel, rfl⟩
theorem d17_1 : DAt B17 1 (.iload_n 1) 1 2 := ⟨by decide +kernel, rfl⟩
theorem d17_2 : DAt B17 2 (.invokevirtual 111) 3 5 := ⟨by decide +kernel, rfl⟩
theorem d17_5 : DAt B17 5 (.ifCond .ne 5) 3 8 := ⟨by decide +kernel, rfl⟩
theorem d17_8 : DAt B17 8 (.iconst 0) 1 9 := ⟨by decide +kernel, rfl⟩
theorem d17_9 : DAt B17 9 (.ireturn) 1 10 := ⟨by decide +kernel, rfl⟩
theorem d17_10 : DAt B17 10 (.aload_n 0) 1 11 := ⟨by decide +kernel, rfl⟩
theorem d17_11 : DAt B17 11 (.getfield 13) 3 14 := ⟨by decide +kernel, rfl⟩
theorem d17_14 : DAt B17 14 (.iload_n 1) 1 15 := ⟨by decide +kernel, rfl⟩
theorem d17_15 : DAt B17 15 (.iaload) 1 16 := ⟨by decide +kernel, rfl⟩
theorem d17_16 : DAt B17 16 (.ireturn) 1 17 := ⟨by decide +kernel, rfl⟩
def B18 : Bdy := ((⟨"WsClockPager", "workingSetSize", "(I)I"⟩ : MethodName), prog_1_method_8_code, 2, (some .int), ({ frames := 1, cells := 0, slots := 0, locals := 13 } : Room))
theorem d18_0 : DAt B18 0 (.aload_n 0) 1 1 := ⟨by decide +kernel, rfl⟩
theorem d18_1 : DAt B18 1 (.iload_n 1) 1 2 := ⟨by decide +kernel, rfl⟩
theorem d18_2 : DAt B18 2 (.invokevirtual 111) 3 5 := ⟨by decide +kernel, rfl⟩
theorem d18_5 : DAt B18 5 (.ifCond .ne 5) 3 8 := ⟨by decide +kernel, rfl⟩
theorem d18_8 : DAt B18 8 (.iconst 0) 1 9 := ⟨by decide +kernel, rfl⟩
theorem d18_9 : DAt B18 9 (.ireturn) 1 10 := ⟨by decide +kernel, rfl⟩
theorem d18_10 : DAt B18 10 (.aload_n 0) 1 11 := ⟨by decide +kernel, rfl⟩
theorem d18_11 : DAt B18 11 (.getfield 23) 3 14 := ⟨by decide +kernel, rfl⟩
theorem d18_14 : DAt B18 14 (.iload_n 1) 1 15 := ⟨by decide +kernel, rfl⟩
theorem d18_15 : DAt B18 15 (.iaload) 1 16 := ⟨by decide +kernel, rfl⟩
theorem d18_16 : DAt B18 16 (.ireturn) 1 17 := ⟨by decide +kernel, rfl⟩
def B19 : Bdy := ((⟨"WsClockPager", "touchedPages", "(I)I"⟩ : MethodName), prog_1_method_13_code, 2, (some .int), ({ frames := 1, cells := 0, slots := 0, locals := 13 } : Room))
theorem d19_0 : DAt B19 0 (.aload_n 0) 1 1 := ⟨by decide +kernel, rfl⟩
theorem d19_1 : DAt B19 1 (.iload_n 1) 1 2 := ⟨by decide +kernel, rfl⟩
theorem d19_2 : DAt B19 2 (.invokevirtual 111) 3 5 := ⟨by decide +kernel, rfl⟩
theorem d19_5 : DAt B19 5 (.ifCond .ne 5) 3 8 := ⟨by decide +kernel, rfl⟩
theorem d19_8 : DAt B19 8 (.iconst 0) 1 9 := ⟨by decide +kernel, rfl⟩
theorem d19_9 : DAt B19 9 (.ireturn) 1 10 := ⟨by decide +kernel, rfl⟩
theorem d19_10 : DAt B19 10 (.aload_n 0) 1 11 := ⟨by decide +kernel, rfl⟩
theorem d19_11 : DAt B19 11 (.getfield 26) 3 14 := ⟨by decide +kernel, rfl⟩
theorem d19_14 : DAt B19 14 (.iload_n 1) 1 15 := ⟨by decide +kernel, rfl⟩
theorem d19_15 : DAt B19 15 (.iaload) 1 16 := ⟨by decide +kernel, rfl⟩
theorem d19_16 : DAt B19 16 (.ireturn) 1 17 := ⟨by decide +kernel, rfl⟩
def B20 : Bdy := ((⟨"WsClockPager", "suspensions", "()I"⟩ : MethodName), prog_1_method_11_code, 1, (some .int), ({ frames := 0, cells := 0, slots := 0, locals := 0 } : Room))
theorem d20_0 : DAt B20 0 (.aload_n 0) 1 1 := ⟨by decide +kernel, rfl⟩
theorem d20_1 : DAt B20 1 (.getfield 85) 3 4 := ⟨by decide +kernel, rfl⟩
theorem d20_4 : DAt B20 4 (.ireturn) 1 5 := ⟨by decide +kernel, rfl⟩
def B0 : Bdy := (x, code, maxLocals, ret, room_1)
theorem d0_0 : DAt B0 0 (.new 7) 3 3 := ⟨at_0, rfl⟩
theorem d0_3 : DAt B0 3 (.dup) 1 4 := ⟨at_3, rfl⟩
theorem d0_4 : DAt B0 4 (.iconst 2) 1 5 := ⟨at_4, rfl⟩
theorem d0_5 : DAt B0 5 (.iconst 4) 1 6 := ⟨at_5, rfl⟩
theorem d0_6 : DAt B0 6 (.iconst 4) 1 7 := ⟨at_6, rfl⟩
theorem d0_7 : DAt B0 7 (.iconst 2) 1 8 := ⟨at_7, rfl⟩
theorem d0_8 : DAt B0 8 (.invokespecial 9) 3 11 := ⟨at_8, rfl⟩
theorem d0_11 : DAt B0 11 (.astore_n 3) 1 12 := ⟨at_11, rfl⟩
theorem d0_12 : DAt B0 12 (.iload_n 0) 1 13 := ⟨at_12, rfl⟩
theorem d0_13 : DAt B0 13 (.ifCond .lt 12) 3 16 := ⟨at_13, rfl⟩
theorem d0_16 : DAt B0 16 (.iload_n 0) 1 17 := ⟨at_16, rfl⟩
theorem d0_17 : DAt B0 17 (.iconst 2) 1 18 := ⟨at_17, rfl⟩
theorem d0_18 : DAt B0 18 (.if_icmp .ge 7) 3 21 := ⟨at_18, rfl⟩
theorem d0_21 : DAt B0 21 (.iconst 1) 1 22 := ⟨at_21, rfl⟩
theorem d0_22 : DAt B0 22 (.goto 4) 3 25 := ⟨at_22, rfl⟩
theorem d0_25 : DAt B0 25 (.iconst 0) 1 26 := ⟨at_25, rfl⟩
theorem d0_26 : DAt B0 26 (.istore 4) 2 28 := ⟨at_26, rfl⟩
theorem d0_28 : DAt B0 28 (.iload_n 1) 1 29 := ⟨at_28, rfl⟩
theorem d0_29 : DAt B0 29 (.ifCond .lt 13) 3 32 := ⟨at_29, rfl⟩
theorem d0_32 : DAt B0 32 (.iload_n 1) 1 33 := ⟨at_32, rfl⟩
theorem d0_33 : DAt B0 33 (.bipush 16) 2 35 := ⟨at_33, rfl⟩
theorem d0_35 : DAt B0 35 (.if_icmp .ge 7) 3 38 := ⟨at_35, rfl⟩
theorem d0_38 : DAt B0 38 (.iconst 1) 1 39 := ⟨at_38, rfl⟩
theorem d0_39 : DAt B0 39 (.goto 4) 3 42 := ⟨at_39, rfl⟩
theorem d0_42 : DAt B0 42 (.iconst 0) 1 43 := ⟨at_42, rfl⟩
theorem d0_43 : DAt B0 43 (.istore 5) 2 45 := ⟨at_43, rfl⟩
theorem d0_45 : DAt B0 45 (.iconst 0) 1 46 := ⟨at_45, rfl⟩
theorem d0_46 : DAt B0 46 (.istore 6) 2 48 := ⟨at_46, rfl⟩
theorem d0_48 : DAt B0 48 (.iload 4) 2 50 := ⟨at_48, rfl⟩
theorem d0_50 : DAt B0 50 (.ifCond .ne 9) 3 53 := ⟨at_50, rfl⟩
theorem d0_53 : DAt B0 53 (.iconst 1) 1 54 := ⟨at_53, rfl⟩
theorem d0_54 : DAt B0 54 (.istore 6) 2 56 := ⟨at_54, rfl⟩
theorem d0_56 : DAt B0 56 (.goto 11) 3 59 := ⟨at_56, rfl⟩
theorem d0_59 : DAt B0 59 (.iload 5) 2 61 := ⟨at_59, rfl⟩
theorem d0_61 : DAt B0 61 (.ifCond .ne 6) 3 64 := ⟨at_61, rfl⟩
theorem d0_64 : DAt B0 64 (.iconst 2) 1 65 := ⟨at_64, rfl⟩
theorem d0_65 : DAt B0 65 (.istore 6) 2 67 := ⟨at_65, rfl⟩
theorem d0_67 : DAt B0 67 (.iload 6) 2 69 := ⟨at_67, rfl⟩
theorem d0_69 : DAt B0 69 (.ifCond .ne 7) 3 72 := ⟨at_69, rfl⟩
theorem d0_72 : DAt B0 72 (.iconst 1) 1 73 := ⟨at_72, rfl⟩
theorem d0_73 : DAt B0 73 (.goto 4) 3 76 := ⟨at_73, rfl⟩
theorem d0_76 : DAt B0 76 (.iconst 0) 1 77 := ⟨at_76, rfl⟩
theorem d0_77 : DAt B0 77 (.istore 7) 2 79 := ⟨at_77, rfl⟩
theorem d0_79 : DAt B0 79 (.aload_n 3) 1 80 := ⟨at_79, rfl⟩
theorem d0_80 : DAt B0 80 (.iload_n 0) 1 81 := ⟨at_80, rfl⟩
theorem d0_81 : DAt B0 81 (.iload_n 1) 1 82 := ⟨at_81, rfl⟩
theorem d0_82 : DAt B0 82 (.iload_n 2) 1 83 := ⟨at_82, rfl⟩
theorem d0_83 : DAt B0 83 (.invokevirtual 12) 3 86 := ⟨at_83, rfl⟩
theorem d0_86 : DAt B0 86 (.iload 6) 2 88 := ⟨at_86, rfl⟩
theorem d0_88 : DAt B0 88 (.if_icmp .eq 5) 3 91 := ⟨at_88, rfl⟩
theorem d0_91 : DAt B0 91 (.iconst 0) 1 92 := ⟨at_91, rfl⟩
theorem d0_92 : DAt B0 92 (.ireturn) 1 93 := ⟨at_92, rfl⟩
theorem d0_93 : DAt B0 93 (.aload_n 3) 1 94 := ⟨at_93, rfl⟩
theorem d0_94 : DAt B0 94 (.invokevirtual 16) 3 97 := ⟨at_94, rfl⟩
theorem d0_97 : DAt B0 97 (.iload 6) 2 99 := ⟨at_97, rfl⟩
theorem d0_99 : DAt B0 99 (.if_icmp .eq 5) 3 102 := ⟨at_99, rfl⟩
theorem d0_102 : DAt B0 102 (.iconst 0) 1 103 := ⟨at_102, rfl⟩
theorem d0_103 : DAt B0 103 (.ireturn) 1 104 := ⟨at_103, rfl⟩
theorem d0_104 : DAt B0 104 (.aload_n 3) 1 105 := ⟨at_104, rfl⟩
theorem d0_105 : DAt B0 105 (.iload_n 0) 1 106 := ⟨at_105, rfl⟩
theorem d0_106 : DAt B0 106 (.invokevirtual 20) 3 109 := ⟨at_106, rfl⟩
theorem d0_109 : DAt B0 109 (.iload 7) 2 111 := ⟨at_109, rfl⟩
theorem d0_111 : DAt B0 111 (.ifCond .eq 7) 3 114 := ⟨at_111, rfl⟩
theorem d0_114 : DAt B0 114 (.iload_n 2) 1 115 := ⟨at_114, rfl⟩
theorem d0_115 : DAt B0 115 (.goto 4) 3 118 := ⟨at_115, rfl⟩
theorem d0_118 : DAt B0 118 (.iconst 0) 1 119 := ⟨at_118, rfl⟩
theorem d0_119 : DAt B0 119 (.if_icmp .eq 5) 3 122 := ⟨at_119, rfl⟩
theorem d0_122 : DAt B0 122 (.iconst 0) 1 123 := ⟨at_122, rfl⟩
theorem d0_123 : DAt B0 123 (.ireturn) 1 124 := ⟨at_123, rfl⟩
theorem d0_124 : DAt B0 124 (.aload_n 3) 1 125 := ⟨at_124, rfl⟩
theorem d0_125 : DAt B0 125 (.iload_n 0) 1 126 := ⟨at_125, rfl⟩
theorem d0_126 : DAt B0 126 (.iload_n 1) 1 127 := ⟨at_126, rfl⟩
theorem d0_127 : DAt B0 127 (.invokevirtual 24) 3 130 := ⟨at_127, rfl⟩
theorem d0_130 : DAt B0 130 (.lstore 8) 2 132 := ⟨at_130, rfl⟩
theorem d0_132 : DAt B0 132 (.lload 8) 2 134 := ⟨at_132, rfl⟩
theorem d0_134 : DAt B0 134 (.iload 7) 2 136 := ⟨at_134, rfl⟩
theorem d0_136 : DAt B0 136 (.ifCond .eq 8) 3 139 := ⟨at_136, rfl⟩
theorem d0_139 : DAt B0 139 (.iload_n 2) 1 140 := ⟨at_139, rfl⟩
theorem d0_140 : DAt B0 140 (.i2l) 1 141 := ⟨at_140, rfl⟩
theorem d0_141 : DAt B0 141 (.goto 6) 3 144 := ⟨at_141, rfl⟩
theorem d0_144 : DAt B0 144 (.ldc2_w 28) 3 147 := ⟨at_144, rfl⟩
theorem d0_147 : DAt B0 147 (.lcmp) 1 148 := ⟨at_147, rfl⟩
theorem d0_148 : DAt B0 148 (.ifCond .eq 5) 3 151 := ⟨at_148, rfl⟩
theorem d0_151 : DAt B0 151 (.iconst 0) 1 152 := ⟨at_151, rfl⟩
theorem d0_152 : DAt B0 152 (.ireturn) 1 153 := ⟨at_152, rfl⟩
theorem d0_153 : DAt B0 153 (.aload_n 3) 1 154 := ⟨at_153, rfl⟩
theorem d0_154 : DAt B0 154 (.iload_n 0) 1 155 := ⟨at_154, rfl⟩
theorem d0_155 : DAt B0 155 (.invokevirtual 30) 3 158 := ⟨at_155, rfl⟩
theorem d0_158 : DAt B0 158 (.iload 7) 2 160 := ⟨at_158, rfl⟩
theorem d0_160 : DAt B0 160 (.ifCond .eq 7) 3 163 := ⟨at_160, rfl⟩
theorem d0_163 : DAt B0 163 (.iconst 2) 1 164 := ⟨at_163, rfl⟩
theorem d0_164 : DAt B0 164 (.goto 4) 3 167 := ⟨at_164, rfl⟩
theorem d0_167 : DAt B0 167 (.iconst 0) 1 168 := ⟨at_167, rfl⟩
theorem d0_168 : DAt B0 168 (.if_icmp .eq 5) 3 171 := ⟨at_168, rfl⟩
theorem d0_171 : DAt B0 171 (.iconst 0) 1 172 := ⟨at_171, rfl⟩
theorem d0_172 : DAt B0 172 (.ireturn) 1 173 := ⟨at_172, rfl⟩
theorem d0_173 : DAt B0 173 (.aload_n 3) 1 174 := ⟨at_173, rfl⟩
theorem d0_174 : DAt B0 174 (.iload_n 0) 1 175 := ⟨at_174, rfl⟩
theorem d0_175 : DAt B0 175 (.invokevirtual 33) 3 178 := ⟨at_175, rfl⟩
theorem d0_178 : DAt B0 178 (.iload 7) 2 180 := ⟨at_178, rfl⟩
theorem d0_180 : DAt B0 180 (.ifCond .eq 7) 3 183 := ⟨at_180, rfl⟩
theorem d0_183 : DAt B0 183 (.iconst 1) 1 184 := ⟨at_183, rfl⟩
theorem d0_184 : DAt B0 184 (.goto 4) 3 187 := ⟨at_184, rfl⟩
theorem d0_187 : DAt B0 187 (.iconst 0) 1 188 := ⟨at_187, rfl⟩
theorem d0_188 : DAt B0 188 (.if_icmp .eq 5) 3 191 := ⟨at_188, rfl⟩
theorem d0_191 : DAt B0 191 (.iconst 0) 1 192 := ⟨at_191, rfl⟩
theorem d0_192 : DAt B0 192 (.ireturn) 1 193 := ⟨at_192, rfl⟩
theorem d0_193 : DAt B0 193 (.aload_n 3) 1 194 := ⟨at_193, rfl⟩
theorem d0_194 : DAt B0 194 (.iload_n 0) 1 195 := ⟨at_194, rfl⟩
theorem d0_195 : DAt B0 195 (.invokevirtual 36) 3 198 := ⟨at_195, rfl⟩
theorem d0_198 : DAt B0 198 (.iload 7) 2 200 := ⟨at_198, rfl⟩
theorem d0_200 : DAt B0 200 (.ifCond .eq 7) 3 203 := ⟨at_200, rfl⟩
theorem d0_203 : DAt B0 203 (.iconst 1) 1 204 := ⟨at_203, rfl⟩
theorem d0_204 : DAt B0 204 (.goto 4) 3 207 := ⟨at_204, rfl⟩
theorem d0_207 : DAt B0 207 (.iconst 0) 1 208 := ⟨at_207, rfl⟩
theorem d0_208 : DAt B0 208 (.if_icmp .eq 5) 3 211 := ⟨at_208, rfl⟩
theorem d0_211 : DAt B0 211 (.iconst 0) 1 212 := ⟨at_211, rfl⟩
theorem d0_212 : DAt B0 212 (.ireturn) 1 213 := ⟨at_212, rfl⟩
theorem d0_213 : DAt B0 213 (.aload_n 3) 1 214 := ⟨at_213, rfl⟩
theorem d0_214 : DAt B0 214 (.invokevirtual 39) 3 217 := ⟨at_214, rfl⟩
theorem d0_217 : DAt B0 217 (.iload 7) 2 219 := ⟨at_217, rfl⟩
theorem d0_219 : DAt B0 219 (.ifCond .eq 7) 3 222 := ⟨at_219, rfl⟩
theorem d0_222 : DAt B0 222 (.iconst 1) 1 223 := ⟨at_222, rfl⟩
theorem d0_223 : DAt B0 223 (.goto 4) 3 226 := ⟨at_223, rfl⟩
theorem d0_226 : DAt B0 226 (.iconst 0) 1 227 := ⟨at_226, rfl⟩
theorem d0_227 : DAt B0 227 (.if_icmp .eq 5) 3 230 := ⟨at_227, rfl⟩
theorem d0_230 : DAt B0 230 (.iconst 0) 1 231 := ⟨at_230, rfl⟩
theorem d0_231 : DAt B0 231 (.ireturn) 1 232 := ⟨at_231, rfl⟩
theorem d0_232 : DAt B0 232 (.aload_n 3) 1 233 := ⟨at_232, rfl⟩
theorem d0_233 : DAt B0 233 (.invokevirtual 42) 3 236 := ⟨at_233, rfl⟩
theorem d0_236 : DAt B0 236 (.ifCond .ne 7) 3 239 := ⟨at_236, rfl⟩
theorem d0_239 : DAt B0 239 (.iconst 1) 1 240 := ⟨at_239, rfl⟩
theorem d0_240 : DAt B0 240 (.goto 4) 3 243 := ⟨at_240, rfl⟩
theorem d0_243 : DAt B0 243 (.iconst 0) 1 244 := ⟨at_243, rfl⟩
theorem d0_244 : DAt B0 244 (.ireturn) 1 245 := ⟨at_244, rfl⟩
theorem ar1 : arity B1 4 := ⟨[.int, .int, .int, .int], none, by decide +kernel, rfl⟩
theorem ar2 : arity B2 3 := ⟨[.int, .int, .int], some .int, by decide +kernel, rfl⟩
theorem ar3 : arity B3 3 := ⟨[.int, .int, .int], some .int, by decide +kernel, rfl⟩
theorem ar4 : arity B4 2 := ⟨[.int, .int], some .int, by decide +kernel, rfl⟩
theorem ar5 : arity B5 1 := ⟨[.int], some .boolean, by decide +kernel, rfl⟩
theorem ar6 : arity B6 2 := ⟨[.int, .int], some .int, by decide +kernel, rfl⟩
theorem ar7 : arity B7 0 := ⟨[], some .int, by decide +kernel, rfl⟩
theorem ar8 : arity B8 2 := ⟨[.int, .int], none, by decide +kernel, rfl⟩
theorem ar9 : arity B9 2 := ⟨[.int, .int], none, by decide +kernel, rfl⟩
theorem ar10 : arity B10 2 := ⟨[.int, .int], none, by decide +kernel, rfl⟩
theorem ar11 : arity B11 1 := ⟨[.int], none, by decide +kernel, rfl⟩
theorem ar12 : arity B12 0 := ⟨[], some .int, by decide +kernel, rfl⟩
theorem ar13 : arity B13 0 := ⟨[], some .int, by decide +kernel, rfl⟩
theorem ar14 : arity B14 1 := ⟨[.int], some .int, by decide +kernel, rfl⟩
theorem ar15 : arity B15 2 := ⟨[.int, .int], some .int, by decide +kernel, rfl⟩
theorem ar16 : arity B16 2 := ⟨[.int, .int], some .long, by decide +kernel, rfl⟩
theorem ar17 : arity B17 1 := ⟨[.int], some .int, by decide +kernel, rfl⟩
theorem ar18 : arity B18 1 := ⟨[.int], some .int, by decide +kernel, rfl⟩
theorem ar19 : arity B19 1 := ⟨[.int], some .int, by decide +kernel, rfl⟩
theorem ar20 : arity B20 0 := ⟨[], some .int, by decide +kernel, rfl⟩
theorem cw1 : code_w B1 := ⟨mem1 5 rfl, mem1 2 rfl, by decide⟩
theorem cw2 : code_w B2 := ⟨mem1 50 rfl, mem1 2 rfl, by decide⟩
theorem cw3 : code_w B3 := ⟨mem1 71 rfl, mem1 2 rfl, by decide⟩
theorem cw4 : code_w B4 := ⟨mem1 75 rfl, mem1 2 rfl, by decide⟩
theorem cw5 : code_w B5 := ⟨mem1 79 rfl, mem1 2 rfl, by decide⟩
theorem cw6 : code_w B6 := ⟨mem1 83 rfl, mem1 2 rfl, by decide⟩
theorem cw7 : code_w B7 := ⟨mem1 87 rfl, mem1 2 rfl, by decide⟩
theorem cw8 : code_w B8 := ⟨mem1 91 rfl, mem1 2 rfl, by decide⟩
theorem cw9 : code_w B9 := ⟨mem1 95 rfl, mem1 2 rfl, by decide⟩
theorem cw10 : code_w B10 := ⟨mem1 99 rfl, mem1 2 rfl, by decide⟩
theorem cw11 : code_w B11 := ⟨mem1 103 rfl, mem1 2 rfl, by decide⟩
theorem cw12 : code_w B12 := ⟨mem1 108 rfl, mem1 2 rfl, by decide⟩
theorem cw13 : code_w B13 := ⟨mem1 113 rfl, mem1 2 rfl, by decide⟩
theorem cw14 : code_w B14 := ⟨mem1 118 rfl, mem1 2 rfl, by decide⟩
theorem cw15 : code_w B15 := ⟨mem1 122 rfl, mem1 2 rfl, by decide⟩
theorem cw16 : code_w B16 := ⟨mem1 127 rfl, mem1 2 rfl, by decide⟩
theorem cw17 : code_w B17 := ⟨mem1 132 rfl, mem1 2 rfl, by decide⟩
theorem cw18 : code_w B18 := ⟨mem1 137 rfl, mem1 2 rfl, by decide⟩
theorem cw19 : code_w B19 := ⟨mem1 142 rfl, mem1 2 rfl, by decide⟩
theorem cw20 : code_w B20 := ⟨mem1 148 rfl, mem1 2 rfl, by decide⟩
theorem rk0_3_0 : room_ok B0 B3 0 := by decide
theorem rk0_12_0 : room_ok B0 B12 0 := by decide
theorem rk0_13_0 : room_ok B0 B13 0 := by decide
theorem rk0_14_0 : room_ok B0 B14 0 := by decide
theorem rk0_16_0 : room_ok B0 B16 0 := by decide
theorem rk0_17_0 : room_ok B0 B17 0 := by decide
theorem rk0_18_0 : room_ok B0 B18 0 := by decide
theorem rk0_19_0 : room_ok B0 B19 0 := by decide
theorem rk0_20_0 : room_ok B0 B20 0 := by decide
theorem rk1_2_1 : room_ok B1 B2 1 := by decide
theorem rk3_4_0 : room_ok B3 B4 0 := by decide
theorem rk3_6_0 : room_ok B3 B6 0 := by decide
theorem rk3_9_0 : room_ok B3 B9 0 := by decide
theorem rk3_11_0 : room_ok B3 B11 0 := by decide
theorem rk4_5_0 : room_ok B4 B5 0 := by decide
theorem rk6_7_0 : room_ok B6 B7 0 := by decide
theorem rk6_8_0 : room_ok B6 B8 0 := by decide
theorem rk9_10_0 : room_ok B9 B10 0 := by decide
theorem rk11_12_0 : room_ok B11 B12 0 := by decide
theorem rk14_5_0 : room_ok B14 B5 0 := by decide
theorem rk14_15_1 : room_ok B14 B15 1 := by decide
theorem rk16_4_0 : room_ok B16 B4 0 := by decide
theorem rk16_6_0 : room_ok B16 B6 0 := by decide
theorem rk16_9_0 : room_ok B16 B9 0 := by decide
theorem rk16_11_0 : room_ok B16 B11 0 := by decide
theorem rk17_5_0 : room_ok B17 B5 0 := by decide
theorem rk18_5_0 : room_ok B18 B5 0 := by decide
theorem rk19_5_0 : room_ok B19 B5 0 := by decide
def X_clamp (ob : Rec) (i1 : Int32) (i2 : Int32) (i3 : Int32) : Option (Int32) :=
  if i1 < i2 then
    some i2
  else
    if i3 < i1 then
      some i3
    else
      some i1
set_option maxRecDepth 65536 in
set_option maxHeartbeats 4000000 in
theorem X_clamp_p {C : Ctx} {top : Nat} {a : Nat} {H : List (Nat × Nat × Rec)} {ob : Rec} {res : Int32} (i1 : Int32) (i2 : Int32) (i3 : Int32) (hf : X_clamp ob i1 i2 i3 = some res) : Runs C B2 0 0 0 [vr a, vi i1, vi i2, vi i3] [] (top, (a, 18, ob) :: H) (Ans (some (.int res)) (top, (a, 18, ob) :: H)) := by
  delta X_clamp at hf
  refine Runs.iloadN d2_0 rfl <| Runs.iloadN d2_1 rfl <| ?_
  refine ite_el hf (fun hc1 hf => ?_) (fun hc1 hf => ?_)
  · refine Runs.icN d2_2 (tlt hc1).2.1 <| ?_
    obtain rfl := Option.some.inj hf
    exact Runs.iloadN d2_5 rfl <| Runs.retI d2_6 rfl ⟨by decide, by decide⟩ ⟨rfl, rfl⟩
  · refine Runs.icY (pc' := 7) d2_2 (flt hc1).2.1 (by decide) <| ?_
    refine Runs.iloadN d2_7 rfl <| Runs.iloadN d2_8 rfl <| ?_
    refine ite_el hf (fun hc2 hf => ?_) (fun hc2 hf => ?_)
    · refine Runs.icN d2_9 (tlt hc2).2.2.2 <| ?_
      obtain rfl := Option.some.inj hf
      exact Runs.iloadN d2_12 rfl <| Runs.retI d2_13 rfl ⟨by decide, by decide⟩ ⟨rfl, rfl⟩
    · refine Runs.icY (pc' := 14) d2_9 (flt hc2).2.2.2 (by decide) <| ?_
      obtain rfl := Option.some.inj hf
      exact Runs.iloadN d2_14 rfl <| Runs.retI d2_15 rfl ⟨by decide, by decide⟩ ⟨rfl, rfl⟩
theorem X_clamp_pay {C : Ctx} {top : Nat} {a : Nat} {H : List (Nat × Nat × Rec)} {ob : Rec} {res : Int32} {i1 : Int32} {i2 : Int32} {i3 : Int32} (hf : X_clamp ob i1 i2 i3 = some res) : Pays C B2 [.ref a, .int i1, .int i2, .int i3] (top, (a, 18, ob) :: H) (Ans (some (.int res)) (top, (a, 18, ob) :: H)) :=
  Pays.of pnK (Nat.le_of_ble_eq_true rfl) (P := [vr a, vi i1, vi i2, vi i3]) 0 rfl (X_clamp_p i1 i2 i3 hf)
def X_init_w247 (NF : Nat) (k247 : Rec → Int32 → Option (Rec)) (ob : Rec) (i5 : Int32) : Option (Rec) :=
  if i5 < (32 : Int32) then
    chk (32 : Int32) i5 <|
    k247 (sA ob 12 i5 (-1 : Int32)) (i5 + (1 : Int32))
  else
    some ob
def X_init_l247 (NF : Nat) : Nat → Rec → Int32 → Option (Rec)
  | 0, _, _ => none
  | n + 1, ob, i5 => X_init_w247 NF (X_init_l247 NF n) ob i5
set_option maxRecDepth 65536 in
set_option maxHeartbeats 4000000 in
theorem X_init_w247_p {C : Ctx} {a : Nat} {H : List (Nat × Nat × Rec)} {res : Rec} {NF : Nat} (k247 : Rec → Int32 → Option (Rec)) (hk247 : ∀ (ob : Rec) (i5 : Int32), k247 ob i5 = some res → Runs C B1 18 952 247 [vr a, vn, vn, vn, vn, vi i5] [] (a + 1 + 18, (a, 18, ob) :: H) (Ans none (a + 1 + 18, (a, 18, res) :: H))) (ob : Rec) (i5 : Int32) (hf : X_init_w247 NF k247 ob i5 = some res) : Runs C B1 18 952 247 [vr a, vn, vn, vn, vn, vi i5] [] (a + 1 + 18, (a, 18, ob) :: H) (Ans none (a + 1 + 18, (a, 18, res) :: H)) := by
  delta X_init_w247 at hf
  refine Runs.iload d1_247 rfl <| Runs.bipush d1_249 cb_32 <| ?_
  refine ite_el hf (fun hc4 hf => ?_) (fun hc4 hf => ?_)
  · refine Runs.icN d1_251 (tlt hc4).2.1 <| ?_
    refine Runs.aloadN d1_254 rfl <| Runs.getA d1_255 fA_12 w35 (by decide) <| Runs.iload d1_258 rfl <| Runs.iconst d1_260 ci_m1 <| ?_
    refine chk_el hf fun hi5 hf => ?_
    exact Runs.iastoreA d1_261 fA_12 (by decide) hi5 <| Runs.iinc (P' := [vr a, vn, vn, vn, vn, vi (i5 + (1 : Int32))]) d1_262 ci_1 rfl (by decide) rfl <| Runs.goto (pc' := 247) d1_265 (by decide) <| hk247 (sA ob 12 i5 (-1 : Int32)) (i5 + (1 : Int32)) hf
  · refine Runs.icY (pc' := 268) d1_251 (flt hc4).2.1 (by decide) <| ?_
    obtain rfl := Option.some.inj hf
    exact Runs.retV d1_268 rfl ⟨by decide, by decide⟩ ⟨rfl, rfl⟩
theorem X_init_l247_p {C : Ctx} {a : Nat} {H : List (Nat × Nat × Rec)} {res : Rec} {NF : Nat} (n : Nat) (ob : Rec) (i5 : Int32) (hf : X_init_l247 NF n ob i5 = some res) : Runs C B1 18 952 247 [vr a, vn, vn, vn, vn, vi i5] [] (a + 1 + 18, (a, 18, ob) :: H) (Ans none (a + 1 + 18, (a, 18, res) :: H)) := by
  induction n generalizing ob i5 with
  | zero => cases (show (none : Option (Rec)) = some res from hf)
  | succ n ih => exact X_init_w247_p (X_init_l247 NF n) (fun ob i5 h => ih _ _ h) ob i5 hf
def X_init_w215 (NF : Nat) (k215 : Rec → Int32 → Option (Rec)) (ob : Rec) (i5 : Int32) : Option (Rec) :=
  if i5 < (64 : Int32) then
    chk (64 : Int32) i5 <|
    chk (64 : Int32) i5 <|
    k215 (sA (sA ob 9 i5 (-1 : Int32)) 10 i5 (-1 : Int32)) (i5 + (1 : Int32))
  else
    X_init_l247 NF NF ob (0 : Int32)
def X_init_l215 (NF : Nat) : Nat → Rec → Int32 → Option (Rec)
  | 0, _, _ => none
  | n + 1, ob, i5 => X_init_w215 NF (X_init_l215 NF n) ob i5
set_option maxRecDepth 65536 in
set_option maxHeartbeats 4000000 in
theorem X_init_w215_p {C : Ctx} {a : Nat} {H : List (Nat × Nat × Rec)} {res : Rec} {NF : Nat} (k215 : Rec → Int32 → Option (Rec)) (hk215 : ∀ (ob : Rec) (i5 : Int32), k215 ob i5 = some res → Runs C B1 18 952 215 [vr a, vn, vn, vn, vn, vi i5] [] (a + 1 + 18, (a, 18, ob) :: H) (Ans none (a + 1 + 18, (a, 18, res) :: H))) (ob : Rec) (i5 : Int32) (hf : X_init_w215 NF k215 ob i5 = some res) : Runs C B1 18 952 215 [vr a, vn, vn, vn, vn, vi i5] [] (a + 1 + 18, (a, 18, ob) :: H) (Ans none (a + 1 + 18, (a, 18, res) :: H)) := by
  delta X_init_w215 at hf
  refine Runs.iload d1_215 rfl <| Runs.bipush d1_217 cb_64 <| ?_
  refine ite_el hf (fun hc1 hf => ?_) (fun hc1 hf => ?_)
  · refine Runs.icN d1_219 (tlt hc1).2.1 <| ?_
    refine Runs.aloadN d1_222 rfl <| Runs.getA d1_223 fA_9 w29 (by decide) <| Runs.iload d1_226 rfl <| Runs.iconst d1_228 ci_m1 <| ?_
    refine chk_el hf fun hi2 hf => ?_
    refine Runs.iastoreA d1_229 fA_9 (by decide) hi2 <| Runs.aloadN d1_230 rfl <| Runs.getA d1_231 fA_10 w31 (by decide) <| Runs.iload d1_234 rfl <| Runs.iconst d1_236 ci_m1 <| ?_
    refine chk_el hf fun hi3 hf => ?_
    exact Runs.iastoreA d1_237 fA_10 (by decide) hi3 <| Runs.iinc (P' := [vr a, vn, vn, vn, vn, vi (i5 + (1 : Int32))]) d1_238 ci_1 rfl (by decide) rfl <| Runs.goto (pc' := 215) d1_241 (by decide) <| hk215 (sA (sA ob 9 i5 (-1 : Int32)) 10 i5 (-1 : Int32)) (i5 + (1 : Int32)) hf
  · refine Runs.icY (pc' := 244) d1_219 (flt hc1).2.1 (by decide) <| ?_
    exact Runs.iconst d1_244 ci_0 <| Runs.istore (P' := [vr a, vn, vn, vn, vn, vi (0 : Int32)]) d1_245 (by decide) rfl <| X_init_l247_p NF ob (0 : Int32) hf
theorem X_init_l215_p {C : Ctx} {a : Nat} {H : List (Nat × Nat × Rec)} {res : Rec} {NF : Nat} (n : Nat) (ob : Rec) (i5 : Int32) (hf : X_init_l215 NF n ob i5 = some res) : Runs C B1 18 952 215 [vr a, vn, vn, vn, vn, vi i5] [] (a + 1 + 18, (a, 18, ob) :: H) (Ans none (a + 1 + 18, (a, 18, res) :: H)) := by
  induction n generalizing ob i5 with
  | zero => cases (show (none : Option (Rec)) = some res from hf)
  | succ n ih => exact X_init_w215_p (X_init_l215 NF n) (fun ob i5 h => ih _ _ h) ob i5 hf
def X_init (NF : Nat) (i1 : Int32) (i2 : Int32) (i3 : Int32) (i4 : Int32) : Option (Rec) :=
  (X_clamp zrec i1 (1 : Int32) (4 : Int32)).bind fun r6 =>
  (X_clamp (sI zrec 0 r6) i2 (4 : Int32) (16 : Int32)).bind fun r8 =>
  (X_clamp (sI (sI zrec 0 r6) 1 r8) i3 (4 : Int32) (32 : Int32)).bind fun r10 =>
  (X_clamp (sI (sI (sI zrec 0 r6) 1 r8) 2 r10) i4 (1 : Int32) (16 : Int32)).bind fun r12 =>
  X_init_l215 NF NF (sI (sI (sI (sI (sI (sI (sI (sI zrec 0 r6) 1 r8) 2 r10) 3 r12) 4 (0 : Int32)) 5 (0 : Int32)) 6 (0 : Int32)) 7 (0 : Int32)) (0 : Int32)
set_option maxRecDepth 65536 in
set_option maxHeartbeats 4000000 in
theorem X_init_p {C : Ctx} {a : Nat} {H : List (Nat × Nat × Rec)} {res : Rec} {NF : Nat} (i1 : Int32) (i2 : Int32) (i3 : Int32) (i4 : Int32) (hf : X_init NF i1 i2 i3 i4 = some res) : Runs C B1 0 0 0 [vr a, vi i1, vi i2, vi i3, vi i4, vn] [] (a + 1, (a, 0, zrec) :: H) (Ans none (a + 1 + 18, (a, 18, res) :: H)) := by
  delta X_init at hf
  refine Runs.aloadN d1_0 rfl <| Runs.initO (W := 0) d1_1 w6 w7 w8 rfl (by decide) <| Runs.aloadN d1_4 rfl <| Runs.iconst d1_5 ci_4 <| Runs.newArr (j' := 1) (top' := a + 1 + 1) (k' := 1) (n' := 4) d1_6 d1_8 fA_0 w10 rfl w9 (Or.inl w11) rfl (by decide) ⟨by decide, by decide⟩ ⟨fun _ => rfl, fun _ => rfl⟩ rfl rfl rfl (by decide) <| Runs.aloadN d1_11 rfl <| Runs.iconst d1_12 ci_4 <| Runs.newArr (j' := 2) (top' := a + 1 + 2) (k' := 2) (n' := 8) d1_13 d1_15 fA_1 w13 rfl w12 (Or.inl w14) rfl (by decide) ⟨by decide, by decide⟩ ⟨fun _ => rfl, fun _ => rfl⟩ rfl rfl rfl (by decide) <| Runs.aloadN d1_18 rfl <| Runs.iconst d1_19 ci_4 <| Runs.newArr (j' := 3) (top' := a + 1 + 3) (k' := 3) (n' := 12) d1_20 d1_22 fA_2 w15 rfl w12 (Or.inl w16) rfl (by decide) ⟨by decide, by decide⟩ ⟨fun _ => rfl, fun _ => rfl⟩ rfl rfl rfl (by decide) <| Runs.aloadN d1_25 rfl <| ?_
  refine Runs.iconst d1_26 ci_4 <| Runs.newArr (j' := 4) (top' := a + 1 + 4) (k' := 4) (n' := 16) d1_27 d1_29 fA_3 w17 rfl w12 (Or.inl w18) rfl (by decide) ⟨by decide, by decide⟩ ⟨fun _ => rfl, fun _ => rfl⟩ rfl rfl rfl (by decide) <| Runs.aloadN d1_32 rfl <| Runs.iconst d1_33 ci_4 <| Runs.newArr (j' := 5) (top' := a + 1 + 5) (k' := 5) (n' := 20) d1_34 d1_36 fA_4 w19 rfl w12 (Or.inl w20) rfl (by decide) ⟨by decide, by decide⟩ ⟨fun _ => rfl, fun _ => rfl⟩ rfl rfl rfl (by decide) <| Runs.aloadN d1_39 rfl <| Runs.iconst d1_40 ci_4 <| Runs.newArr (j' := 6) (top' := a + 1 + 6) (k' := 6) (n' := 24) d1_41 d1_43 fA_5 w21 rfl w12 (Or.inl w22) rfl (by decide) ⟨by decide, by decide⟩ ⟨fun _ => rfl, fun _ => rfl⟩ rfl rfl rfl (by decide) <| Runs.aloadN d1_46 rfl <| Runs.bipush d1_47 cb_64 <| Runs.newArr (j' := 7) (top' := a + 1 + 7) (k' := 7) (n' := 88) d1_49 d1_51 fA_6 w23 rfl w12 (Or.inl w24) rfl (by decide) ⟨by decide, by decide⟩ ⟨fun _ => rfl, fun _ => rfl⟩ rfl rfl rfl (by decide) <| Runs.aloadN d1_54 rfl <| ?_
  refine Runs.bipush d1_55 cb_64 <| Runs.newArr (j' := 8) (top' := a + 1 + 8) (k' := 8) (n' := 152) d1_57 d1_59 fA_7 w25 rfl w12 (Or.inl w26) rfl (by decide) ⟨by decide, by decide⟩ ⟨fun _ => rfl, fun _ => rfl⟩ rfl rfl rfl (by decide) <| Runs.aloadN d1_62 rfl <| Runs.bipush d1_63 cb_64 <| Runs.newArr (j' := 9) (top' := a + 1 + 9) (k' := 9) (n' := 216) d1_65 d1_67 fA_8 w27 rfl w9 (Or.inl w28) rfl (by decide) ⟨by decide, by decide⟩ ⟨fun _ => rfl, fun _ => rfl⟩ rfl rfl rfl (by decide) <| Runs.aloadN d1_70 rfl <| Runs.bipush d1_71 cb_64 <| Runs.newArr (j' := 10) (top' := a + 1 + 10) (k' := 10) (n' := 280) d1_73 d1_75 fA_9 w29 rfl w12 (Or.inl w30) rfl (by decide) ⟨by decide, by decide⟩ ⟨fun _ => rfl, fun _ => rfl⟩ rfl rfl rfl (by decide) <| Runs.aloadN d1_78 rfl <| Runs.bipush d1_79 cb_64 <| Runs.newArr (j' := 11) (top' := a + 1 + 11) (k' := 11) (n' := 344) d1_81 d1_83 fA_10 w31 rfl w12 (Or.inl w32) rfl (by decide) ⟨by decide, by decide⟩ ⟨fun _ => rfl, fun _ => rfl⟩ rfl rfl rfl (by decide) <| Runs.aloadN d1_86 rfl <| ?_
  refine Runs.bipush d1_87 cb_64 <| Runs.newArr (j' := 12) (top' := a + 1 + 12) (k' := 12) (n' := 408) d1_89 d1_91 fA_11 w33 rfl w12 (Or.inl w34) rfl (by decide) ⟨by decide, by decide⟩ ⟨fun _ => rfl, fun _ => rfl⟩ rfl rfl rfl (by decide) <| Runs.aloadN d1_94 rfl <| Runs.bipush d1_95 cb_32 <| Runs.newArr (j' := 13) (top' := a + 1 + 13) (k' := 13) (n' := 440) d1_97 d1_99 fA_12 w35 rfl w12 (Or.inl w36) rfl (by decide) ⟨by decide, by decide⟩ ⟨fun _ => rfl, fun _ => rfl⟩ rfl rfl rfl (by decide) <| Runs.aloadN d1_102 rfl <| Runs.bipush d1_103 cb_32 <| Runs.newArr (j' := 14) (top' := a + 1 + 14) (k' := 14) (n' := 472) d1_105 d1_107 fA_13 w37 rfl w9 (Or.inl w38) rfl (by decide) ⟨by decide, by decide⟩ ⟨fun _ => rfl, fun _ => rfl⟩ rfl rfl rfl (by decide) <| Runs.aloadN d1_110 rfl <| Runs.bipush d1_111 cb_32 <| Runs.newArr (j' := 15) (top' := a + 1 + 15) (k' := 15) (n' := 504) d1_113 d1_115 fA_14 w39 rfl w9 (Or.inl w40) rfl (by decide) ⟨by decide, by decide⟩ ⟨fun _ => rfl, fun _ => rfl⟩ rfl rfl rfl (by decide) <| Runs.aloadN d1_118 rfl <| ?_
  refine Runs.sipush d1_119 cs_128 <| Runs.newArr (j' := 16) (top' := a + 1 + 16) (k' := 16) (n' := 632) d1_122 d1_124 fA_15 w41 rfl w12 (Or.inl w42) rfl (by decide) ⟨by decide, by decide⟩ ⟨fun _ => rfl, fun _ => rfl⟩ rfl rfl rfl (by decide) <| Runs.aloadN d1_127 rfl <| Runs.bipush d1_128 cb_64 <| Runs.newArr (j' := 17) (top' := a + 1 + 17) (k' := 17) (n' := 696) d1_130 d1_132 fA_16 w43 rfl w9 (Or.inl w44) rfl (by decide) ⟨by decide, by decide⟩ ⟨fun _ => rfl, fun _ => rfl⟩ rfl rfl rfl (by decide) <| Runs.aloadN d1_135 rfl <| Runs.sipush d1_136 cs_256 <| Runs.newArr (j' := 18) (top' := a + 1 + 18) (k' := 18) (n' := 952) d1_139 d1_141 fA_17 w45 rfl w12 (Or.inl w46) rfl (by decide) ⟨by decide, by decide⟩ ⟨fun _ => rfl, fun _ => rfl⟩ rfl rfl rfl (by decide) <| Runs.aloadN d1_144 rfl <| Runs.aloadN d1_145 rfl <| Runs.iloadN d1_146 rfl <| Runs.iconst d1_147 ci_1 <| ?_
  refine Runs.iconst d1_148 ci_4 <| ?_
  refine bind_el hf fun r6 hg7 hf => ?_
  refine Runs.callP (N := B2) (W := 1) (as := [.int i1, .int (1 : Int32), .int (4 : Int32)]) (S' := [.ref a]) d1_149 w47 w48 w49 rfl cw2 ar2 rk1_2_1 (by decide) rfl rfl (X_clamp_pay hg7) <| ans1 <| Runs.putI d1_152 w51 fS_0 (Or.inl w52) <| Runs.aloadN d1_155 rfl <| Runs.aloadN d1_156 rfl <| Runs.iloadN d1_157 rfl <| Runs.iconst d1_158 ci_4 <| Runs.bipush d1_159 cb_16 <| ?_
  refine bind_el hf fun r8 hg9 hf => ?_
  refine Runs.callP (N := B2) (W := 1) (as := [.int i2, .int (4 : Int32), .int (16 : Int32)]) (S' := [.ref a]) d1_161 w47 w48 w49 rfl cw2 ar2 rk1_2_1 (by decide) rfl rfl (X_clamp_pay hg9) <| ans1 <| Runs.putI d1_164 w53 fS_1 (Or.inl w54) <| Runs.aloadN d1_167 rfl <| Runs.aloadN d1_168 rfl <| Runs.iloadN d1_169 rfl <| Runs.iconst d1_170 ci_4 <| Runs.bipush d1_171 cb_32 <| ?_
  refine bind_el hf fun r10 hg11 hf => ?_
  refine Runs.callP (N := B2) (W := 1) (as := [.int i3, .int (4 : Int32), .int (32 : Int32)]) (S' := [.ref a]) d1_173 w47 w48 w49 rfl cw2 ar2 rk1_2_1 (by decide) rfl rfl (X_clamp_pay hg11) <| ans1 <| Runs.putI d1_176 w55 fS_2 (Or.inl w56) <| Runs.aloadN d1_179 rfl <| Runs.aloadN d1_180 rfl <| Runs.iload d1_181 rfl <| Runs.iconst d1_183 ci_1 <| Runs.bipush d1_184 cb_16 <| ?_
  refine bind_el hf fun r12 hg13 hf => ?_
  refine Runs.callP (N := B2) (W := 1) (as := [.int i4, .int (1 : Int32), .int (16 : Int32)]) (S' := [.ref a]) d1_186 w47 w48 w49 rfl cw2 ar2 rk1_2_1 (by decide) rfl rfl (X_clamp_pay hg13) <| ans1 <| Runs.putI d1_189 w57 fS_3 (Or.inl w58) <| Runs.aloadN d1_192 rfl <| Runs.iconst d1_193 ci_0 <| Runs.putI d1_194 w59 fS_4 (Or.inl w60) <| Runs.aloadN d1_197 rfl <| Runs.iconst d1_198 ci_0 <| Runs.putI d1_199 w61 fS_5 (Or.inl w62) <| Runs.aloadN d1_202 rfl <| Runs.iconst d1_203 ci_0 <| Runs.putI d1_204 w63 fS_6 (Or.inl w64) <| Runs.aloadN d1_207 rfl <| ?_
  exact Runs.iconst d1_208 ci_0 <| Runs.putI d1_209 w65 fS_7 (Or.inl w66) <| Runs.iconst d1_212 ci_0 <| Runs.istore (P' := [vr a, vi i1, vi i2, vi i3, vi i4, vi (0 : Int32)]) d1_213 (by decide) rfl <| Runs.forget [true, false, false, false, false, true] rfl <| X_init_l215_p NF (sI (sI (sI (sI (sI (sI (sI (sI zrec 0 r6) 1 r8) 2 r10) 3 r12) 4 (0 : Int32)) 5 (0 : Int32)) 6 (0 : Int32)) 7 (0 : Int32)) (0 : Int32) hf
theorem X_init_pay {C : Ctx} {a : Nat} {H : List (Nat × Nat × Rec)} {res : Rec} {NF : Nat} {i1 : Int32} {i2 : Int32} {i3 : Int32} {i4 : Int32} (hf : X_init NF i1 i2 i3 i4 = some res) : Pays C B1 [.ref a, .int i1, .int i2, .int i3, .int i4] (a + 1, (a, 0, zrec) :: H) (Ans none (a + 1 + 18, (a, 18, res) :: H)) :=
  Pays.of pnK (Nat.le_of_ble_eq_true rfl) (P := [vr a, vi i1, vi i2, vi i3, vi i4, vn]) 1 rfl (X_init_p i1 i2 i3 i4 hf)
def X_validPid (ob : Rec) (i1 : Int32) : Option (Int32) :=
  if i1 < (0 : Int32) then
    some (0 : Int32)
  else
    if i1 < (gI ob 0) then
      some (1 : Int32)
    else
      some (0 : Int32)
set_option maxRecDepth 65536 in
set_option maxHeartbeats 4000000 in
theorem X_validPid_p {C : Ctx} {top : Nat} {a : Nat} {H : List (Nat × Nat × Rec)} {ob : Rec} {res : Int32} (i1 : Int32) (hf : X_validPid ob i1 = some res) : Runs C B5 0 0 0 [vr a, vi i1] [] (top, (a, 18, ob) :: H) (Ans (some (.int res)) (top, (a, 18, ob) :: H)) := by
  delta X_validPid at hf
  refine Runs.iloadN d5_0 rfl <| ?_
  refine ite_el hf (fun hc1 hf => ?_) (fun hc1 hf => ?_)
  · refine Runs.ifY (pc' := 16) d5_1 (tlt hc1).1 (by decide) <| ?_
    obtain rfl := Option.some.inj hf
    exact Runs.iconst d5_16 ci_0 <| Runs.retZ (y := (0 : Int32)) d5_17 rfl ⟨by decide, by decide⟩ rfl ⟨rfl, rfl⟩
  · refine Runs.ifN d5_1 (flt hc1).1 <| ?_
    refine Runs.iloadN d5_4 rfl <| Runs.aloadN d5_5 rfl <| Runs.getI d5_6 w51 fS_0 <| ?_
    refine ite_el hf (fun hc2 hf => ?_) (fun hc2 hf => ?_)
    · refine Runs.icN d5_9 (tlt hc2).2.1 <| ?_
      obtain rfl := Option.some.inj hf
      exact Runs.iconst d5_12 ci_1 <| Runs.goto (pc' := 17) d5_13 (by decide) <| Runs.retZ (y := (1 : Int32)) d5_17 rfl ⟨by decide, by decide⟩ rfl ⟨rfl, rfl⟩
    · refine Runs.icY (pc' := 16) d5_9 (flt hc2).2.1 (by decide) <| ?_
      obtain rfl := Option.some.inj hf
      exact Runs.iconst d5_16 ci_0 <| Runs.retZ (y := (0 : Int32)) d5_17 rfl ⟨by decide, by decide⟩ rfl ⟨rfl, rfl⟩
theorem X_validPid_pay {C : Ctx} {top : Nat} {a : Nat} {H : List (Nat × Nat × Rec)} {ob : Rec} {res : Int32} {i1 : Int32} (hf : X_validPid ob i1 = some res) : Pays C B5 [.ref a, .int i1] (top, (a, 18, ob) :: H) (Ans (some (.int res)) (top, (a, 18, ob) :: H)) :=
  Pays.of pnK (Nat.le_of_ble_eq_true rfl) (P := [vr a, vi i1]) 0 rfl (X_validPid_p i1 hf)
def X_check (ob : Rec) (i1 : Int32) (i2 : Int32) : Option (Int32) :=
  (X_validPid ob i1).bind fun r1 =>
  if r1 = (0 : Int32) then
    some (1 : Int32)
  else
    if i2 < (0 : Int32) then
      some (2 : Int32)
    else
      if i2 < ((gI ob 1) * (4 : Int32)) then
        chk (4 : Int32) i1 <|
        if (gA ob 0 i1) = (0 : Int32) then
          some (0 : Int32)
        else
          some (3 : Int32)
      else
        some (2 : Int32)
set_option maxRecDepth 65536 in
set_option maxHeartbeats 4000000 in
theorem X_check_p {C : Ctx} {top : Nat} {a : Nat} {H : List (Nat × Nat × Rec)} {ob : Rec} {res : Int32} (i1 : Int32) (i2 : Int32) (hf : X_check ob i1 i2 = some res) : Runs C B4 0 0 0 [vr a, vi i1, vi i2] [] (top, (a, 18, ob) :: H) (Ans (some (.int res)) (top, (a, 18, ob) :: H)) := by
  delta X_check at hf
  refine Runs.aloadN d4_0 rfl <| Runs.iloadN d4_1 rfl <| ?_
  refine bind_el hf fun r1 hg2 hf => ?_
  refine Runs.callP (N := B5) (W := 0) (as := [.int i1]) (S' := []) d4_2 w76 w77 w78 rfl cw5 ar5 rk4_5_0 (by decide) rfl rfl (X_validPid_pay hg2) <| ans1 <| ?_
  refine ite_el hf (fun hc3 hf => ?_) (fun hc3 hf => ?_)
  · refine Runs.ifN d4_5 (teq hc3).2 <| ?_
    obtain rfl := Option.some.inj hf
    exact Runs.iconst d4_8 ci_1 <| Runs.retI d4_9 rfl ⟨by decide, by decide⟩ ⟨rfl, rfl⟩
  · refine Runs.ifY (pc' := 10) d4_5 (feq hc3).2 (by decide) <| ?_
    refine Runs.iloadN d4_10 rfl <| ?_
    refine ite_el hf (fun hc4 hf => ?_) (fun hc4 hf => ?_)
    · refine Runs.ifY (pc' := 24) d4_11 (tlt hc4).1 (by decide) <| ?_
      obtain rfl := Option.some.inj hf
      exact Runs.iconst d4_24 ci_2 <| Runs.retI d4_25 rfl ⟨by decide, by decide⟩ ⟨rfl, rfl⟩
    · refine Runs.ifN d4_11 (flt hc4).1 <| ?_
      refine Runs.iloadN d4_14 rfl <| Runs.aloadN d4_15 rfl <| Runs.getI d4_16 w53 fS_1 <| Runs.iconst d4_19 ci_4 <| Runs.imul d4_20 <| ?_
      refine ite_el hf (fun hc5 hf => ?_) (fun hc5 hf => ?_)
      · refine Runs.icY (pc' := 26) d4_21 (tlt hc5).1 (by decide) <| ?_
        refine Runs.aloadN d4_26 rfl <| Runs.getA d4_27 fA_0 w10 (by decide) <| Runs.iloadN d4_30 rfl <| ?_
        refine chk_el hf fun hi6 hf => ?_
        refine Runs.baloadA d4_31 fA_0 (by decide) hi6 <| ?_
        refine ite_el hf (fun hc7 hf => ?_) (fun hc7 hf => ?_)
        · refine Runs.ifY (pc' := 37) d4_32 (teq hc7).1 (by decide) <| ?_
          obtain rfl := Option.some.inj hf
          exact Runs.iconst d4_37 ci_0 <| Runs.retI d4_38 rfl ⟨by decide, by decide⟩ ⟨rfl, rfl⟩
        · refine Runs.ifN d4_32 (feq hc7).1 <| ?_
          obtain rfl := Option.some.inj hf
          exact Runs.iconst d4_35 ci_3 <| Runs.retI d4_36 rfl ⟨by decide, by decide⟩ ⟨rfl, rfl⟩
      · refine Runs.icN d4_21 (flt hc5).1 <| ?_
        obtain rfl := Option.some.inj hf
        exact Runs.iconst d4_24 ci_2 <| Runs.retI d4_25 rfl ⟨by decide, by decide⟩ ⟨rfl, rfl⟩
theorem X_check_pay {C : Ctx} {top : Nat} {a : Nat} {H : List (Nat × Nat × Rec)} {ob : Rec} {res : Int32} {i1 : Int32} {i2 : Int32} (hf : X_check ob i1 i2 = some res) : Pays C B4 [.ref a, .int i1, .int i2] (top, (a, 18, ob) :: H) (Ans (some (.int res)) (top, (a, 18, ob) :: H)) :=
  Pays.of pnK (Nat.le_of_ble_eq_true rfl) (P := [vr a, vi i1, vi i2]) 0 rfl (X_check_p i1 i2 hf)
def X_findFreeFrame_w2 (NF : Nat) (ob : Rec) (k2 : Int32 → Option (Int32)) (i1 : Int32) : Option (Int32) :=
  if i1 < (gI ob 2) then
    chk (32 : Int32) i1 <|
    if (gA ob 12 i1) < (0 : Int32) then
      some i1
    else
      k2 (i1 + (1 : Int32))
  else
    some (-1 : Int32)
def X_findFreeFrame_l2 (NF : Nat) (ob : Rec) : Nat → Int32 → Option (Int32)
  | 0, _ => none
  | n + 1, i1 => X_findFreeFrame_w2 NF ob (X_findFreeFrame_l2 NF ob n) i1
set_option maxRecDepth 65536 in
set_option maxHeartbeats 4000000 in
theorem X_findFreeFrame_w2_p {C : Ctx} {top : Nat} {a : Nat} {H : List (Nat × Nat × Rec)} {ob : Rec} {res : Int32} {NF : Nat} (k2 : Int32 → Option (Int32)) (hk2 : ∀ (i1 : Int32), k2 i1 = some res → Runs C B7 0 0 2 [vr a, vi i1] [] (top, (a, 18, ob) :: H) (Ans (some (.int res)) (top, (a, 18, ob) :: H))) (i1 : Int32) (hf : X_findFreeFrame_w2 NF ob k2 i1 = some res) : Runs C B7 0 0 2 [vr a, vi i1] [] (top, (a, 18, ob) :: H) (Ans (some (.int res)) (top, (a, 18, ob) :: H)) := by
  delta X_findFreeFrame_w2 at hf
  refine Runs.iloadN d7_2 rfl <| Runs.aloadN d7_3 rfl <| Runs.getI d7_4 w55 fS_2 <| ?_
  refine ite_el hf (fun hc1 hf => ?_) (fun hc1 hf => ?_)
  · refine Runs.icN d7_7 (tlt hc1).2.1 <| ?_
    refine Runs.aloadN d7_10 rfl <| Runs.getA d7_11 fA_12 w35 (by decide) <| Runs.iloadN d7_14 rfl <| ?_
    refine chk_el hf fun hi2 hf => ?_
    refine Runs.ialoadA d7_15 fA_12 (by decide) hi2 <| ?_
    refine ite_el hf (fun hc3 hf => ?_) (fun hc3 hf => ?_)
    · refine Runs.ifN d7_16 (tlt hc3).2.1 <| ?_
      obtain rfl := Option.some.inj hf
      exact Runs.iloadN d7_19 rfl <| Runs.retI d7_20 rfl ⟨by decide, by decide⟩ ⟨rfl, rfl⟩
    · refine Runs.ifY (pc' := 21) d7_16 (flt hc3).2.1 (by decide) <| ?_
      exact Runs.iinc (P' := [vr a, vi (i1 + (1 : Int32))]) d7_21 ci_1 rfl (by decide) rfl <| Runs.goto (pc' := 2) d7_24 (by decide) <| hk2 (i1 + (1 : Int32)) hf
  · refine Runs.icY (pc' := 27) d7_7 (flt hc1).2.1 (by decide) <| ?_
    obtain rfl := Option.some.inj hf
    exact Runs.iconst d7_27 ci_m1 <| Runs.retI d7_28 rfl ⟨by decide, by decide⟩ ⟨rfl, rfl⟩
theorem X_findFreeFrame_l2_p {C : Ctx} {top : Nat} {a : Nat} {H : List (Nat × Nat × Rec)} {ob : Rec} {res : Int32} {NF : Nat} (n : Nat) (i1 : Int32) (hf : X_findFreeFrame_l2 NF ob n i1 = some res) : Runs C B7 0 0 2 [vr a, vi i1] [] (top, (a, 18, ob) :: H) (Ans (some (.int res)) (top, (a, 18, ob) :: H)) := by
  induction n generalizing i1 with
  | zero => cases (show (none : Option (Int32)) = some res from hf)
  | succ n ih => exact X_findFreeFrame_w2_p (X_findFreeFrame_l2 NF ob n) (fun i1 h => ih _ h) i1 hf
def X_findFreeFrame (NF : Nat) (ob : Rec) : Option (Int32) :=
  X_findFreeFrame_l2 NF ob NF (0 : Int32)
set_option maxRecDepth 65536 in
set_option maxHeartbeats 4000000 in
theorem X_findFreeFrame_p {C : Ctx} {top : Nat} {a : Nat} {H : List (Nat × Nat × Rec)} {ob : Rec} {res : Int32} {NF : Nat} (hf : X_findFreeFrame NF ob = some res) : Runs C B7 0 0 0 [vr a, vn] [] (top, (a, 18, ob) :: H) (Ans (some (.int res)) (top, (a, 18, ob) :: H)) := by
  delta X_findFreeFrame at hf
  exact Runs.iconst d7_0 ci_0 <| Runs.istoreN (P' := [vr a, vi (0 : Int32)]) d7_1 (by decide) rfl <| X_findFreeFrame_l2_p NF (0 : Int32) hf
theorem X_findFreeFrame_pay {C : Ctx} {top : Nat} {a : Nat} {H : List (Nat × Nat × Rec)} {ob : Rec} {res : Int32} {NF : Nat} (hf : X_findFreeFrame NF ob = some res) : Pays C B7 [.ref a] (top, (a, 18, ob) :: H) (Ans (some (.int res)) (top, (a, 18, ob) :: H)) :=
  Pays.of pnK (Nat.le_of_ble_eq_true rfl) (P := [vr a, vn]) 1 rfl (X_findFreeFrame_p hf)
def X_fillFrame_w15 (NF : Nat) (k15 : Rec → Int32 → Int32 → Int32 → Int32 → Int32 → Option (Rec)) (ob : Rec) (i1 : Int32) (i2 : Int32) (i3 : Int32) (i4 : Int32) (i5 : Int32) : Option (Rec) :=
  if i5 < (4 : Int32) then
    if i3 < (0 : Int32) then
      chk (128 : Int32) (i4 + i5) <|
      k15 (sA ob 15 (i4 + i5) (0 : Int32)) i1 i2 i3 i4 (i5 + (1 : Int32))
    else
      chk (256 : Int32) ((i3 * (4 : Int32)) + i5) <|
      chk (128 : Int32) (i4 + i5) <|
      k15 (sA ob 15 (i4 + i5) (gA ob 17 ((i3 * (4 : Int32)) + i5))) i1 i2 i3 i4 (i5 + (1 : Int32))
  else
    chk (32 : Int32) i1 <|
    chk (32 : Int32) i1 <|
    chk (32 : Int32) i1 <|
    chk (64 : Int32) i2 <|
    chk (4 : Int32) (i2 / (16 : Int32)) <|
    chk (64 : Int32) i2 <|
    some (sA (sA (sA (sA (sA ob 12 i1 i2) 13 i1 (0 : Int32)) 14 i1 (0 : Int32)) 9 i2 i1) 11 i2 (gA ob 1 (i2 / (16 : Int32))))
def X_fillFrame_l15 (NF : Nat) : Nat → Rec → Int32 → Int32 → Int32 → Int32 → Int32 → Option (Rec)
  | 0, _, _, _, _, _, _ => none
  | n + 1, ob, i1, i2, i3, i4, i5 => X_fillFrame_w15 NF (X_fillFrame_l15 NF n) ob i1 i2 i3 i4 i5
set_option maxRecDepth 65536 in
set_option maxHeartbeats 4000000 in
theorem X_fillFrame_w15_p {C : Ctx} {top : Nat} {a : Nat} {H : List (Nat × Nat × Rec)} {res : Rec} {NF : Nat} (k15 : Rec → Int32 → Int32 → Int32 → Int32 → Int32 → Option (Rec)) (hk15 : ∀ (ob : Rec) (i1 : Int32) (i2 : Int32) (i3 : Int32) (i4 : Int32) (i5 : Int32), k15 ob i1 i2 i3 i4 i5 = some res → Runs C B8 0 0 15 [vr a, vi i1, vi i2, vi i3, vi i4, vi i5] [] (top, (a, 18, ob) :: H) (Ans none (top, (a, 18, res) :: H))) (ob : Rec) (i1 : Int32) (i2 : Int32) (i3 : Int32) (i4 : Int32) (i5 : Int32) (hf : X_fillFrame_w15 NF k15 ob i1 i2 i3 i4 i5 = some res) : Runs C B8 0 0 15 [vr a, vi i1, vi i2, vi i3, vi i4, vi i5] [] (top, (a, 18, ob) :: H) (Ans none (top, (a, 18, res) :: H)) := by
  delta X_fillFrame_w15 at hf
  refine Runs.iload d8_15 rfl <| Runs.iconst d8_17 ci_4 <| ?_
  refine ite_el hf (fun hc1 hf => ?_) (fun hc1 hf => ?_)
  · refine Runs.icN d8_18 (tlt hc1).2.1 <| ?_
    refine Runs.iloadN d8_21 rfl <| ?_
    refine ite_el hf (fun hc2 hf => ?_) (fun hc2 hf => ?_)
    · refine Runs.ifY (pc' := 49) d8_22 (tlt hc2).1 (by decide) <| ?_
      refine Runs.aloadN d8_49 rfl <| Runs.getA d8_50 fA_15 w41 (by decide) <| Runs.iload d8_53 rfl <| Runs.iload d8_55 rfl <| Runs.iadd d8_57 <| Runs.iconst d8_58 ci_0 <| ?_
      refine chk_el hf fun hi3 hf => ?_
      exact Runs.iastoreA d8_59 fA_15 (by decide) hi3 <| Runs.iinc (P' := [vr a, vi i1, vi i2, vi i3, vi i4, vi (i5 + (1 : Int32))]) d8_60 ci_1 rfl (by decide) rfl <| Runs.goto (pc' := 15) d8_63 (by decide) <| hk15 (sA ob 15 (i4 + i5) (0 : Int32)) i1 i2 i3 i4 (i5 + (1 : Int32)) hf
    · refine Runs.ifN d8_22 (flt hc2).1 <| ?_
      refine Runs.aloadN d8_25 rfl <| Runs.getA d8_26 fA_15 w41 (by decide) <| Runs.iload d8_29 rfl <| Runs.iload d8_31 rfl <| Runs.iadd d8_33 <| Runs.aloadN d8_34 rfl <| Runs.getA d8_35 fA_17 w45 (by decide) <| Runs.iloadN d8_38 rfl <| Runs.iconst d8_39 ci_4 <| Runs.imul d8_40 <| Runs.iload d8_41 rfl <| Runs.iadd d8_43 <| ?_
      refine chk_el hf fun hi4 hf => ?_
      refine Runs.ialoadA d8_44 fA_17 (by decide) hi4 <| ?_
      refine chk_el hf fun hi5 hf => ?_
      exact Runs.iastoreA d8_45 fA_15 (by decide) hi5 <| Runs.goto (pc' := 60) d8_46 (by decide) <| Runs.iinc (P' := [vr a, vi i1, vi i2, vi i3, vi i4, vi (i5 + (1 : Int32))]) d8_60 ci_1 rfl (by decide) rfl <| Runs.goto (pc' := 15) d8_63 (by decide) <| hk15 (sA ob 15 (i4 + i5) (gA ob 17 ((i3 * (4 : Int32)) + i5))) i1 i2 i3 i4 (i5 + (1 : Int32)) hf
  · refine Runs.icY (pc' := 66) d8_18 (flt hc1).2.1 (by decide) <| ?_
    refine Runs.aloadN d8_66 rfl <| Runs.getA d8_67 fA_12 w35 (by decide) <| Runs.iloadN d8_70 rfl <| Runs.iloadN d8_71 rfl <| ?_
    refine chk_el hf fun hi6 hf => ?_
    refine Runs.iastoreA d8_72 fA_12 (by decide) hi6 <| Runs.aloadN d8_73 rfl <| Runs.getA d8_74 fA_13 w37 (by decide) <| Runs.iloadN d8_77 rfl <| Runs.iconst d8_78 ci_0 <| ?_
    refine chk_el hf fun hi7 hf => ?_
    refine Runs.bastoreA (y := (0 : Int32)) d8_79 fA_13 (by decide) hi7 rfl <| Runs.aloadN d8_80 rfl <| Runs.getA d8_81 fA_14 w39 (by decide) <| Runs.iloadN d8_84 rfl <| Runs.iconst d8_85 ci_0 <| ?_
    refine chk_el hf fun hi8 hf => ?_
    refine Runs.bastoreA (y := (0 : Int32)) d8_86 fA_14 (by decide) hi8 rfl <| Runs.aloadN d8_87 rfl <| Runs.getA d8_88 fA_9 w29 (by decide) <| Runs.iloadN d8_91 rfl <| Runs.iloadN d8_92 rfl <| ?_
    refine chk_el hf fun hi9 hf => ?_
    refine Runs.iastoreA d8_93 fA_9 (by decide) hi9 <| Runs.aloadN d8_94 rfl <| Runs.getA d8_95 fA_11 w33 (by decide) <| Runs.iloadN d8_98 rfl <| Runs.aloadN d8_99 rfl <| Runs.getA d8_100 fA_1 w13 (by decide) <| Runs.iloadN d8_103 rfl <| Runs.bipush d8_104 cb_16 <| Runs.idiv d8_106 (by decide) <| ?_
    refine chk_el hf fun hi10 hf => ?_
    refine Runs.ialoadA d8_107 fA_1 (by decide) hi10 <| ?_
    refine chk_el hf fun hi11 hf => ?_
    obtain rfl := Option.some.inj hf
    exact Runs.iastoreA d8_108 fA_11 (by decide) hi11 <| Runs.retV d8_109 rfl ⟨by decide, by decide⟩ ⟨rfl, rfl⟩
theorem X_fillFrame_l15_p {C : Ctx} {top : Nat} {a : Nat} {H : List (Nat × Nat × Rec)} {res : Rec} {NF : Nat} (n : Nat) (ob : Rec) (i1 : Int32) (i2 : Int32) (i3 : Int32) (i4 : Int32) (i5 : Int32) (hf : X_fillFrame_l15 NF n ob i1 i2 i3 i4 i5 = some res) : Runs C B8 0 0 15 [vr a, vi i1, vi i2, vi i3, vi i4, vi i5] [] (top, (a, 18, ob) :: H) (Ans none (top, (a, 18, res) :: H)) := by
  induction n generalizing ob i1 i2 i3 i4 i5 with
  | zero => cases (show (none : Option (Rec)) = some res from hf)
  | succ n ih => exact X_fillFrame_w15_p (X_fillFrame_l15 NF n) (fun ob i1 i2 i3 i4 i5 h => ih _ _ _ _ _ _ h) ob i1 i2 i3 i4 i5 hf
def X_fillFrame (NF : Nat) (ob : Rec) (i1 : Int32) (i2 : Int32) : Option (Rec) :=
  chk (64 : Int32) i2 <|
  X_fillFrame_l15 NF NF ob i1 i2 (gA ob 10 i2) (i1 * (4 : Int32)) (0 : Int32)
set_option maxRecDepth 65536 in
set_option maxHeartbeats 4000000 in
theorem X_fillFrame_p {C : Ctx} {top : Nat} {a : Nat} {H : List (Nat × Nat × Rec)} {res : Rec} {NF : Nat} (ob : Rec) (i1 : Int32) (i2 : Int32) (hf : X_fillFrame NF ob i1 i2 = some res) : Runs C B8 0 0 0 [vr a, vi i1, vi i2, vn, vn, vn] [] (top, (a, 18, ob) :: H) (Ans none (top, (a, 18, res) :: H)) := by
  delta X_fillFrame at hf
  refine Runs.aloadN d8_0 rfl <| Runs.getA d8_1 fA_10 w31 (by decide) <| Runs.iloadN d8_4 rfl <| ?_
  refine chk_el hf fun hi12 hf => ?_
  exact Runs.ialoadA d8_5 fA_10 (by decide) hi12 <| Runs.istoreN (P' := [vr a, vi i1, vi i2, vi (gA ob 10 i2), vn, vn]) d8_6 (by decide) rfl <| Runs.iloadN d8_7 rfl <| Runs.iconst d8_8 ci_4 <| Runs.imul d8_9 <| Runs.istore (P' := [vr a, vi i1, vi i2, vi (gA ob 10 i2), vi (i1 * (4 : Int32)), vn]) d8_10 (by decide) rfl <| Runs.iconst d8_12 ci_0 <| Runs.istore (P' := [vr a, vi i1, vi i2, vi (gA ob 10 i2), vi (i1 * (4 : Int32)), vi (0 : Int32)]) d8_13 (by decide) rfl <| X_fillFrame_l15_p NF ob i1 i2 (gA ob 10 i2) (i1 * (4 : Int32)) (0 : Int32) hf
theorem X_fillFrame_pay {C : Ctx} {top : Nat} {a : Nat} {H : List (Nat × Nat × Rec)} {res : Rec} {NF : Nat} {ob : Rec} {i1 : Int32} {i2 : Int32} (hf : X_fillFrame NF ob i1 i2 = some res) : Pays C B8 [.ref a, .int i1, .int i2] (top, (a, 18, ob) :: H) (Ans none (top, (a, 18, res) :: H)) :=
  Pays.of pnK (Nat.le_of_ble_eq_true rfl) (P := [vr a, vi i1, vi i2, vn, vn, vn]) 3 rfl (X_fillFrame_p ob i1 i2 hf)
def X_ensureResident (NF : Nat) (ob : Rec) (i1 : Int32) (i2 : Int32) : Option (Int32 × Rec) :=
  chk (64 : Int32) ((i1 * (16 : Int32)) + i2) <|
  if (gA ob 9 ((i1 * (16 : Int32)) + i2)) < (0 : Int32) then
    (X_findFreeFrame NF ob).bind fun r3 =>
    if r3 < (0 : Int32) then
      none
    else
      (X_fillFrame NF ob r3 ((i1 * (16 : Int32)) + i2)).bind fun q6 =>
      some (r3, q6)
  else
    some ((gA ob 9 ((i1 * (16 : Int32)) + i2)), ob)
set_option maxRecDepth 65536 in
set_option maxHeartbeats 4000000 in
theorem X_ensureResident_p {C : Ctx} {top : Nat} {a : Nat} {H : List (Nat × Nat × Rec)} {res : Int32 × Rec} {NF : Nat} (ob : Rec) (i1 : Int32) (i2 : Int32) (hf : X_ensureResident NF ob i1 i2 = some res) : Runs C B6 0 0 0 [vr a, vi i1, vi i2, vn, vn] [] (top, (a, 18, ob) :: H) (Ans (some (.int res.1)) (top, (a, 18, res.2) :: H)) := by
  delta X_ensureResident at hf
  refine Runs.iloadN d6_0 rfl <| Runs.bipush d6_1 cb_16 <| Runs.imul d6_3 <| Runs.iloadN d6_4 rfl <| Runs.iadd d6_5 <| Runs.istoreN (P' := [vr a, vi i1, vi i2, vi ((i1 * (16 : Int32)) + i2), vn]) d6_6 (by decide) rfl <| Runs.aloadN d6_7 rfl <| Runs.getA d6_8 fA_9 w29 (by decide) <| Runs.iloadN d6_11 rfl <| ?_
  refine chk_el hf fun hi1 hf => ?_
  refine Runs.ialoadA d6_12 fA_9 (by decide) hi1 <| Runs.istore (P' := [vr a, vi i1, vi i2, vi ((i1 * (16 : Int32)) + i2), vi (gA ob 9 ((i1 * (16 : Int32)) + i2))]) d6_13 (by decide) rfl <| Runs.iload d6_15 rfl <| ?_
  refine ite_el hf (fun hc2 hf => ?_) (fun hc2 hf => ?_)
  · refine Runs.ifY (pc' := 23) d6_17 (tlt hc2).1 (by decide) <| ?_
    refine Runs.aloadN d6_23 rfl <| ?_
    refine bind_el hf fun r3 hg4 hf => ?_
    refine Runs.callP (N := B7) (W := 0) (as := []) (S' := []) d6_24 w84 w85 w86 rfl cw7 ar7 rk6_7_0 (by decide) rfl rfl (X_findFreeFrame_pay hg4) <| ans1 <| Runs.istore (P' := [vr a, vi i1, vi i2, vi ((i1 * (16 : Int32)) + i2), vi r3]) d6_27 (by decide) rfl <| Runs.iload d6_29 rfl <| ?_
    refine ite_el hf (fun hc5 hf => ?_) (fun hc5 hf => ?_)
    · refine Runs.ifN d6_31 (tlt hc5).2.1 <| ?_
      cases hf
    · refine Runs.ifY (pc' := 46) d6_31 (flt hc5).2.1 (by decide) <| ?_
      refine Runs.aloadN d6_46 rfl <| Runs.iload d6_47 rfl <| Runs.iloadN d6_49 rfl <| ?_
      refine bind_el hf fun q6 hg7 hf => ?_
      obtain rfl := Option.some.inj hf
      exact Runs.callP (N := B8) (W := 0) (as := [.int r3, .int ((i1 * (16 : Int32)) + i2)]) (S' := []) d6_50 w88 w89 w90 rfl cw8 ar8 rk6_8_0 (by decide) rfl rfl (X_fillFrame_pay hg7) <| ans0 <| Runs.iload d6_53 rfl <| Runs.retI d6_55 rfl ⟨by decide, by decide⟩ ⟨rfl, rfl⟩
  · refine Runs.ifN d6_17 (flt hc2).1 <| ?_
    obtain rfl := Option.some.inj hf
    exact Runs.iload d6_20 rfl <| Runs.retI d6_22 rfl ⟨by decide, by decide⟩ ⟨rfl, rfl⟩
theorem X_ensureResident_pay {C : Ctx} {top : Nat} {a : Nat} {H : List (Nat × Nat × Rec)} {res : Int32 × Rec} {NF : Nat} {ob : Rec} {i1 : Int32} {i2 : Int32} (hf : X_ensureResident NF ob i1 i2 = some res) : Pays C B6 [.ref a, .int i1, .int i2] (top, (a, 18, ob) :: H) (Ans (some (.int res.1)) (top, (a, 18, res.2) :: H)) :=
  Pays.of pnK (Nat.le_of_ble_eq_true rfl) (P := [vr a, vi i1, vi i2, vn, vn]) 2 rfl (X_ensureResident_p ob i1 i2 hf)
def X_pushWindow_b135 (ob : Rec) (i1 : Int32) (i2 : Int32) (i3 : Int32) (i4 : Int32) : Option (Rec) :=
  chk (64 : Int32) (i3 + i2) <|
  chk (64 : Int32) (i3 + i2) <|
  dvz (gI ob 3) <|
  chk (4 : Int32) i1 <|
  some (sA (sA ob 7 (i3 + i2) ((gA ob 7 (i3 + i2)) + (1 : Int32))) 3 i1 ((i4 + (1 : Int32)) % (gI ob 3)))
set_option maxRecDepth 65536 in
set_option maxHeartbeats 4000000 in
theorem X_pushWindow_b135_p {C : Ctx} {top : Nat} {a : Nat} {H : List (Nat × Nat × Rec)} {res : Rec} (ob : Rec) (i1 : Int32) (i2 : Int32) (i3 : Int32) (i4 : Int32) (hf : X_pushWindow_b135 ob i1 i2 i3 i4 = some res) : Runs C B10 0 0 135 [vr a, vi i1, vi i2, vi i3, vi i4, vn] [] (top, (a, 18, ob) :: H) (Ans none (top, (a, 18, res) :: H)) := by
  delta X_pushWindow_b135 at hf
  refine Runs.aloadN d10_135 rfl <| Runs.getA d10_136 fA_7 w25 (by decide) <| Runs.iloadN d10_139 rfl <| Runs.iloadN d10_140 rfl <| Runs.iadd d10_141 <| Runs.aloadN d10_142 rfl <| Runs.getA d10_143 fA_7 w25 (by decide) <| Runs.iloadN d10_146 rfl <| Runs.iloadN d10_147 rfl <| Runs.iadd d10_148 <| ?_
  refine chk_el hf fun hi6 hf => ?_
  refine Runs.ialoadA d10_149 fA_7 (by decide) hi6 <| Runs.iconst d10_150 ci_1 <| Runs.iadd d10_151 <| ?_
  refine chk_el hf fun hi7 hf => ?_
  refine Runs.iastoreA d10_152 fA_7 (by decide) hi7 <| Runs.aloadN d10_153 rfl <| Runs.getA d10_154 fA_3 w17 (by decide) <| Runs.iloadN d10_157 rfl <| Runs.iload d10_158 rfl <| Runs.iconst d10_160 ci_1 <| Runs.iadd d10_161 <| Runs.aloadN d10_162 rfl <| Runs.getI d10_163 w57 fS_3 <| ?_
  refine dvz_el hf fun hz8 hf => ?_
  refine Runs.irem d10_166 hz8 <| ?_
  refine chk_el hf fun hi9 hf => ?_
  obtain rfl := Option.some.inj hf
  exact Runs.iastoreA d10_167 fA_3 (by decide) hi9 <| Runs.retV d10_168 rfl ⟨by decide, by decide⟩ ⟨rfl, rfl⟩
def X_pushWindow_b100 (ob : Rec) (i1 : Int32) (i2 : Int32) (i3 : Int32) (i4 : Int32) : Option (Rec) :=
  chk (64 : Int32) (i3 + i4) <|
  chk (64 : Int32) (i3 + i2) <|
  if (gA ob 7 (i3 + i2)) = (0 : Int32) then
    chk (4 : Int32) i1 <|
    chk (4 : Int32) i1 <|
    X_pushWindow_b135 (sA (sA ob 6 (i3 + i4) i2) 4 i1 ((gA ob 4 i1) + (1 : Int32))) i1 i2 i3 i4
  else
    X_pushWindow_b135 (sA ob 6 (i3 + i4) i2) i1 i2 i3 i4
set_option maxRecDepth 65536 in
set_option maxHeartbeats 4000000 in
theorem X_pushWindow_b100_p {C : Ctx} {top : Nat} {a : Nat} {H : List (Nat × Nat × Rec)} {res : Rec} (ob : Rec) (i1 : Int32) (i2 : Int32) (i3 : Int32) (i4 : Int32) (hf : X_pushWindow_b100 ob i1 i2 i3 i4 = some res) : Runs C B10 0 0 100 [vr a, vi i1, vi i2, vi i3, vi i4, vn] [] (top, (a, 18, ob) :: H) (Ans none (top, (a, 18, res) :: H)) := by
  delta X_pushWindow_b100 at hf
  refine Runs.aloadN d10_100 rfl <| Runs.getA d10_101 fA_6 w23 (by decide) <| Runs.iloadN d10_104 rfl <| Runs.iload d10_105 rfl <| Runs.iadd d10_107 <| Runs.iloadN d10_108 rfl <| ?_
  refine chk_el hf fun hi1 hf => ?_
  refine Runs.iastoreA d10_109 fA_6 (by decide) hi1 <| Runs.aloadN d10_110 rfl <| Runs.getA d10_111 fA_7 w25 (by decide) <| Runs.iloadN d10_114 rfl <| Runs.iloadN d10_115 rfl <| Runs.iadd d10_116 <| ?_
  refine chk_el hf fun hi2 hf => ?_
  refine Runs.ialoadA d10_117 fA_7 (by decide) hi2 <| ?_
  refine ite_el hf (fun hc3 hf => ?_) (fun hc3 hf => ?_)
  · refine Runs.ifN d10_118 (teq hc3).2 <| ?_
    refine Runs.aloadN d10_121 rfl <| Runs.getA d10_122 fA_4 w19 (by decide) <| Runs.iloadN d10_125 rfl <| Runs.aloadN d10_126 rfl <| Runs.getA d10_127 fA_4 w19 (by decide) <| Runs.iloadN d10_130 rfl <| ?_
    refine chk_el hf fun hi4 hf => ?_
    refine Runs.ialoadA d10_131 fA_4 (by decide) hi4 <| Runs.iconst d10_132 ci_1 <| Runs.iadd d10_133 <| ?_
    refine chk_el hf fun hi5 hf => ?_
    exact Runs.iastoreA d10_134 fA_4 (by decide) hi5 <| X_pushWindow_b135_p (sA (sA ob 6 (i3 + i4) i2) 4 i1 ((gA ob 4 i1) + (1 : Int32))) i1 i2 i3 i4 hf
  · exact Runs.ifY (pc' := 135) d10_118 (feq hc3).2 (by decide) <| X_pushWindow_b135_p (sA ob 6 (i3 + i4) i2) i1 i2 i3 i4 hf
def X_pushWindow (ob : Rec) (i1 : Int32) (i2 : Int32) : Option (Rec) :=
  chk (4 : Int32) i1 <|
  chk (4 : Int32) i1 <|
  if (gA ob 2 i1) < (gI ob 3) then
    chk (4 : Int32) i1 <|
    chk (4 : Int32) i1 <|
    X_pushWindow_b100 (sA ob 2 i1 ((gA ob 2 i1) + (1 : Int32))) i1 i2 (i1 * (16 : Int32)) (gA ob 3 i1)
  else
    chk (64 : Int32) ((i1 * (16 : Int32)) + (gA ob 3 i1)) <|
    chk (64 : Int32) ((i1 * (16 : Int32)) + (gA ob 6 ((i1 * (16 : Int32)) + (gA ob 3 i1)))) <|
    chk (64 : Int32) ((i1 * (16 : Int32)) + (gA ob 6 ((i1 * (16 : Int32)) + (gA ob 3 i1)))) <|
    chk (64 : Int32) ((i1 * (16 : Int32)) + (gA ob 6 ((i1 * (16 : Int32)) + (gA ob 3 i1)))) <|
    if (gA (sA ob 7 ((i1 * (16 : Int32)) + (gA ob 6 ((i1 * (16 : Int32)) + (gA ob 3 i1)))) ((gA ob 7 ((i1 * (16 : Int32)) + (gA ob 6 ((i1 * (16 : Int32)) + (gA ob 3 i1))))) - (1 : Int32))) 7 ((i1 * (16 : Int32)) + (gA ob 6 ((i1 * (16 : Int32)) + (gA ob 3 i1))))) = (0 : Int32) then
      chk (4 : Int32) i1 <|
      chk (4 : Int32) i1 <|
      X_pushWindow_b100 (sA (sA ob 7 ((i1 * (16 : Int32)) + (gA ob 6 ((i1 * (16 : Int32)) + (gA ob 3 i1)))) ((gA ob 7 ((i1 * (16 : Int32)) + (gA ob 6 ((i1 * (16 : Int32)) + (gA ob 3 i1))))) - (1 : Int32))) 4 i1 ((gA ob 4 i1) - (1 : Int32))) i1 i2 (i1 * (16 : Int32)) (gA ob 3 i1)
    else
      X_pushWindow_b100 (sA ob 7 ((i1 * (16 : Int32)) + (gA ob 6 ((i1 * (16 : Int32)) + (gA ob 3 i1)))) ((gA ob 7 ((i1 * (16 : Int32)) + (gA ob 6 ((i1 * (16 : Int32)) + (gA ob 3 i1))))) - (1 : Int32))) i1 i2 (i1 * (16 : Int32)) (gA ob 3 i1)
set_option maxRecDepth 65536 in
set_option maxHeartbeats 4000000 in
theorem X_pushWindow_p {C : Ctx} {top : Nat} {a : Nat} {H : List (Nat × Nat × Rec)} {res : Rec} (ob : Rec) (i1 : Int32) (i2 : Int32) (hf : X_pushWindow ob i1 i2 = some res) : Runs C B10 0 0 0 [vr a, vi i1, vi i2, vn, vn, vn] [] (top, (a, 18, ob) :: H) (Ans none (top, (a, 18, res) :: H)) := by
  delta X_pushWindow at hf
  refine Runs.iloadN d10_0 rfl <| Runs.bipush d10_1 cb_16 <| Runs.imul d10_3 <| Runs.istoreN (P' := [vr a, vi i1, vi i2, vi (i1 * (16 : Int32)), vn, vn]) d10_4 (by decide) rfl <| Runs.aloadN d10_5 rfl <| Runs.getA d10_6 fA_3 w17 (by decide) <| Runs.iloadN d10_9 rfl <| ?_
  refine chk_el hf fun hi10 hf => ?_
  refine Runs.ialoadA d10_10 fA_3 (by decide) hi10 <| Runs.istore (P' := [vr a, vi i1, vi i2, vi (i1 * (16 : Int32)), vi (gA ob 3 i1), vn]) d10_11 (by decide) rfl <| Runs.aloadN d10_13 rfl <| Runs.getA d10_14 fA_2 w15 (by decide) <| Runs.iloadN d10_17 rfl <| ?_
  refine chk_el hf fun hi11 hf => ?_
  refine Runs.ialoadA d10_18 fA_2 (by decide) hi11 <| Runs.aloadN d10_19 rfl <| Runs.getI d10_20 w57 fS_3 <| ?_
  refine ite_el hf (fun hc12 hf => ?_) (fun hc12 hf => ?_)
  · refine Runs.icY (pc' := 86) d10_23 (tlt hc12).1 (by decide) <| ?_
    refine Runs.aloadN d10_86 rfl <| Runs.getA d10_87 fA_2 w15 (by decide) <| Runs.iloadN d10_90 rfl <| Runs.aloadN d10_91 rfl <| Runs.getA d10_92 fA_2 w15 (by decide) <| Runs.iloadN d10_95 rfl <| ?_
    refine chk_el hf fun hi13 hf => ?_
    refine Runs.ialoadA d10_96 fA_2 (by decide) hi13 <| Runs.iconst d10_97 ci_1 <| Runs.iadd d10_98 <| ?_
    refine chk_el hf fun hi14 hf => ?_
    exact Runs.iastoreA d10_99 fA_2 (by decide) hi14 <| X_pushWindow_b100_p (sA ob 2 i1 ((gA ob 2 i1) + (1 : Int32))) i1 i2 (i1 * (16 : Int32)) (gA ob 3 i1) hf
  · refine Runs.icN d10_23 (flt hc12).1 <| ?_
    refine Runs.aloadN d10_26 rfl <| Runs.getA d10_27 fA_6 w23 (by decide) <| Runs.iloadN d10_30 rfl <| Runs.iload d10_31 rfl <| Runs.iadd d10_33 <| ?_
    refine chk_el hf fun hi15 hf => ?_
    refine Runs.ialoadA d10_34 fA_6 (by decide) hi15 <| Runs.istore (P' := [vr a, vi i1, vi i2, vi (i1 * (16 : Int32)), vi (gA ob 3 i1), vi (gA ob 6 ((i1 * (16 : Int32)) + (gA ob 3 i1)))]) d10_35 (by decide) rfl <| Runs.aloadN d10_37 rfl <| Runs.getA d10_38 fA_7 w25 (by decide) <| Runs.iloadN d10_41 rfl <| Runs.iload d10_42 rfl <| Runs.iadd d10_44 <| Runs.aloadN d10_45 rfl <| Runs.getA d10_46 fA_7 w25 (by decide) <| Runs.iloadN d10_49 rfl <| Runs.iload d10_50 rfl <| Runs.iadd d10_52 <| ?_
    refine chk_el hf fun hi16 hf => ?_
    refine Runs.ialoadA d10_53 fA_7 (by decide) hi16 <| Runs.iconst d10_54 ci_1 <| Runs.isub d10_55 <| ?_
    refine chk_el hf fun hi17 hf => ?_
    refine Runs.iastoreA d10_56 fA_7 (by decide) hi17 <| Runs.aloadN d10_57 rfl <| Runs.getA d10_58 fA_7 w25 (by decide) <| Runs.iloadN d10_61 rfl <| Runs.iload d10_62 rfl <| Runs.iadd d10_64 <| ?_
    refine chk_el hf fun hi18 hf => ?_
    refine Runs.ialoadA d10_65 fA_7 (by decide) hi18 <| ?_
    refine ite_el hf (fun hc19 hf => ?_) (fun hc19 hf => ?_)
    · refine Runs.ifN d10_66 (teq hc19).2 <| ?_
      refine Runs.aloadN d10_69 rfl <| Runs.getA d10_70 fA_4 w19 (by decide) <| Runs.iloadN d10_73 rfl <| Runs.aloadN d10_74 rfl <| Runs.getA d10_75 fA_4 w19 (by decide) <| Runs.iloadN d10_78 rfl <| ?_
      refine chk_el hf fun hi20 hf => ?_
      refine Runs.ialoadA d10_79 fA_4 (by decide) hi20 <| Runs.iconst d10_80 ci_1 <| Runs.isub d10_81 <| ?_
      refine chk_el hf fun hi21 hf => ?_
      exact Runs.iastoreA d10_82 fA_4 (by decide) hi21 <| Runs.goto (pc' := 100) d10_83 (by decide) <| Runs.forget [true, true, true, true, true, false] rfl <| X_pushWindow_b100_p (sA (sA ob 7 ((i1 * (16 : Int32)) + (gA ob 6 ((i1 * (16 : Int32)) + (gA ob 3 i1)))) ((gA ob 7 ((i1 * (16 : Int32)) + (gA ob 6 ((i1 * (16 : Int32)) + (gA ob 3 i1))))) - (1 : Int32))) 4 i1 ((gA ob 4 i1) - (1 : Int32))) i1 i2 (i1 * (16 : Int32)) (gA ob 3 i1) hf
    · refine Runs.ifY (pc' := 83) d10_66 (feq hc19).2 (by decide) <| ?_
      exact Runs.goto (pc' := 100) d10_83 (by decide) <| Runs.forget [true, true, true, true, true, false] rfl <| X_pushWindow_b100_p (sA ob 7 ((i1 * (16 : Int32)) + (gA ob 6 ((i1 * (16 : Int32)) + (gA ob 3 i1)))) ((gA ob 7 ((i1 * (16 : Int32)) + (gA ob 6 ((i1 * (16 : Int32)) + (gA ob 3 i1))))) - (1 : Int32))) i1 i2 (i1 * (16 : Int32)) (gA ob 3 i1) hf
theorem X_pushWindow_pay {C : Ctx} {top : Nat} {a : Nat} {H : List (Nat × Nat × Rec)} {res : Rec} {ob : Rec} {i1 : Int32} {i2 : Int32} (hf : X_pushWindow ob i1 i2 = some res) : Pays C B10 [.ref a, .int i1, .int i2] (top, (a, 18, ob) :: H) (Ans none (top, (a, 18, res) :: H)) :=
  Pays.of pnK (Nat.le_of_ble_eq_true rfl) (P := [vr a, vi i1, vi i2, vn, vn, vn]) 3 rfl (X_pushWindow_p ob i1 i2 hf)
def X_recordReference_b28 (ob : Rec) (i1 : Int32) (i2 : Int32) (i3 : Int32) : Option (Rec) :=
  chk (4 : Int32) i1 <|
  chk (4 : Int32) i1 <|
  chk (4 : Int32) i1 <|
  chk (64 : Int32) i3 <|
  (X_pushWindow (sA (sA ob 1 i1 ((gA ob 1 i1) + (1 : Int32))) 11 i3 (gA (sA ob 1 i1 ((gA ob 1 i1) + (1 : Int32))) 1 i1)) i1 i2).bind fun q5 =>
  chk (64 : Int32) i3 <|
  if (gA q5 8 i3) = (0 : Int32) then
    chk (64 : Int32) i3 <|
    chk (4 : Int32) i1 <|
    chk (4 : Int32) i1 <|
    some (sA (sA q5 8 i3 (1 : Int32)) 5 i1 ((gA q5 5 i1) + (1 : Int32)))
  else
    some q5
set_option maxRecDepth 65536 in
set_option maxHeartbeats 4000000 in
theorem X_recordReference_b28_p {C : Ctx} {top : Nat} {a : Nat} {H : List (Nat × Nat × Rec)} {res : Rec} (ob : Rec) (i1 : Int32) (i2 : Int32) (i3 : Int32) (hf : X_recordReference_b28 ob i1 i2 i3 = some res) : Runs C B9 0 0 28 [vr a, vi i1, vi i2, vi i3, vn] [] (top, (a, 18, ob) :: H) (Ans none (top, (a, 18, res) :: H)) := by
  delta X_recordReference_b28 at hf
  refine Runs.aloadN d9_28 rfl <| Runs.getA d9_29 fA_1 w13 (by decide) <| Runs.iloadN d9_32 rfl <| Runs.aloadN d9_33 rfl <| Runs.getA d9_34 fA_1 w13 (by decide) <| Runs.iloadN d9_37 rfl <| ?_
  refine chk_el hf fun hi1 hf => ?_
  refine Runs.ialoadA d9_38 fA_1 (by decide) hi1 <| Runs.iconst d9_39 ci_1 <| Runs.iadd d9_40 <| ?_
  refine chk_el hf fun hi2 hf => ?_
  refine Runs.iastoreA d9_41 fA_1 (by decide) hi2 <| Runs.aloadN d9_42 rfl <| Runs.getA d9_43 fA_11 w33 (by decide) <| Runs.iloadN d9_46 rfl <| Runs.aloadN d9_47 rfl <| Runs.getA d9_48 fA_1 w13 (by decide) <| Runs.iloadN d9_51 rfl <| ?_
  refine chk_el hf fun hi3 hf => ?_
  refine Runs.ialoadA d9_52 fA_1 (by decide) hi3 <| ?_
  refine chk_el hf fun hi4 hf => ?_
  refine Runs.iastoreA d9_53 fA_11 (by decide) hi4 <| Runs.aloadN d9_54 rfl <| Runs.iloadN d9_55 rfl <| Runs.iloadN d9_56 rfl <| ?_
  refine bind_el hf fun q5 hg6 hf => ?_
  refine Runs.callP (N := B10) (W := 0) (as := [.int i1, .int i2]) (S' := []) d9_57 w96 w97 w98 rfl cw10 ar10 rk9_10_0 (by decide) rfl rfl (X_pushWindow_pay hg6) <| ans0 <| Runs.aloadN d9_60 rfl <| Runs.getA d9_61 fA_8 w27 (by decide) <| Runs.iloadN d9_64 rfl <| ?_
  refine chk_el hf fun hi7 hf => ?_
  refine Runs.baloadA d9_65 fA_8 (by decide) hi7 <| ?_
  refine ite_el hf (fun hc8 hf => ?_) (fun hc8 hf => ?_)
  · refine Runs.ifN d9_66 (teq hc8).2 <| ?_
    refine Runs.aloadN d9_69 rfl <| Runs.getA d9_70 fA_8 w27 (by decide) <| Runs.iloadN d9_73 rfl <| Runs.iconst d9_74 ci_1 <| ?_
    refine chk_el hf fun hi9 hf => ?_
    refine Runs.bastoreA (y := (1 : Int32)) d9_75 fA_8 (by decide) hi9 rfl <| Runs.aloadN d9_76 rfl <| Runs.getA d9_77 fA_5 w21 (by decide) <| Runs.iloadN d9_80 rfl <| Runs.aloadN d9_81 rfl <| Runs.getA d9_82 fA_5 w21 (by decide) <| Runs.iloadN d9_85 rfl <| ?_
    refine chk_el hf fun hi10 hf => ?_
    refine Runs.ialoadA d9_86 fA_5 (by decide) hi10 <| Runs.iconst d9_87 ci_1 <| Runs.iadd d9_88 <| ?_
    refine chk_el hf fun hi11 hf => ?_
    obtain rfl := Option.some.inj hf
    exact Runs.iastoreA d9_89 fA_5 (by decide) hi11 <| Runs.retV d9_90 rfl ⟨by decide, by decide⟩ ⟨rfl, rfl⟩
  · refine Runs.ifY (pc' := 90) d9_66 (feq hc8).2 (by decide) <| ?_
    obtain rfl := Option.some.inj hf
    exact Runs.retV d9_90 rfl ⟨by decide, by decide⟩ ⟨rfl, rfl⟩
def X_recordReference (ob : Rec) (i1 : Int32) (i2 : Int32) : Option (Rec) :=
  chk (64 : Int32) ((i1 * (16 : Int32)) + i2) <|
  if (gA ob 9 ((i1 * (16 : Int32)) + i2)) < (0 : Int32) then
    X_recordReference_b28 ob i1 i2 ((i1 * (16 : Int32)) + i2)
  else
    chk (32 : Int32) (gA ob 9 ((i1 * (16 : Int32)) + i2)) <|
    X_recordReference_b28 (sA ob 13 (gA ob 9 ((i1 * (16 : Int32)) + i2)) (1 : Int32)) i1 i2 ((i1 * (16 : Int32)) + i2)
set_option maxRecDepth 65536 in
set_option maxHeartbeats 4000000 in
theorem X_recordReference_p {C : Ctx} {top : Nat} {a : Nat} {H : List (Nat × Nat × Rec)} {res : Rec} (ob : Rec) (i1 : Int32) (i2 : Int32) (hf : X_recordReference ob i1 i2 = some res) : Runs C B9 0 0 0 [vr a, vi i1, vi i2, vn, vn] [] (top, (a, 18, ob) :: H) (Ans none (top, (a, 18, res) :: H)) := by
  delta X_recordReference at hf
  refine Runs.iloadN d9_0 rfl <| Runs.bipush d9_1 cb_16 <| Runs.imul d9_3 <| Runs.iloadN d9_4 rfl <| Runs.iadd d9_5 <| Runs.istoreN (P' := [vr a, vi i1, vi i2, vi ((i1 * (16 : Int32)) + i2), vn]) d9_6 (by decide) rfl <| Runs.aloadN d9_7 rfl <| Runs.getA d9_8 fA_9 w29 (by decide) <| Runs.iloadN d9_11 rfl <| ?_
  refine chk_el hf fun hi12 hf => ?_
  refine Runs.ialoadA d9_12 fA_9 (by decide) hi12 <| Runs.istore (P' := [vr a, vi i1, vi i2, vi ((i1 * (16 : Int32)) + i2), vi (gA ob 9 ((i1 * (16 : Int32)) + i2))]) d9_13 (by decide) rfl <| Runs.iload d9_15 rfl <| ?_
  refine ite_el hf (fun hc13 hf => ?_) (fun hc13 hf => ?_)
  · exact Runs.ifY (pc' := 28) d9_17 (tlt hc13).1 (by decide) <| Runs.forget [true, true, true, true, false] rfl <| X_recordReference_b28_p ob i1 i2 ((i1 * (16 : Int32)) + i2) hf
  · refine Runs.ifN d9_17 (flt hc13).1 <| ?_
    refine Runs.aloadN d9_20 rfl <| Runs.getA d9_21 fA_13 w37 (by decide) <| Runs.iload d9_24 rfl <| Runs.iconst d9_26 ci_1 <| ?_
    refine chk_el hf fun hi14 hf => ?_
    exact Runs.bastoreA (y := (1 : Int32)) d9_27 fA_13 (by decide) hi14 rfl <| Runs.forget [true, true, true, true, false] rfl <| X_recordReference_b28_p (sA ob 13 (gA ob 9 ((i1 * (16 : Int32)) + i2)) (1 : Int32)) i1 i2 ((i1 * (16 : Int32)) + i2) hf
theorem X_recordReference_pay {C : Ctx} {top : Nat} {a : Nat} {H : List (Nat × Nat × Rec)} {res : Rec} {ob : Rec} {i1 : Int32} {i2 : Int32} (hf : X_recordReference ob i1 i2 = some res) : Pays C B9 [.ref a, .int i1, .int i2] (top, (a, 18, ob) :: H) (Ans none (top, (a, 18, res) :: H)) :=
  Pays.of pnK (Nat.le_of_ble_eq_true rfl) (P := [vr a, vi i1, vi i2, vn, vn]) 2 rfl (X_recordReference_p ob i1 i2 hf)
def X_activeTotal_w4 (NF : Nat) (ob : Rec) (k4 : Int32 → Int32 → Option (Int32)) (i1 : Int32) (i2 : Int32) : Option (Int32) :=
  if i2 < (gI ob 0) then
    chk (4 : Int32) i2 <|
    if (gA ob 0 i2) = (0 : Int32) then
      chk (4 : Int32) i2 <|
      k4 (i1 + (gA ob 4 i2)) (i2 + (1 : Int32))
    else
      k4 i1 (i2 + (1 : Int32))
  else
    some i1
def X_activeTotal_l4 (NF : Nat) (ob : Rec) : Nat → Int32 → Int32 → Option (Int32)
  | 0, _, _ => none
  | n + 1, i1, i2 => X_activeTotal_w4 NF ob (X_activeTotal_l4 NF ob n) i1 i2
set_option maxRecDepth 65536 in
set_option maxHeartbeats 4000000 in
theorem X_activeTotal_w4_p {C : Ctx} {top : Nat} {a : Nat} {H : List (Nat × Nat × Rec)} {ob : Rec} {res : Int32} {NF : Nat} (k4 : Int32 → Int32 → Option (Int32)) (hk4 : ∀ (i1 : Int32) (i2 : Int32), k4 i1 i2 = some res → Runs C B12 0 0 4 [vr a, vi i1, vi i2] [] (top, (a, 18, ob) :: H) (Ans (some (.int res)) (top, (a, 18, ob) :: H))) (i1 : Int32) (i2 : Int32) (hf : X_activeTotal_w4 NF ob k4 i1 i2 = some res) : Runs C B12 0 0 4 [vr a, vi i1, vi i2] [] (top, (a, 18, ob) :: H) (Ans (some (.int res)) (top, (a, 18, ob) :: H)) := by
  delta X_activeTotal_w4 at hf
  refine Runs.iloadN d12_4 rfl <| Runs.aloadN d12_5 rfl <| Runs.getI d12_6 w51 fS_0 <| ?_
  refine ite_el hf (fun hc1 hf => ?_) (fun hc1 hf => ?_)
  · refine Runs.icN d12_9 (tlt hc1).2.1 <| ?_
    refine Runs.aloadN d12_12 rfl <| Runs.getA d12_13 fA_0 w10 (by decide) <| Runs.iloadN d12_16 rfl <| ?_
    refine chk_el hf fun hi2 hf => ?_
    refine Runs.baloadA d12_17 fA_0 (by decide) hi2 <| ?_
    refine ite_el hf (fun hc3 hf => ?_) (fun hc3 hf => ?_)
    · refine Runs.ifN d12_18 (teq hc3).2 <| ?_
      refine Runs.iloadN d12_21 rfl <| Runs.aloadN d12_22 rfl <| Runs.getA d12_23 fA_4 w19 (by decide) <| Runs.iloadN d12_26 rfl <| ?_
      refine chk_el hf fun hi4 hf => ?_
      exact Runs.ialoadA d12_27 fA_4 (by decide) hi4 <| Runs.iadd d12_28 <| Runs.istoreN (P' := [vr a, vi (i1 + (gA ob 4 i2)), vi i2]) d12_29 (by decide) rfl <| Runs.iinc (P' := [vr a, vi (i1 + (gA ob 4 i2)), vi (i2 + (1 : Int32))]) d12_30 ci_1 rfl (by decide) rfl <| Runs.goto (pc' := 4) d12_33 (by decide) <| hk4 (i1 + (gA ob 4 i2)) (i2 + (1 : Int32)) hf
    · refine Runs.ifY (pc' := 30) d12_18 (feq hc3).2 (by decide) <| ?_
      exact Runs.iinc (P' := [vr a, vi i1, vi (i2 + (1 : Int32))]) d12_30 ci_1 rfl (by decide) rfl <| Runs.goto (pc' := 4) d12_33 (by decide) <| hk4 i1 (i2 + (1 : Int32)) hf
  · refine Runs.icY (pc' := 36) d12_9 (flt hc1).2.1 (by decide) <| ?_
    obtain rfl := Option.some.inj hf
    exact Runs.iloadN d12_36 rfl <| Runs.retI d12_37 rfl ⟨by decide, by decide⟩ ⟨rfl, rfl⟩
theorem X_activeTotal_l4_p {C : Ctx} {top : Nat} {a : Nat} {H : List (Nat × Nat × Rec)} {ob : Rec} {res : Int32} {NF : Nat} (n : Nat) (i1 : Int32) (i2 : Int32) (hf : X_activeTotal_l4 NF ob n i1 i2 = some res) : Runs C B12 0 0 4 [vr a, vi i1, vi i2] [] (top, (a, 18, ob) :: H) (Ans (some (.int res)) (top, (a, 18, ob) :: H)) := by
  induction n generalizing i1 i2 with
  | zero => cases (show (none : Option (Int32)) = some res from hf)
  | succ n ih => exact X_activeTotal_w4_p (X_activeTotal_l4 NF ob n) (fun i1 i2 h => ih _ _ h) i1 i2 hf
def X_activeTotal (NF : Nat) (ob : Rec) : Option (Int32) :=
  X_activeTotal_l4 NF ob NF (0 : Int32) (0 : Int32)
set_option maxRecDepth 65536 in
set_option maxHeartbeats 4000000 in
theorem X_activeTotal_p {C : Ctx} {top : Nat} {a : Nat} {H : List (Nat × Nat × Rec)} {ob : Rec} {res : Int32} {NF : Nat} (hf : X_activeTotal NF ob = some res) : Runs C B12 0 0 0 [vr a, vn, vn] [] (top, (a, 18, ob) :: H) (Ans (some (.int res)) (top, (a, 18, ob) :: H)) := by
  delta X_activeTotal at hf
  exact Runs.iconst d12_0 ci_0 <| Runs.istoreN (P' := [vr a, vi (0 : Int32), vn]) d12_1 (by decide) rfl <| Runs.iconst d12_2 ci_0 <| Runs.istoreN (P' := [vr a, vi (0 : Int32), vi (0 : Int32)]) d12_3 (by decide) rfl <| X_activeTotal_l4_p NF (0 : Int32) (0 : Int32) hf
theorem X_activeTotal_pay {C : Ctx} {top : Nat} {a : Nat} {H : List (Nat × Nat × Rec)} {ob : Rec} {res : Int32} {NF : Nat} (hf : X_activeTotal NF ob = some res) : Pays C B12 [.ref a] (top, (a, 18, ob) :: H) (Ans (some (.int res)) (top, (a, 18, ob) :: H)) :=
  Pays.of pnK (Nat.le_of_ble_eq_true rfl) (P := [vr a, vn, vn]) 2 rfl (X_activeTotal_p hf)
def X_loadControl_w67 (NF : Nat) (k67 : Rec → Int32 → Option (Rec)) (ob : Rec) (i2 : Int32) : Option (Rec) :=
  if i2 < (gI ob 0) then
    chk (4 : Int32) i2 <|
    if (gA ob 0 i2) = (0 : Int32) then
      k67 ob (i2 + (1 : Int32))
    else
      (X_activeTotal NF ob).bind fun r4 =>
      chk (4 : Int32) i2 <|
      if (gI ob 2) < (r4 + (gA ob 4 i2)) then
        k67 ob (i2 + (1 : Int32))
      else
        chk (4 : Int32) i2 <|
        k67 (sI (sA ob 0 i2 (0 : Int32)) 6 ((gI ob 6) + (1 : Int32))) (i2 + (1 : Int32))
  else
    some ob
def X_loadControl_l67 (NF : Nat) : Nat → Rec → Int32 → Option (Rec)
  | 0, _, _ => none
  | n + 1, ob, i2 => X_loadControl_w67 NF (X_loadControl_l67 NF n) ob i2
set_option maxRecDepth 65536 in
set_option maxHeartbeats 4000000 in
theorem X_loadControl_w67_p {C : Ctx} {top : Nat} {a : Nat} {H : List (Nat × Nat × Rec)} {res : Rec} {NF : Nat} (k67 : Rec → Int32 → Option (Rec)) (hk67 : ∀ (ob : Rec) (i2 : Int32), k67 ob i2 = some res → Runs C B11 0 0 67 [vr a, vn, vi i2, vn, vn] [] (top, (a, 18, ob) :: H) (Ans none (top, (a, 18, res) :: H))) (ob : Rec) (i2 : Int32) (hf : X_loadControl_w67 NF k67 ob i2 = some res) : Runs C B11 0 0 67 [vr a, vn, vi i2, vn, vn] [] (top, (a, 18, ob) :: H) (Ans none (top, (a, 18, res) :: H)) := by
  delta X_loadControl_w67 at hf
  refine Runs.iloadN d11_67 rfl <| Runs.aloadN d11_68 rfl <| Runs.getI d11_69 w51 fS_0 <| ?_
  refine ite_el hf (fun hc1 hf => ?_) (fun hc1 hf => ?_)
  · refine Runs.icN d11_72 (tlt hc1).2.1 <| ?_
    refine Runs.aloadN d11_75 rfl <| Runs.getA d11_76 fA_0 w10 (by decide) <| Runs.iloadN d11_79 rfl <| ?_
    refine chk_el hf fun hi2 hf => ?_
    refine Runs.baloadA d11_80 fA_0 (by decide) hi2 <| ?_
    refine ite_el hf (fun hc3 hf => ?_) (fun hc3 hf => ?_)
    · refine Runs.ifY (pc' := 121) d11_81 (teq hc3).1 (by decide) <| ?_
      exact Runs.iinc (P' := [vr a, vn, vi (i2 + (1 : Int32)), vn, vn]) d11_121 ci_1 rfl (by decide) rfl <| Runs.goto (pc' := 67) d11_124 (by decide) <| hk67 ob (i2 + (1 : Int32)) hf
    · refine Runs.ifN d11_81 (feq hc3).1 <| ?_
      refine Runs.aloadN d11_84 rfl <| ?_
      refine bind_el hf fun r4 hg5 hf => ?_
      refine Runs.callV (N := B12) (W := 0) (as := []) (S' := []) d11_85 w104 w105 w106 w107 cw12 ar12 rk11_12_0 (by decide) rfl rfl (X_activeTotal_pay hg5) <| ans1 <| Runs.istoreN (P' := [vr a, vn, vi i2, vi r4, vn]) d11_88 (by decide) rfl <| Runs.iloadN d11_89 rfl <| Runs.aloadN d11_90 rfl <| Runs.getA d11_91 fA_4 w19 (by decide) <| Runs.iloadN d11_94 rfl <| ?_
      refine chk_el hf fun hi6 hf => ?_
      refine Runs.ialoadA d11_95 fA_4 (by decide) hi6 <| Runs.iadd d11_96 <| Runs.aloadN d11_97 rfl <| Runs.getI d11_98 w55 fS_2 <| ?_
      refine ite_el hf (fun hc7 hf => ?_) (fun hc7 hf => ?_)
      · refine Runs.icY (pc' := 121) d11_101 (tlt hc7).2.2.1 (by decide) <| ?_
        exact Runs.iinc (P' := [vr a, vn, vi (i2 + (1 : Int32)), vi r4, vn]) d11_121 ci_1 rfl (by decide) rfl <| Runs.goto (pc' := 67) d11_124 (by decide) <| Runs.forget [true, false, true, false, false] rfl <| hk67 ob (i2 + (1 : Int32)) hf
      · refine Runs.icN d11_101 (flt hc7).2.2.1 <| ?_
        refine Runs.aloadN d11_104 rfl <| Runs.getA d11_105 fA_0 w10 (by decide) <| Runs.iloadN d11_108 rfl <| Runs.iconst d11_109 ci_0 <| ?_
        refine chk_el hf fun hi8 hf => ?_
        exact Runs.bastoreA (y := (0 : Int32)) d11_110 fA_0 (by decide) hi8 rfl <| Runs.aloadN d11_111 rfl <| Runs.dup d11_112 rfl <| Runs.getI d11_113 w63 fS_6 <| Runs.iconst d11_116 ci_1 <| Runs.iadd d11_117 <| Runs.putI d11_118 w63 fS_6 (Or.inl w64) <| Runs.iinc (P' := [vr a, vn, vi (i2 + (1 : Int32)), vi r4, vn]) d11_121 ci_1 rfl (by decide) rfl <| Runs.goto (pc' := 67) d11_124 (by decide) <| Runs.forget [true, false, true, false, false] rfl <| hk67 (sI (sA ob 0 i2 (0 : Int32)) 6 ((gI ob 6) + (1 : Int32))) (i2 + (1 : Int32)) hf
  · refine Runs.icY (pc' := 127) d11_72 (flt hc1).2.1 (by decide) <| ?_
    obtain rfl := Option.some.inj hf
    exact Runs.retV d11_127 rfl ⟨by decide, by decide⟩ ⟨rfl, rfl⟩
theorem X_loadControl_l67_p {C : Ctx} {top : Nat} {a : Nat} {H : List (Nat × Nat × Rec)} {res : Rec} {NF : Nat} (n : Nat) (ob : Rec) (i2 : Int32) (hf : X_loadControl_l67 NF n ob i2 = some res) : Runs C B11 0 0 67 [vr a, vn, vi i2, vn, vn] [] (top, (a, 18, ob) :: H) (Ans none (top, (a, 18, res) :: H)) := by
  induction n generalizing ob i2 with
  | zero => cases (show (none : Option (Rec)) = some res from hf)
  | succ n ih => exact X_loadControl_w67_p (X_loadControl_l67 NF n) (fun ob i2 h => ih _ _ h) ob i2 hf
def X_loadControl (NF : Nat) (ob : Rec) (i1 : Int32) : Option (Rec) :=
  if (0 : Int32) < (gI ob 0) then
    (X_activeTotal NF ob).bind fun r10 =>
    if (gI ob 2) < r10 then
      none
    else
      X_loadControl_l67 NF NF ob (0 : Int32)
  else
    X_loadControl_l67 NF NF ob (0 : Int32)
set_option maxRecDepth 65536 in
set_option maxHeartbeats 4000000 in
theorem X_loadControl_p {C : Ctx} {top : Nat} {a : Nat} {H : List (Nat × Nat × Rec)} {res : Rec} {NF : Nat} (ob : Rec) (i1 : Int32) (hf : X_loadControl NF ob i1 = some res) : Runs C B11 0 0 0 [vr a, vi i1, vn, vn, vn] [] (top, (a, 18, ob) :: H) (Ans none (top, (a, 18, res) :: H)) := by
  delta X_loadControl at hf
  refine Runs.iconst d11_0 ci_0 <| Runs.istoreN (P' := [vr a, vi i1, vi (0 : Int32), vn, vn]) d11_1 (by decide) rfl <| Runs.iloadN d11_2 rfl <| Runs.aloadN d11_3 rfl <| Runs.getI d11_4 w51 fS_0 <| ?_
  refine ite_el hf (fun hc9 hf => ?_) (fun hc9 hf => ?_)
  · refine Runs.icN d11_7 (tlt hc9).2.1 <| ?_
    refine Runs.aloadN d11_10 rfl <| ?_
    refine bind_el hf fun r10 hg11 hf => ?_
    refine Runs.callV (N := B12) (W := 0) (as := []) (S' := []) d11_11 w104 w105 w106 w107 cw12 ar12 rk11_12_0 (by decide) rfl rfl (X_activeTotal_pay hg11) <| ans1 <| Runs.istoreN (P' := [vr a, vi i1, vi (0 : Int32), vi r10, vn]) d11_14 (by decide) rfl <| Runs.iloadN d11_15 rfl <| Runs.aloadN d11_16 rfl <| Runs.getI d11_17 w55 fS_2 <| ?_
    refine ite_el hf (fun hc12 hf => ?_) (fun hc12 hf => ?_)
    · refine Runs.icY (pc' := 26) d11_20 (tlt hc12).2.2.1 (by decide) <| ?_
      cases hf
    · refine Runs.icN d11_20 (flt hc12).2.2.1 <| ?_
      exact Runs.goto (pc' := 65) d11_23 (by decide) <| Runs.iconst d11_65 ci_0 <| Runs.istoreN (P' := [vr a, vi i1, vi (0 : Int32), vi r10, vn]) d11_66 (by decide) rfl <| Runs.forget [true, false, true, false, false] rfl <| X_loadControl_l67_p NF ob (0 : Int32) hf
  · refine Runs.icY (pc' := 65) d11_7 (flt hc9).2.1 (by decide) <| ?_
    exact Runs.iconst d11_65 ci_0 <| Runs.istoreN (P' := [vr a, vi i1, vi (0 : Int32), vn, vn]) d11_66 (by decide) rfl <| Runs.forget [true, false, true, false, false] rfl <| X_loadControl_l67_p NF ob (0 : Int32) hf
theorem X_loadControl_pay {C : Ctx} {top : Nat} {a : Nat} {H : List (Nat × Nat × Rec)} {res : Rec} {NF : Nat} {ob : Rec} {i1 : Int32} (hf : X_loadControl NF ob i1 = some res) : Pays C B11 [.ref a, .int i1] (top, (a, 18, ob) :: H) (Ans none (top, (a, 18, res) :: H)) :=
  Pays.of pnK (Nat.le_of_ble_eq_true rfl) (P := [vr a, vi i1, vn, vn, vn]) 3 rfl (X_loadControl_p ob i1 hf)
def X_store (NF : Nat) (ob : Rec) (i1 : Int32) (i2 : Int32) (i3 : Int32) : Option (Int32 × Rec) :=
  (X_check ob i1 i2).bind fun r1 =>
  if r1 = (0 : Int32) then
    bind2 (X_ensureResident NF ob i1 (i2 / (4 : Int32))) fun r4 q5 =>
    chk (128 : Int32) ((r4 * (4 : Int32)) + (i2 % (4 : Int32))) <|
    chk (32 : Int32) r4 <|
    (X_recordReference (sA (sA q5 15 ((r4 * (4 : Int32)) + (i2 % (4 : Int32))) i3) 14 r4 (1 : Int32)) i1 (i2 / (4 : Int32))).bind fun q9 =>
    (X_loadControl NF q9 i1).bind fun q11 =>
    some ((0 : Int32), (sI q11 4 (0 : Int32)))
  else
    some (r1, (sI ob 4 r1))
set_option maxRecDepth 65536 in
set_option maxHeartbeats 4000000 in
theorem X_store_p {C : Ctx} {top : Nat} {a : Nat} {H : List (Nat × Nat × Rec)} {res : Int32 × Rec} {NF : Nat} (ob : Rec) (i1 : Int32) (i2 : Int32) (i3 : Int32) (hf : X_store NF ob i1 i2 i3 = some res) : Runs C B3 0 0 0 [vr a, vi i1, vi i2, vi i3, vn, vn, vn] [] (top, (a, 18, ob) :: H) (Ans (some (.int res.1)) (top, (a, 18, res.2) :: H)) := by
  delta X_store at hf
  refine Runs.aloadN d3_0 rfl <| Runs.iloadN d3_1 rfl <| Runs.iloadN d3_2 rfl <| ?_
  refine bind_el hf fun r1 hg2 hf => ?_
  refine Runs.callP (N := B4) (W := 0) (as := [.int i1, .int i2]) (S' := []) d3_3 w72 w73 w74 rfl cw4 ar4 rk3_4_0 (by decide) rfl rfl (X_check_pay hg2) <| ans1 <| Runs.istore (P' := [vr a, vi i1, vi i2, vi i3, vi r1, vn, vn]) d3_6 (by decide) rfl <| Runs.iload d3_8 rfl <| ?_
  refine ite_el hf (fun hc3 hf => ?_) (fun hc3 hf => ?_)
  · refine Runs.ifY (pc' := 22) d3_10 (teq hc3).1 (by decide) <| ?_
    refine Runs.iloadN d3_22 rfl <| Runs.iconst d3_23 ci_4 <| Runs.idiv d3_24 (by decide) <| Runs.istore (P' := [vr a, vi i1, vi i2, vi i3, vi r1, vi (i2 / (4 : Int32)), vn]) d3_25 (by decide) rfl <| Runs.aloadN d3_27 rfl <| Runs.iloadN d3_28 rfl <| Runs.iload d3_29 rfl <| ?_
    refine bind2_el hf fun r4 q5 hg6 hf => ?_
    refine Runs.callP (N := B6) (W := 0) (as := [.int i1, .int (i2 / (4 : Int32))]) (S' := []) d3_31 w80 w81 w82 rfl cw6 ar6 rk3_6_0 (by decide) rfl rfl (X_ensureResident_pay hg6) <| ans1 <| Runs.istore (P' := [vr a, vi i1, vi i2, vi i3, vi r1, vi (i2 / (4 : Int32)), vi r4]) d3_34 (by decide) rfl <| Runs.aloadN d3_36 rfl <| Runs.getA d3_37 fA_15 w41 (by decide) <| Runs.iload d3_40 rfl <| Runs.iconst d3_42 ci_4 <| Runs.imul d3_43 <| Runs.iloadN d3_44 rfl <| Runs.iconst d3_45 ci_4 <| Runs.irem d3_46 (by decide) <| Runs.iadd d3_47 <| Runs.iloadN d3_48 rfl <| ?_
    refine chk_el hf fun hi7 hf => ?_
    refine Runs.iastoreA d3_49 fA_15 (by decide) hi7 <| Runs.aloadN d3_50 rfl <| Runs.getA d3_51 fA_14 w39 (by decide) <| Runs.iload d3_54 rfl <| Runs.iconst d3_56 ci_1 <| ?_
    refine chk_el hf fun hi8 hf => ?_
    refine Runs.bastoreA (y := (1 : Int32)) d3_57 fA_14 (by decide) hi8 rfl <| Runs.aloadN d3_58 rfl <| Runs.iloadN d3_59 rfl <| Runs.iload d3_60 rfl <| ?_
    refine bind_el hf fun q9 hg10 hf => ?_
    refine Runs.callP (N := B9) (W := 0) (as := [.int i1, .int (i2 / (4 : Int32))]) (S' := []) d3_62 w92 w93 w94 rfl cw9 ar9 rk3_9_0 (by decide) rfl rfl (X_recordReference_pay hg10) <| ans0 <| Runs.aloadN d3_65 rfl <| Runs.iloadN d3_66 rfl <| ?_
    refine bind_el hf fun q11 hg12 hf => ?_
    obtain rfl := Option.some.inj hf
    exact Runs.callP (N := B11) (W := 0) (as := [.int i1]) (S' := []) d3_67 w100 w101 w102 rfl cw11 ar11 rk3_11_0 (by decide) rfl rfl (X_loadControl_pay hg12) <| ans0 <| Runs.aloadN d3_70 rfl <| Runs.iconst d3_71 ci_0 <| Runs.putI d3_72 w59 fS_4 (Or.inl w60) <| Runs.iconst d3_75 ci_0 <| Runs.retI d3_76 rfl ⟨by decide, by decide⟩ ⟨rfl, rfl⟩
  · refine Runs.ifN d3_10 (feq hc3).1 <| ?_
    obtain rfl := Option.some.inj hf
    exact Runs.aloadN d3_13 rfl <| Runs.iload d3_14 rfl <| Runs.putI d3_16 w59 fS_4 (Or.inl w60) <| Runs.iload d3_19 rfl <| Runs.retI d3_21 rfl ⟨by decide, by decide⟩ ⟨rfl, rfl⟩
theorem X_store_pay {C : Ctx} {top : Nat} {a : Nat} {H : List (Nat × Nat × Rec)} {res : Int32 × Rec} {NF : Nat} {ob : Rec} {i1 : Int32} {i2 : Int32} {i3 : Int32} (hf : X_store NF ob i1 i2 i3 = some res) : Pays C B3 [.ref a, .int i1, .int i2, .int i3] (top, (a, 18, ob) :: H) (Ans (some (.int res.1)) (top, (a, 18, res.2) :: H)) :=
  Pays.of pnK (Nat.le_of_ble_eq_true rfl) (P := [vr a, vi i1, vi i2, vi i3, vn, vn, vn]) 3 rfl (X_store_p ob i1 i2 i3 hf)
def X_lastStatus (ob : Rec) : Option (Int32) :=
  some (gI ob 4)
set_option maxRecDepth 65536 in
set_option maxHeartbeats 4000000 in
theorem X_lastStatus_p {C : Ctx} {top : Nat} {a : Nat} {H : List (Nat × Nat × Rec)} {ob : Rec} {res : Int32} (hf : X_lastStatus ob = some res) : Runs C B13 0 0 0 [vr a] [] (top, (a, 18, ob) :: H) (Ans (some (.int res)) (top, (a, 18, ob) :: H)) := by
  delta X_lastStatus at hf
  obtain rfl := Option.some.inj hf
  exact Runs.aloadN d13_0 rfl <| Runs.getI d13_1 w59 fS_4 <| Runs.retI d13_4 rfl ⟨by decide, by decide⟩ ⟨rfl, rfl⟩
theorem X_lastStatus_pay {C : Ctx} {top : Nat} {a : Nat} {H : List (Nat × Nat × Rec)} {ob : Rec} {res : Int32} (hf : X_lastStatus ob = some res) : Pays C B13 [.ref a] (top, (a, 18, ob) :: H) (Ans (some (.int res)) (top, (a, 18, ob) :: H)) :=
  Pays.of pnK (Nat.le_of_ble_eq_true rfl) (P := [vr a]) 0 rfl (X_lastStatus_p hf)
def X_readWord (ob : Rec) (i1 : Int32) (i2 : Int32) : Option (Int32) :=
  chk (64 : Int32) i1 <|
  if (gA ob 9 i1) < (0 : Int32) then
    chk (64 : Int32) i1 <|
    if (gA ob 10 i1) < (0 : Int32) then
      some (0 : Int32)
    else
      chk (256 : Int32) (((gA ob 10 i1) * (4 : Int32)) + i2) <|
      some (gA ob 17 (((gA ob 10 i1) * (4 : Int32)) + i2))
  else
    chk (128 : Int32) (((gA ob 9 i1) * (4 : Int32)) + i2) <|
    some (gA ob 15 (((gA ob 9 i1) * (4 : Int32)) + i2))
set_option maxRecDepth 65536 in
set_option maxHeartbeats 4000000 in
theorem X_readWord_p {C : Ctx} {top : Nat} {a : Nat} {H : List (Nat × Nat × Rec)} {ob : Rec} {res : Int32} (i1 : Int32) (i2 : Int32) (hf : X_readWord ob i1 i2 = some res) : Runs C B15 0 0 0 [vr a, vi i1, vi i2, vn, vn] [] (top, (a, 18, ob) :: H) (Ans (some (.int res)) (top, (a, 18, ob) :: H)) := by
  delta X_readWord at hf
  refine Runs.aloadN d15_0 rfl <| Runs.getA d15_1 fA_9 w29 (by decide) <| Runs.iloadN d15_4 rfl <| ?_
  refine chk_el hf fun hi1 hf => ?_
  refine Runs.ialoadA d15_5 fA_9 (by decide) hi1 <| Runs.istoreN (P' := [vr a, vi i1, vi i2, vi (gA ob 9 i1), vn]) d15_6 (by decide) rfl <| Runs.iloadN d15_7 rfl <| ?_
  refine ite_el hf (fun hc2 hf => ?_) (fun hc2 hf => ?_)
  · refine Runs.ifY (pc' := 22) d15_8 (tlt hc2).1 (by decide) <| ?_
    refine Runs.aloadN d15_22 rfl <| Runs.getA d15_23 fA_10 w31 (by decide) <| Runs.iloadN d15_26 rfl <| ?_
    refine chk_el hf fun hi3 hf => ?_
    refine Runs.ialoadA d15_27 fA_10 (by decide) hi3 <| Runs.istore (P' := [vr a, vi i1, vi i2, vi (gA ob 9 i1), vi (gA ob 10 i1)]) d15_28 (by decide) rfl <| Runs.iload d15_30 rfl <| ?_
    refine ite_el hf (fun hc4 hf => ?_) (fun hc4 hf => ?_)
    · refine Runs.ifY (pc' := 47) d15_32 (tlt hc4).1 (by decide) <| ?_
      obtain rfl := Option.some.inj hf
      exact Runs.iconst d15_47 ci_0 <| Runs.retI d15_48 rfl ⟨by decide, by decide⟩ ⟨rfl, rfl⟩
    · refine Runs.ifN d15_32 (flt hc4).1 <| ?_
      refine Runs.aloadN d15_35 rfl <| Runs.getA d15_36 fA_17 w45 (by decide) <| Runs.iload d15_39 rfl <| Runs.iconst d15_41 ci_4 <| Runs.imul d15_42 <| Runs.iloadN d15_43 rfl <| Runs.iadd d15_44 <| ?_
      refine chk_el hf fun hi5 hf => ?_
      obtain rfl := Option.some.inj hf
      exact Runs.ialoadA d15_45 fA_17 (by decide) hi5 <| Runs.retI d15_46 rfl ⟨by decide, by decide⟩ ⟨rfl, rfl⟩
  · refine Runs.ifN d15_8 (flt hc2).1 <| ?_
    refine Runs.aloadN d15_11 rfl <| Runs.getA d15_12 fA_15 w41 (by decide) <| Runs.iloadN d15_15 rfl <| Runs.iconst d15_16 ci_4 <| Runs.imul d15_17 <| Runs.iloadN d15_18 rfl <| Runs.iadd d15_19 <| ?_
    refine chk_el hf fun hi6 hf => ?_
    obtain rfl := Option.some.inj hf
    exact Runs.ialoadA d15_20 fA_15 (by decide) hi6 <| Runs.retI d15_21 rfl ⟨by decide, by decide⟩ ⟨rfl, rfl⟩
theorem X_readWord_pay {C : Ctx} {top : Nat} {a : Nat} {H : List (Nat × Nat × Rec)} {ob : Rec} {res : Int32} {i1 : Int32} {i2 : Int32} (hf : X_readWord ob i1 i2 = some res) : Pays C B15 [.ref a, .int i1, .int i2] (top, (a, 18, ob) :: H) (Ans (some (.int res)) (top, (a, 18, ob) :: H)) :=
  Pays.of pnK (Nat.le_of_ble_eq_true rfl) (P := [vr a, vi i1, vi i2, vn, vn]) 2 rfl (X_readWord_p i1 i2 hf)
def X_memorySum_w33 (NF : Nat) (ob : Rec) (k14 : Int32 → Int32 → Int32 → Option (Int32)) (k33 : Int32 → Int32 → Int32 → Int32 → Int32 → Option (Int32)) (i1 : Int32) (i2 : Int32) (i3 : Int32) (i4 : Int32) (i5 : Int32) : Option (Int32) :=
  if i5 < (4 : Int32) then
    (X_readWord ob i4 i5).bind fun r3 =>
    k33 i1 (i2 + r3) i3 i4 (i5 + (1 : Int32))
  else
    k14 i1 i2 (i3 + (1 : Int32))
def X_memorySum_l33 (NF : Nat) (ob : Rec) (k14 : Int32 → Int32 → Int32 → Option (Int32)) : Nat → Int32 → Int32 → Int32 → Int32 → Int32 → Option (Int32)
  | 0, _, _, _, _, _ => none
  | n + 1, i1, i2, i3, i4, i5 => X_memorySum_w33 NF ob k14 (X_memorySum_l33 NF ob k14 n) i1 i2 i3 i4 i5
set_option maxRecDepth 65536 in
set_option maxHeartbeats 4000000 in
theorem X_memorySum_w33_p {C : Ctx} {top : Nat} {a : Nat} {H : List (Nat × Nat × Rec)} {ob : Rec} {res : Int32} {NF : Nat} (k14 : Int32 → Int32 → Int32 → Option (Int32)) (hk14 : ∀ (i1 : Int32) (i2 : Int32) (i3 : Int32), k14 i1 i2 i3 = some res → Runs C B14 0 0 14 [vr a, vi i1, vi i2, vi i3, vn, vn] [] (top, (a, 18, ob) :: H) (Ans (some (.int res)) (top, (a, 18, ob) :: H))) (k33 : Int32 → Int32 → Int32 → Int32 → Int32 → Option (Int32)) (hk33 : ∀ (i1 : Int32) (i2 : Int32) (i3 : Int32) (i4 : Int32) (i5 : Int32), k33 i1 i2 i3 i4 i5 = some res → Runs C B14 0 0 33 [vr a, vi i1, vi i2, vi i3, vi i4, vi i5] [] (top, (a, 18, ob) :: H) (Ans (some (.int res)) (top, (a, 18, ob) :: H))) (i1 : Int32) (i2 : Int32) (i3 : Int32) (i4 : Int32) (i5 : Int32) (hf : X_memorySum_w33 NF ob k14 k33 i1 i2 i3 i4 i5 = some res) : Runs C B14 0 0 33 [vr a, vi i1, vi i2, vi i3, vi i4, vi i5] [] (top, (a, 18, ob) :: H) (Ans (some (.int res)) (top, (a, 18, ob) :: H)) := by
  delta X_memorySum_w33 at hf
  refine Runs.iload d14_33 rfl <| Runs.iconst d14_35 ci_4 <| ?_
  refine ite_el hf (fun hc2 hf => ?_) (fun hc2 hf => ?_)
  · refine Runs.icN d14_36 (tlt hc2).2.1 <| ?_
    refine Runs.iloadN d14_39 rfl <| Runs.aloadN d14_40 rfl <| Runs.iload d14_41 rfl <| Runs.iload d14_43 rfl <| ?_
    refine bind_el hf fun r3 hg4 hf => ?_
    exact Runs.callP (N := B15) (W := 1) (as := [.int i4, .int i5]) (S' := [.int i2]) d14_45 w119 w120 w121 rfl cw15 ar15 rk14_15_1 (by decide) rfl rfl (X_readWord_pay hg4) <| ans1 <| Runs.iadd d14_48 <| Runs.istoreN (P' := [vr a, vi i1, vi (i2 + r3), vi i3, vi i4, vi i5]) d14_49 (by decide) rfl <| Runs.iinc (P' := [vr a, vi i1, vi (i2 + r3), vi i3, vi i4, vi (i5 + (1 : Int32))]) d14_50 ci_1 rfl (by decide) rfl <| Runs.goto (pc' := 33) d14_53 (by decide) <| hk33 i1 (i2 + r3) i3 i4 (i5 + (1 : Int32)) hf
  · refine Runs.icY (pc' := 56) d14_36 (flt hc2).2.1 (by decide) <| ?_
    exact Runs.iinc (P' := [vr a, vi i1, vi i2, vi (i3 + (1 : Int32)), vi i4, vi i5]) d14_56 ci_1 rfl (by decide) rfl <| Runs.goto (pc' := 14) d14_59 (by decide) <| Runs.forget [true, true, true, true, false, false] rfl <| hk14 i1 i2 (i3 + (1 : Int32)) hf
theorem X_memorySum_l33_p {C : Ctx} {top : Nat} {a : Nat} {H : List (Nat × Nat × Rec)} {ob : Rec} {res : Int32} {NF : Nat} (k14 : Int32 → Int32 → Int32 → Option (Int32)) (hk14 : ∀ (i1 : Int32) (i2 : Int32) (i3 : Int32), k14 i1 i2 i3 = some res → Runs C B14 0 0 14 [vr a, vi i1, vi i2, vi i3, vn, vn] [] (top, (a, 18, ob) :: H) (Ans (some (.int res)) (top, (a, 18, ob) :: H))) (n : Nat) (i1 : Int32) (i2 : Int32) (i3 : Int32) (i4 : Int32) (i5 : Int32) (hf : X_memorySum_l33 NF ob k14 n i1 i2 i3 i4 i5 = some res) : Runs C B14 0 0 33 [vr a, vi i1, vi i2, vi i3, vi i4, vi i5] [] (top, (a, 18, ob) :: H) (Ans (some (.int res)) (top, (a, 18, ob) :: H)) := by
  induction n generalizing i1 i2 i3 i4 i5 with
  | zero => cases (show (none : Option (Int32)) = some res from hf)
  | succ n ih => exact X_memorySum_w33_p k14 hk14 (X_memorySum_l33 NF ob k14 n) (fun i1 i2 i3 i4 i5 h => ih _ _ _ _ _ h) i1 i2 i3 i4 i5 hf
def X_memorySum_w14 (NF : Nat) (ob : Rec) (k14 : Int32 → Int32 → Int32 → Option (Int32)) (i1 : Int32) (i2 : Int32) (i3 : Int32) : Option (Int32) :=
  if i3 < (gI ob 1) then
    X_memorySum_l33 NF ob k14 NF i1 i2 i3 ((i1 * (16 : Int32)) + i3) (0 : Int32)
  else
    some i2
def X_memorySum_l14 (NF : Nat) (ob : Rec) : Nat → Int32 → Int32 → Int32 → Option (Int32)
  | 0, _, _, _ => none
  | n + 1, i1, i2, i3 => X_memorySum_w14 NF ob (X_memorySum_l14 NF ob n) i1 i2 i3
set_option maxRecDepth 65536 in
set_option maxHeartbeats 4000000 in
theorem X_memorySum_w14_p {C : Ctx} {top : Nat} {a : Nat} {H : List (Nat × Nat × Rec)} {ob : Rec} {res : Int32} {NF : Nat} (k14 : Int32 → Int32 → Int32 → Option (Int32)) (hk14 : ∀ (i1 : Int32) (i2 : Int32) (i3 : Int32), k14 i1 i2 i3 = some res → Runs C B14 0 0 14 [vr a, vi i1, vi i2, vi i3, vn, vn] [] (top, (a, 18, ob) :: H) (Ans (some (.int res)) (top, (a, 18, ob) :: H))) (i1 : Int32) (i2 : Int32) (i3 : Int32) (hf : X_memorySum_w14 NF ob k14 i1 i2 i3 = some res) : Runs C B14 0 0 14 [vr a, vi i1, vi i2, vi i3, vn, vn] [] (top, (a, 18, ob) :: H) (Ans (some (.int res)) (top, (a, 18, ob) :: H)) := by
  delta X_memorySum_w14 at hf
  refine Runs.iloadN d14_14 rfl <| Runs.aloadN d14_15 rfl <| Runs.getI d14_16 w53 fS_1 <| ?_
  refine ite_el hf (fun hc1 hf => ?_) (fun hc1 hf => ?_)
  · refine Runs.icN d14_19 (tlt hc1).2.1 <| ?_
    exact Runs.iloadN d14_22 rfl <| Runs.bipush d14_23 cb_16 <| Runs.imul d14_25 <| Runs.iloadN d14_26 rfl <| Runs.iadd d14_27 <| Runs.istore (P' := [vr a, vi i1, vi i2, vi i3, vi ((i1 * (16 : Int32)) + i3), vn]) d14_28 (by decide) rfl <| Runs.iconst d14_30 ci_0 <| Runs.istore (P' := [vr a, vi i1, vi i2, vi i3, vi ((i1 * (16 : Int32)) + i3), vi (0 : Int32)]) d14_31 (by decide) rfl <| X_memorySum_l33_p k14 hk14 NF i1 i2 i3 ((i1 * (16 : Int32)) + i3) (0 : Int32) hf
  · refine Runs.icY (pc' := 62) d14_19 (flt hc1).2.1 (by decide) <| ?_
    obtain rfl := Option.some.inj hf
    exact Runs.iloadN d14_62 rfl <| Runs.retI d14_63 rfl ⟨by decide, by decide⟩ ⟨rfl, rfl⟩
theorem X_memorySum_l14_p {C : Ctx} {top : Nat} {a : Nat} {H : List (Nat × Nat × Rec)} {ob : Rec} {res : Int32} {NF : Nat} (n : Nat) (i1 : Int32) (i2 : Int32) (i3 : Int32) (hf : X_memorySum_l14 NF ob n i1 i2 i3 = some res) : Runs C B14 0 0 14 [vr a, vi i1, vi i2, vi i3, vn, vn] [] (top, (a, 18, ob) :: H) (Ans (some (.int res)) (top, (a, 18, ob) :: H)) := by
  induction n generalizing i1 i2 i3 with
  | zero => cases (show (none : Option (Int32)) = some res from hf)
  | succ n ih => exact X_memorySum_w14_p (X_memorySum_l14 NF ob n) (fun i1 i2 i3 h => ih _ _ _ h) i1 i2 i3 hf
def X_memorySum (NF : Nat) (ob : Rec) (i1 : Int32) : Option (Int32) :=
  (X_validPid ob i1).bind fun r5 =>
  if r5 = (0 : Int32) then
    some (0 : Int32)
  else
    X_memorySum_l14 NF ob NF i1 (0 : Int32) (0 : Int32)
set_option maxRecDepth 65536 in
set_option maxHeartbeats 4000000 in
theorem X_memorySum_p {C : Ctx} {top : Nat} {a : Nat} {H : List (Nat × Nat × Rec)} {ob : Rec} {res : Int32} {NF : Nat} (i1 : Int32) (hf : X_memorySum NF ob i1 = some res) : Runs C B14 0 0 0 [vr a, vi i1, vn, vn, vn, vn] [] (top, (a, 18, ob) :: H) (Ans (some (.int res)) (top, (a, 18, ob) :: H)) := by
  delta X_memorySum at hf
  refine Runs.aloadN d14_0 rfl <| Runs.iloadN d14_1 rfl <| ?_
  refine bind_el hf fun r5 hg6 hf => ?_
  refine Runs.callP (N := B5) (W := 0) (as := [.int i1]) (S' := []) d14_2 w76 w77 w78 rfl cw5 ar5 rk14_5_0 (by decide) rfl rfl (X_validPid_pay hg6) <| ans1 <| ?_
  refine ite_el hf (fun hc7 hf => ?_) (fun hc7 hf => ?_)
  · refine Runs.ifN d14_5 (teq hc7).2 <| ?_
    obtain rfl := Option.some.inj hf
    exact Runs.iconst d14_8 ci_0 <| Runs.retI d14_9 rfl ⟨by decide, by decide⟩ ⟨rfl, rfl⟩
  · refine Runs.ifY (pc' := 10) d14_5 (feq hc7).2 (by decide) <| ?_
    exact Runs.iconst d14_10 ci_0 <| Runs.istoreN (P' := [vr a, vi i1, vi (0 : Int32), vn, vn, vn]) d14_11 (by decide) rfl <| Runs.iconst d14_12 ci_0 <| Runs.istoreN (P' := [vr a, vi i1, vi (0 : Int32), vi (0 : Int32), vn, vn]) d14_13 (by decide) rfl <| X_memorySum_l14_p NF i1 (0 : Int32) (0 : Int32) hf
theorem X_memorySum_pay {C : Ctx} {top : Nat} {a : Nat} {H : List (Nat × Nat × Rec)} {ob : Rec} {res : Int32} {NF : Nat} {i1 : Int32} (hf : X_memorySum NF ob i1 = some res) : Pays C B14 [.ref a, .int i1] (top, (a, 18, ob) :: H) (Ans (some (.int res)) (top, (a, 18, ob) :: H)) :=
  Pays.of pnK (Nat.le_of_ble_eq_true rfl) (P := [vr a, vi i1, vn, vn, vn, vn]) 4 rfl (X_memorySum_p i1 hf)
def X_load (NF : Nat) (ob : Rec) (i1 : Int32) (i2 : Int32) : Option (Int64 × Rec) :=
  (X_check ob i1 i2).bind fun r1 =>
  if r1 = (0 : Int32) then
    bind2 (X_ensureResident NF ob i1 (i2 / (4 : Int32))) fun r4 q5 =>
    chk (128 : Int32) ((r4 * (4 : Int32)) + (i2 % (4 : Int32))) <|
    (X_recordReference q5 i1 (i2 / (4 : Int32))).bind fun q8 =>
    (X_loadControl NF q8 i1).bind fun q10 =>
    some ((gA q5 15 ((r4 * (4 : Int32)) + (i2 % (4 : Int32)))).toInt64, (sI q10 4 (0 : Int32)))
  else
    some ((-9223372036854775808 : Int64), (sI ob 4 r1))
set_option maxRecDepth 65536 in
set_option maxHeartbeats 4000000 in
theorem X_load_p {C : Ctx} {top : Nat} {a : Nat} {H : List (Nat × Nat × Rec)} {res : Int64 × Rec} {NF : Nat} (ob : Rec) (i1 : Int32) (i2 : Int32) (hf : X_load NF ob i1 i2 = some res) : Runs C B16 0 0 0 [vr a, vi i1, vi i2, vn, vn, vn, vn] [] (top, (a, 18, ob) :: H) (Ans (some (.long res.1)) (top, (a, 18, res.2) :: H)) := by
  delta X_load at hf
  refine Runs.aloadN d16_0 rfl <| Runs.iloadN d16_1 rfl <| Runs.iloadN d16_2 rfl <| ?_
  refine bind_el hf fun r1 hg2 hf => ?_
  refine Runs.callP (N := B4) (W := 0) (as := [.int i1, .int i2]) (S' := []) d16_3 w72 w73 w74 rfl cw4 ar4 rk16_4_0 (by decide) rfl rfl (X_check_pay hg2) <| ans1 <| Runs.istoreN (P' := [vr a, vi i1, vi i2, vi r1, vn, vn, vn]) d16_6 (by decide) rfl <| Runs.iloadN d16_7 rfl <| ?_
  refine ite_el hf (fun hc3 hf => ?_) (fun hc3 hf => ?_)
  · refine Runs.ifY (pc' := 20) d16_8 (teq hc3).1 (by decide) <| ?_
    refine Runs.iloadN d16_20 rfl <| Runs.iconst d16_21 ci_4 <| Runs.idiv d16_22 (by decide) <| Runs.istore (P' := [vr a, vi i1, vi i2, vi r1, vi (i2 / (4 : Int32)), vn, vn]) d16_23 (by decide) rfl <| Runs.aloadN d16_25 rfl <| Runs.iloadN d16_26 rfl <| Runs.iload d16_27 rfl <| ?_
    refine bind2_el hf fun r4 q5 hg6 hf => ?_
    refine Runs.callP (N := B6) (W := 0) (as := [.int i1, .int (i2 / (4 : Int32))]) (S' := []) d16_29 w80 w81 w82 rfl cw6 ar6 rk16_6_0 (by decide) rfl rfl (X_ensureResident_pay hg6) <| ans1 <| Runs.istore (P' := [vr a, vi i1, vi i2, vi r1, vi (i2 / (4 : Int32)), vi r4, vn]) d16_32 (by decide) rfl <| Runs.aloadN d16_34 rfl <| Runs.getA d16_35 fA_15 w41 (by decide) <| Runs.iload d16_38 rfl <| Runs.iconst d16_40 ci_4 <| Runs.imul d16_41 <| Runs.iloadN d16_42 rfl <| Runs.iconst d16_43 ci_4 <| Runs.irem d16_44 (by decide) <| Runs.iadd d16_45 <| ?_
    refine chk_el hf fun hi7 hf => ?_
    refine Runs.ialoadA d16_46 fA_15 (by decide) hi7 <| Runs.istore (P' := [vr a, vi i1, vi i2, vi r1, vi (i2 / (4 : Int32)), vi r4, vi (gA q5 15 ((r4 * (4 : Int32)) + (i2 % (4 : Int32))))]) d16_47 (by decide) rfl <| Runs.aloadN d16_49 rfl <| Runs.iloadN d16_50 rfl <| Runs.iload d16_51 rfl <| ?_
    refine bind_el hf fun q8 hg9 hf => ?_
    refine Runs.callP (N := B9) (W := 0) (as := [.int i1, .int (i2 / (4 : Int32))]) (S' := []) d16_53 w92 w93 w94 rfl cw9 ar9 rk16_9_0 (by decide) rfl rfl (X_recordReference_pay hg9) <| ans0 <| Runs.aloadN d16_56 rfl <| Runs.iloadN d16_57 rfl <| ?_
    refine bind_el hf fun q10 hg11 hf => ?_
    obtain rfl := Option.some.inj hf
    exact Runs.callP (N := B11) (W := 0) (as := [.int i1]) (S' := []) d16_58 w100 w101 w102 rfl cw11 ar11 rk16_11_0 (by decide) rfl rfl (X_loadControl_pay hg11) <| ans0 <| Runs.aloadN d16_61 rfl <| Runs.iconst d16_62 ci_0 <| Runs.putI d16_63 w59 fS_4 (Or.inl w60) <| Runs.iload d16_66 rfl <| Runs.i2l d16_68 <| Runs.retJ d16_69 rfl ⟨by decide, by decide⟩ ⟨rfl, rfl⟩
  · refine Runs.ifN d16_8 (feq hc3).1 <| ?_
    obtain rfl := Option.some.inj hf
    exact Runs.aloadN d16_11 rfl <| Runs.iloadN d16_12 rfl <| Runs.putI d16_13 w59 fS_4 (Or.inl w60) <| Runs.ldc2 d16_16 w149 <| Runs.retJ d16_19 rfl ⟨by decide, by decide⟩ ⟨rfl, rfl⟩
theorem X_load_pay {C : Ctx} {top : Nat} {a : Nat} {H : List (Nat × Nat × Rec)} {res : Int64 × Rec} {NF : Nat} {ob : Rec} {i1 : Int32} {i2 : Int32} (hf : X_load NF ob i1 i2 = some res) : Pays C B16 [.ref a, .int i1, .int i2] (top, (a, 18, ob) :: H) (Ans (some (.long res.1)) (top, (a, 18, res.2) :: H)) :=
  Pays.of pnK (Nat.le_of_ble_eq_true rfl) (P := [vr a, vi i1, vi i2, vn, vn, vn, vn]) 4 rfl (X_load_p ob i1 i2 hf)
def X_virtualTime (ob : Rec) (i1 : Int32) : Option (Int32) :=
  (X_validPid ob i1).bind fun r1 =>
  if r1 = (0 : Int32) then
    some (0 : Int32)
  else
    chk (4 : Int32) i1 <|
    some (gA ob 1 i1)
set_option maxRecDepth 65536 in
set_option maxHeartbeats 4000000 in
theorem X_virtualTime_p {C : Ctx} {top : Nat} {a : Nat} {H : List (Nat × Nat × Rec)} {ob : Rec} {res : Int32} (i1 : Int32) (hf : X_virtualTime ob i1 = some res) : Runs C B17 0 0 0 [vr a, vi i1] [] (top, (a, 18, ob) :: H) (Ans (some (.int res)) (top, (a, 18, ob) :: H)) := by
  delta X_virtualTime at hf
  refine Runs.aloadN d17_0 rfl <| Runs.iloadN d17_1 rfl <| ?_
  refine bind_el hf fun r1 hg2 hf => ?_
  refine Runs.callP (N := B5) (W := 0) (as := [.int i1]) (S' := []) d17_2 w76 w77 w78 rfl cw5 ar5 rk17_5_0 (by decide) rfl rfl (X_validPid_pay hg2) <| ans1 <| ?_
  refine ite_el hf (fun hc3 hf => ?_) (fun hc3 hf => ?_)
  · refine Runs.ifN d17_5 (teq hc3).2 <| ?_
    obtain rfl := Option.some.inj hf
    exact Runs.iconst d17_8 ci_0 <| Runs.retI d17_9 rfl ⟨by decide, by decide⟩ ⟨rfl, rfl⟩
  · refine Runs.ifY (pc' := 10) d17_5 (feq hc3).2 (by decide) <| ?_
    refine Runs.aloadN d17_10 rfl <| Runs.getA d17_11 fA_1 w13 (by decide) <| Runs.iloadN d17_14 rfl <| ?_
    refine chk_el hf fun hi4 hf => ?_
    obtain rfl := Option.some.inj hf
    exact Runs.ialoadA d17_15 fA_1 (by decide) hi4 <| Runs.retI d17_16 rfl ⟨by decide, by decide⟩ ⟨rfl, rfl⟩
theorem X_virtualTime_pay {C : Ctx} {top : Nat} {a : Nat} {H : List (Nat × Nat × Rec)} {ob : Rec} {res : Int32} {i1 : Int32} (hf : X_virtualTime ob i1 = some res) : Pays C B17 [.ref a, .int i1] (top, (a, 18, ob) :: H) (Ans (some (.int res)) (top, (a, 18, ob) :: H)) :=
  Pays.of pnK (Nat.le_of_ble_eq_true rfl) (P := [vr a, vi i1]) 0 rfl (X_virtualTime_p i1 hf)
def X_workingSetSize (ob : Rec) (i1 : Int32) : Option (Int32) :=
  (X_validPid ob i1).bind fun r1 =>
  if r1 = (0 : Int32) then
    some (0 : Int32)
  else
    chk (4 : Int32) i1 <|
    some (gA ob 4 i1)
set_option maxRecDepth 65536 in
set_option maxHeartbeats 4000000 in
theorem X_workingSetSize_p {C : Ctx} {top : Nat} {a : Nat} {H : List (Nat × Nat × Rec)} {ob : Rec} {res : Int32} (i1 : Int32) (hf : X_workingSetSize ob i1 = some res) : Runs C B18 0 0 0 [vr a, vi i1] [] (top, (a, 18, ob) :: H) (Ans (some (.int res)) (top, (a, 18, ob) :: H)) := by
  delta X_workingSetSize at hf
  refine Runs.aloadN d18_0 rfl <| Runs.iloadN d18_1 rfl <| ?_
  refine bind_el hf fun r1 hg2 hf => ?_
  refine Runs.callP (N := B5) (W := 0) (as := [.int i1]) (S' := []) d18_2 w76 w77 w78 rfl cw5 ar5 rk18_5_0 (by decide) rfl rfl (X_validPid_pay hg2) <| ans1 <| ?_
  refine ite_el hf (fun hc3 hf => ?_) (fun hc3 hf => ?_)
  · refine Runs.ifN d18_5 (teq hc3).2 <| ?_
    obtain rfl := Option.some.inj hf
    exact Runs.iconst d18_8 ci_0 <| Runs.retI d18_9 rfl ⟨by decide, by decide⟩ ⟨rfl, rfl⟩
  · refine Runs.ifY (pc' := 10) d18_5 (feq hc3).2 (by decide) <| ?_
    refine Runs.aloadN d18_10 rfl <| Runs.getA d18_11 fA_4 w19 (by decide) <| Runs.iloadN d18_14 rfl <| ?_
    refine chk_el hf fun hi4 hf => ?_
    obtain rfl := Option.some.inj hf
    exact Runs.ialoadA d18_15 fA_4 (by decide) hi4 <| Runs.retI d18_16 rfl ⟨by decide, by decide⟩ ⟨rfl, rfl⟩
theorem X_workingSetSize_pay {C : Ctx} {top : Nat} {a : Nat} {H : List (Nat × Nat × Rec)} {ob : Rec} {res : Int32} {i1 : Int32} (hf : X_workingSetSize ob i1 = some res) : Pays C B18 [.ref a, .int i1] (top, (a, 18, ob) :: H) (Ans (some (.int res)) (top, (a, 18, ob) :: H)) :=
  Pays.of pnK (Nat.le_of_ble_eq_true rfl) (P := [vr a, vi i1]) 0 rfl (X_workingSetSize_p i1 hf)
def X_touchedPages (ob : Rec) (i1 : Int32) : Option (Int32) :=
  (X_validPid ob i1).bind fun r1 =>
  if r1 = (0 : Int32) then
    some (0 : Int32)
  else
    chk (4 : Int32) i1 <|
    some (gA ob 5 i1)
set_option maxRecDepth 65536 in
set_option maxHeartbeats 4000000 in
theorem X_touchedPages_p {C : Ctx} {top : Nat} {a : Nat} {H : List (Nat × Nat × Rec)} {ob : Rec} {res : Int32} (i1 : Int32) (hf : X_touchedPages ob i1 = some res) : Runs C B19 0 0 0 [vr a, vi i1] [] (top, (a, 18, ob) :: H) (Ans (some (.int res)) (top, (a, 18, ob) :: H)) := by
  delta X_touchedPages at hf
  refine Runs.aloadN d19_0 rfl <| Runs.iloadN d19_1 rfl <| ?_
  refine bind_el hf fun r1 hg2 hf => ?_
  refine Runs.callP (N := B5) (W := 0) (as := [.int i1]) (S' := []) d19_2 w76 w77 w78 rfl cw5 ar5 rk19_5_0 (by decide) rfl rfl (X_validPid_pay hg2) <| ans1 <| ?_
  refine ite_el hf (fun hc3 hf => ?_) (fun hc3 hf => ?_)
  · refine Runs.ifN d19_5 (teq hc3).2 <| ?_
    obtain rfl := Option.some.inj hf
    exact Runs.iconst d19_8 ci_0 <| Runs.retI d19_9 rfl ⟨by decide, by decide⟩ ⟨rfl, rfl⟩
  · refine Runs.ifY (pc' := 10) d19_5 (feq hc3).2 (by decide) <| ?_
    refine Runs.aloadN d19_10 rfl <| Runs.getA d19_11 fA_5 w21 (by decide) <| Runs.iloadN d19_14 rfl <| ?_
    refine chk_el hf fun hi4 hf => ?_
    obtain rfl := Option.some.inj hf
    exact Runs.ialoadA d19_15 fA_5 (by decide) hi4 <| Runs.retI d19_16 rfl ⟨by decide, by decide⟩ ⟨rfl, rfl⟩
theorem X_touchedPages_pay {C : Ctx} {top : Nat} {a : Nat} {H : List (Nat × Nat × Rec)} {ob : Rec} {res : Int32} {i1 : Int32} (hf : X_touchedPages ob i1 = some res) : Pays C B19 [.ref a, .int i1] (top, (a, 18, ob) :: H) (Ans (some (.int res)) (top, (a, 18, ob) :: H)) :=
  Pays.of pnK (Nat.le_of_ble_eq_true rfl) (P := [vr a, vi i1]) 0 rfl (X_touchedPages_p i1 hf)
def X_suspensions (ob : Rec) : Option (Int32) :=
  some (gI ob 5)
set_option maxRecDepth 65536 in
set_option maxHeartbeats 4000000 in
theorem X_suspensions_p {C : Ctx} {top : Nat} {a : Nat} {H : List (Nat × Nat × Rec)} {ob : Rec} {res : Int32} (hf : X_suspensions ob = some res) : Runs C B20 0 0 0 [vr a] [] (top, (a, 18, ob) :: H) (Ans (some (.int res)) (top, (a, 18, ob) :: H)) := by
  delta X_suspensions at hf
  obtain rfl := Option.some.inj hf
  exact Runs.aloadN d20_0 rfl <| Runs.getI d20_1 w61 fS_5 <| Runs.retI d20_4 rfl ⟨by decide, by decide⟩ ⟨rfl, rfl⟩
theorem X_suspensions_pay {C : Ctx} {top : Nat} {a : Nat} {H : List (Nat × Nat × Rec)} {ob : Rec} {res : Int32} (hf : X_suspensions ob = some res) : Pays C B20 [.ref a] (top, (a, 18, ob) :: H) (Ans (some (.int res)) (top, (a, 18, ob) :: H)) :=
  Pays.of pnK (Nat.le_of_ble_eq_true rfl) (P := [vr a]) 0 rfl (X_suspensions_p hf)
def L_law_b227 (NF : Nat) (ob : Rec) (t0 : Int32) (t1 : Int32) : Option (Int32) :=
  if t0 = t1 then
    (X_suspensions ob).bind fun r38 =>
    if r38 = (0 : Int32) then
      some (1 : Int32)
    else
      some (0 : Int32)
  else
    some (0 : Int32)
set_option maxRecDepth 65536 in
set_option maxHeartbeats 4000000 in
theorem L_law_b227_p {C : Ctx} {res : Int32} {NF : Nat} (ob : Rec) (t0 : Int32) (t1 : Int32) (hf : L_law_b227 NF ob t0 t1 = some res) : Runs C B0 19 978 227 [vn, vn, vn, vr C.2.2.1, vn, vn, vn, vn, vn, vn] [.int t1, .int t0] (C.2.2.1 + 1 + 18, (C.2.2.1, 18, ob) :: []) (fun v _ => v = (some (.int res))) := by
  delta L_law_b227 at hf
  refine ite_el hf (fun hc37 hf => ?_) (fun hc37 hf => ?_)
  · refine Runs.icY (pc' := 232) d0_227 (teq hc37).1 (by decide) <| ?_
    refine Runs.aloadN d0_232 rfl <| ?_
    refine bind_el hf fun r38 hg39 hf => ?_
    refine Runs.callV (N := B20) (W := 0) (as := []) (S' := []) d0_233 w144 w145 w146 w147 cw20 ar20 rk0_20_0 (by decide) rfl rfl (X_suspensions_pay hg39) <| ans1 <| ?_
    refine ite_el hf (fun hc40 hf => ?_) (fun hc40 hf => ?_)
    · refine Runs.ifN d0_236 (teq hc40).2 <| ?_
      obtain rfl := Option.some.inj hf
      exact Runs.iconst d0_239 ci_1 <| Runs.goto (pc' := 244) d0_240 (by decide) <| Runs.retZ (y := (1 : Int32)) d0_244 rfl ⟨by decide, by decide⟩ rfl rfl
    · refine Runs.ifY (pc' := 243) d0_236 (feq hc40).2 (by decide) <| ?_
      obtain rfl := Option.some.inj hf
      exact Runs.iconst d0_243 ci_0 <| Runs.retZ (y := (0 : Int32)) d0_244 rfl ⟨by decide, by decide⟩ rfl rfl
  · refine Runs.icN d0_227 (feq hc37).1 <| ?_
    obtain rfl := Option.some.inj hf
    exact Runs.iconst d0_230 ci_0 <| Runs.retZ (y := (0 : Int32)) d0_231 rfl ⟨by decide, by decide⟩ rfl rfl
def L_law_b208 (NF : Nat) (ob : Rec) (i7 : Int32) (t0 : Int32) (t1 : Int32) : Option (Int32) :=
  if t0 = t1 then
    (X_activeTotal NF ob).bind fun r34 =>
    if i7 = (0 : Int32) then
      L_law_b227 NF ob r34 (0 : Int32)
    else
      L_law_b227 NF ob r34 (1 : Int32)
  else
    some (0 : Int32)
set_option maxRecDepth 65536 in
set_option maxHeartbeats 4000000 in
theorem L_law_b208_p {C : Ctx} {res : Int32} {NF : Nat} (ob : Rec) (i7 : Int32) (t0 : Int32) (t1 : Int32) (hf : L_law_b208 NF ob i7 t0 t1 = some res) : Runs C B0 19 978 208 [vn, vn, vn, vr C.2.2.1, vn, vn, vn, vi i7, vn, vn] [.int t1, .int t0] (C.2.2.1 + 1 + 18, (C.2.2.1, 18, ob) :: []) (fun v _ => v = (some (.int res))) := by
  delta L_law_b208 at hf
  refine ite_el hf (fun hc33 hf => ?_) (fun hc33 hf => ?_)
  · refine Runs.icY (pc' := 213) d0_208 (teq hc33).1 (by decide) <| ?_
    refine Runs.aloadN d0_213 rfl <| ?_
    refine bind_el hf fun r34 hg35 hf => ?_
    refine Runs.callV (N := B12) (W := 0) (as := []) (S' := []) d0_214 w143 w105 w106 w107 cw12 ar12 rk0_12_0 (by decide) rfl rfl (X_activeTotal_pay hg35) <| ans1 <| Runs.iload d0_217 rfl <| ?_
    refine ite_el hf (fun hc36 hf => ?_) (fun hc36 hf => ?_)
    · refine Runs.ifY (pc' := 226) d0_219 (teq hc36).1 (by decide) <| ?_
      exact Runs.iconst d0_226 ci_0 <| Runs.forget [false, false, false, true, false, false, false, false, false, false] rfl <| L_law_b227_p ob r34 (0 : Int32) hf
    · refine Runs.ifN d0_219 (feq hc36).1 <| ?_
      exact Runs.iconst d0_222 ci_1 <| Runs.goto (pc' := 227) d0_223 (by decide) <| Runs.forget [false, false, false, true, false, false, false, false, false, false] rfl <| L_law_b227_p ob r34 (1 : Int32) hf
  · refine Runs.icN d0_208 (feq hc33).1 <| ?_
    obtain rfl := Option.some.inj hf
    exact Runs.iconst d0_211 ci_0 <| Runs.retZ (y := (0 : Int32)) d0_212 rfl ⟨by decide, by decide⟩ rfl rfl
def L_law_b188 (NF : Nat) (ob : Rec) (i0 : Int32) (i7 : Int32) (t0 : Int32) (t1 : Int32) : Option (Int32) :=
  if t0 = t1 then
    (X_touchedPages ob i0).bind fun r30 =>
    if i7 = (0 : Int32) then
      L_law_b208 NF ob i7 r30 (0 : Int32)
    else
      L_law_b208 NF ob i7 r30 (1 : Int32)
  else
    some (0 : Int32)
set_option maxRecDepth 65536 in
set_option maxHeartbeats 4000000 in
theorem L_law_b188_p {C : Ctx} {res : Int32} {NF : Nat} (ob : Rec) (i0 : Int32) (i7 : Int32) (t0 : Int32) (t1 : Int32) (hf : L_law_b188 NF ob i0 i7 t0 t1 = some res) : Runs C B0 19 978 188 [vi i0, vn, vn, vr C.2.2.1, vn, vn, vn, vi i7, vn, vn] [.int t1, .int t0] (C.2.2.1 + 1 + 18, (C.2.2.1, 18, ob) :: []) (fun v _ => v = (some (.int res))) := by
  delta L_law_b188 at hf
  refine ite_el hf (fun hc29 hf => ?_) (fun hc29 hf => ?_)
  · refine Runs.icY (pc' := 193) d0_188 (teq hc29).1 (by decide) <| ?_
    refine Runs.aloadN d0_193 rfl <| Runs.iloadN d0_194 rfl <| ?_
    refine bind_el hf fun r30 hg31 hf => ?_
    refine Runs.callV (N := B19) (W := 0) (as := [.int i0]) (S' := []) d0_195 w138 w139 w140 w141 cw19 ar19 rk0_19_0 (by decide) rfl rfl (X_touchedPages_pay hg31) <| ans1 <| Runs.iload d0_198 rfl <| ?_
    refine ite_el hf (fun hc32 hf => ?_) (fun hc32 hf => ?_)
    · refine Runs.ifY (pc' := 207) d0_200 (teq hc32).1 (by decide) <| ?_
      exact Runs.iconst d0_207 ci_0 <| Runs.forget [false, false, false, true, false, false, false, true, false, false] rfl <| L_law_b208_p ob i7 r30 (0 : Int32) hf
    · refine Runs.ifN d0_200 (feq hc32).1 <| ?_
      exact Runs.iconst d0_203 ci_1 <| Runs.goto (pc' := 208) d0_204 (by decide) <| Runs.forget [false, false, false, true, false, false, false, true, false, false] rfl <| L_law_b208_p ob i7 r30 (1 : Int32) hf
  · refine Runs.icN d0_188 (feq hc29).1 <| ?_
    obtain rfl := Option.some.inj hf
    exact Runs.iconst d0_191 ci_0 <| Runs.retZ (y := (0 : Int32)) d0_192 rfl ⟨by decide, by decide⟩ rfl rfl
def L_law_b168 (NF : Nat) (ob : Rec) (i0 : Int32) (i7 : Int32) (t0 : Int32) (t1 : Int32) : Option (Int32) :=
  if t0 = t1 then
    (X_workingSetSize ob i0).bind fun r26 =>
    if i7 = (0 : Int32) then
      L_law_b188 NF ob i0 i7 r26 (0 : Int32)
    else
      L_law_b188 NF ob i0 i7 r26 (1 : Int32)
  else
    some (0 : Int32)
set_option maxRecDepth 65536 in
set_option maxHeartbeats 4000000 in
theorem L_law_b168_p {C : Ctx} {res : Int32} {NF : Nat} (ob : Rec) (i0 : Int32) (i7 : Int32) (t0 : Int32) (t1 : Int32) (hf : L_law_b168 NF ob i0 i7 t0 t1 = some res) : Runs C B0 19 978 168 [vi i0, vn, vn, vr C.2.2.1, vn, vn, vn, vi i7, vn, vn] [.int t1, .int t0] (C.2.2.1 + 1 + 18, (C.2.2.1, 18, ob) :: []) (fun v _ => v = (some (.int res))) := by
  delta L_law_b168 at hf
  refine ite_el hf (fun hc25 hf => ?_) (fun hc25 hf => ?_)
  · refine Runs.icY (pc' := 173) d0_168 (teq hc25).1 (by decide) <| ?_
    refine Runs.aloadN d0_173 rfl <| Runs.iloadN d0_174 rfl <| ?_
    refine bind_el hf fun r26 hg27 hf => ?_
    refine Runs.callV (N := B18) (W := 0) (as := [.int i0]) (S' := []) d0_175 w133 w134 w135 w136 cw18 ar18 rk0_18_0 (by decide) rfl rfl (X_workingSetSize_pay hg27) <| ans1 <| Runs.iload d0_178 rfl <| ?_
    refine ite_el hf (fun hc28 hf => ?_) (fun hc28 hf => ?_)
    · refine Runs.ifY (pc' := 187) d0_180 (teq hc28).1 (by decide) <| ?_
      exact Runs.iconst d0_187 ci_0 <| L_law_b188_p ob i0 i7 r26 (0 : Int32) hf
    · refine Runs.ifN d0_180 (feq hc28).1 <| ?_
      exact Runs.iconst d0_183 ci_1 <| Runs.goto (pc' := 188) d0_184 (by decide) <| L_law_b188_p ob i0 i7 r26 (1 : Int32) hf
  · refine Runs.icN d0_168 (feq hc25).1 <| ?_
    obtain rfl := Option.some.inj hf
    exact Runs.iconst d0_171 ci_0 <| Runs.retZ (y := (0 : Int32)) d0_172 rfl ⟨by decide, by decide⟩ rfl rfl
def L_law_b147 (NF : Nat) (ob : Rec) (i0 : Int32) (i7 : Int32) (t0 : Int64) (t1 : Int64) : Option (Int32) :=
  if t0 = t1 then
    (X_virtualTime ob i0).bind fun r22 =>
    if i7 = (0 : Int32) then
      L_law_b168 NF ob i0 i7 r22 (0 : Int32)
    else
      L_law_b168 NF ob i0 i7 r22 (2 : Int32)
  else
    some (0 : Int32)
set_option maxRecDepth 65536 in
set_option maxHeartbeats 4000000 in
theorem L_law_b147_p {C : Ctx} {res : Int32} {NF : Nat} (ob : Rec) (i0 : Int32) (i7 : Int32) (t0 : Int64) (t1 : Int64) (hf : L_law_b147 NF ob i0 i7 t0 t1 = some res) : Runs C B0 19 978 147 [vi i0, vn, vn, vr C.2.2.1, vn, vn, vn, vi i7, vn, vn] [.long t1, .long t0] (C.2.2.1 + 1 + 18, (C.2.2.1, 18, ob) :: []) (fun v _ => v = (some (.int res))) := by
  delta L_law_b147 at hf
  refine Runs.lcmp d0_147 <| ?_
  refine ite_el hf (fun hc21 hf => ?_) (fun hc21 hf => ?_)
  · refine Runs.ifY (pc' := 153) d0_148 (teq ((lw_eq _ _).mpr hc21)).1 (by decide) <| ?_
    refine Runs.aloadN d0_153 rfl <| Runs.iloadN d0_154 rfl <| ?_
    refine bind_el hf fun r22 hg23 hf => ?_
    refine Runs.callV (N := B17) (W := 0) (as := [.int i0]) (S' := []) d0_155 w128 w129 w130 w131 cw17 ar17 rk0_17_0 (by decide) rfl rfl (X_virtualTime_pay hg23) <| ans1 <| Runs.iload d0_158 rfl <| ?_
    refine ite_el hf (fun hc24 hf => ?_) (fun hc24 hf => ?_)
    · refine Runs.ifY (pc' := 167) d0_160 (teq hc24).1 (by decide) <| ?_
      exact Runs.iconst d0_167 ci_0 <| L_law_b168_p ob i0 i7 r22 (0 : Int32) hf
    · refine Runs.ifN d0_160 (feq hc24).1 <| ?_
      exact Runs.iconst d0_163 ci_2 <| Runs.goto (pc' := 168) d0_164 (by decide) <| L_law_b168_p ob i0 i7 r22 (2 : Int32) hf
  · refine Runs.ifN d0_148 (feq (fun u => hc21 ((lw_eq _ _).mp u))).1 <| ?_
    obtain rfl := Option.some.inj hf
    exact Runs.iconst d0_151 ci_0 <| Runs.retZ (y := (0 : Int32)) d0_152 rfl ⟨by decide, by decide⟩ rfl rfl
def L_law_b119 (NF : Nat) (ob : Rec) (i0 : Int32) (i1 : Int32) (i2 : Int32) (i7 : Int32) (t0 : Int32) (t1 : Int32) : Option (Int32) :=
  if t0 = t1 then
    bind2 (X_load NF ob i0 i1) fun r17 q18 =>
    if i7 = (0 : Int32) then
      L_law_b147 NF q18 i0 i7 r17 (-9223372036854775808 : Int64)
    else
      L_law_b147 NF q18 i0 i7 r17 i2.toInt64
  else
    some (0 : Int32)
set_option maxRecDepth 65536 in
set_option maxHeartbeats 4000000 in
theorem L_law_b119_p {C : Ctx} {res : Int32} {NF : Nat} (ob : Rec) (i0 : Int32) (i1 : Int32) (i2 : Int32) (i7 : Int32) (t0 : Int32) (t1 : Int32) (hf : L_law_b119 NF ob i0 i1 i2 i7 t0 t1 = some res) : Runs C B0 19 978 119 [vi i0, vi i1, vi i2, vr C.2.2.1, vn, vn, vn, vi i7, vn, vn] [.int t1, .int t0] (C.2.2.1 + 1 + 18, (C.2.2.1, 18, ob) :: []) (fun v _ => v = (some (.int res))) := by
  delta L_law_b119 at hf
  refine ite_el hf (fun hc16 hf => ?_) (fun hc16 hf => ?_)
  · refine Runs.icY (pc' := 124) d0_119 (teq hc16).1 (by decide) <| ?_
    refine Runs.aloadN d0_124 rfl <| Runs.iloadN d0_125 rfl <| Runs.iloadN d0_126 rfl <| ?_
    refine bind2_el hf fun r17 q18 hg19 hf => ?_
    refine Runs.callV (N := B16) (W := 0) (as := [.int i0, .int i1]) (S' := []) d0_127 w123 w124 w125 w126 cw16 ar16 rk0_16_0 (by decide) rfl rfl (X_load_pay hg19) <| ans1 <| Runs.lstore (P' := [vi i0, vi i1, vi i2, vr C.2.2.1, vn, vn, vn, vi i7, vl r17, v2]) d0_130 (by decide) rfl <| Runs.lload d0_132 rfl <| Runs.iload d0_134 rfl <| ?_
    refine ite_el hf (fun hc20 hf => ?_) (fun hc20 hf => ?_)
    · refine Runs.ifY (pc' := 144) d0_136 (teq hc20).1 (by decide) <| ?_
      exact Runs.ldc2 d0_144 w150 <| Runs.forget [true, false, false, true, false, false, false, true, false, false] rfl <| L_law_b147_p q18 i0 i7 r17 (-9223372036854775808 : Int64) hf
    · refine Runs.ifN d0_136 (feq hc20).1 <| ?_
      exact Runs.iloadN d0_139 rfl <| Runs.i2l d0_140 <| Runs.goto (pc' := 147) d0_141 (by decide) <| Runs.forget [true, false, false, true, false, false, false, true, false, false] rfl <| L_law_b147_p q18 i0 i7 r17 i2.toInt64 hf
  · refine Runs.icN d0_119 (feq hc16).1 <| ?_
    obtain rfl := Option.some.inj hf
    exact Runs.iconst d0_122 ci_0 <| Runs.retZ (y := (0 : Int32)) d0_123 rfl ⟨by decide, by decide⟩ rfl rfl
def L_law_b77 (NF : Nat) (ob : Rec) (i0 : Int32) (i1 : Int32) (i2 : Int32) (i6 : Int32) (t0 : Int32) : Option (Int32) :=
  bind2 (X_store NF ob i0 i1 i2) fun r6 q7 =>
  if r6 = i6 then
    (X_lastStatus q7).bind fun r10 =>
    if r10 = i6 then
      (X_memorySum NF q7 i0).bind fun r13 =>
      if t0 = (0 : Int32) then
        L_law_b119 NF q7 i0 i1 i2 t0 r13 (0 : Int32)
      else
        L_law_b119 NF q7 i0 i1 i2 t0 r13 i2
    else
      some (0 : Int32)
  else
    some (0 : Int32)
set_option maxRecDepth 65536 in
set_option maxHeartbeats 4000000 in
theorem L_law_b77_p {C : Ctx} {res : Int32} {NF : Nat} (ob : Rec) (i0 : Int32) (i1 : Int32) (i2 : Int32) (i6 : Int32) (t0 : Int32) (hf : L_law_b77 NF ob i0 i1 i2 i6 t0 = some res) : Runs C B0 19 978 77 [vi i0, vi i1, vi i2, vr C.2.2.1, vn, vn, vi i6, vn, vn, vn] [.int t0] (C.2.2.1 + 1 + 18, (C.2.2.1, 18, ob) :: []) (fun v _ => v = (some (.int res))) := by
  delta L_law_b77 at hf
  refine Runs.istore (P' := [vi i0, vi i1, vi i2, vr C.2.2.1, vn, vn, vi i6, vi t0, vn, vn]) d0_77 (by decide) rfl <| Runs.aloadN d0_79 rfl <| Runs.iloadN d0_80 rfl <| Runs.iloadN d0_81 rfl <| Runs.iloadN d0_82 rfl <| ?_
  refine bind2_el hf fun r6 q7 hg8 hf => ?_
  refine Runs.callV (N := B3) (W := 0) (as := [.int i0, .int i1, .int i2]) (S' := []) d0_83 w67 w68 w69 w70 cw3 ar3 rk0_3_0 (by decide) rfl rfl (X_store_pay hg8) <| ans1 <| Runs.iload d0_86 rfl <| ?_
  refine ite_el hf (fun hc9 hf => ?_) (fun hc9 hf => ?_)
  · refine Runs.icY (pc' := 93) d0_88 (teq hc9).1 (by decide) <| ?_
    refine Runs.aloadN d0_93 rfl <| ?_
    refine bind_el hf fun r10 hg11 hf => ?_
    refine Runs.callV (N := B13) (W := 0) (as := []) (S' := []) d0_94 w109 w110 w111 w112 cw13 ar13 rk0_13_0 (by decide) rfl rfl (X_lastStatus_pay hg11) <| ans1 <| Runs.iload d0_97 rfl <| ?_
    refine ite_el hf (fun hc12 hf => ?_) (fun hc12 hf => ?_)
    · refine Runs.icY (pc' := 104) d0_99 (teq hc12).1 (by decide) <| ?_
      refine Runs.aloadN d0_104 rfl <| Runs.iloadN d0_105 rfl <| ?_
      refine bind_el hf fun r13 hg14 hf => ?_
      refine Runs.callV (N := B14) (W := 0) (as := [.int i0]) (S' := []) d0_106 w114 w115 w116 w117 cw14 ar14 rk0_14_0 (by decide) rfl rfl (X_memorySum_pay hg14) <| ans1 <| Runs.iload d0_109 rfl <| ?_
      refine ite_el hf (fun hc15 hf => ?_) (fun hc15 hf => ?_)
      · refine Runs.ifY (pc' := 118) d0_111 (teq hc15).1 (by decide) <| ?_
        exact Runs.iconst d0_118 ci_0 <| Runs.forget [true, true, true, true, false, false, false, true, false, false] rfl <| L_law_b119_p q7 i0 i1 i2 t0 r13 (0 : Int32) hf
      · refine Runs.ifN d0_111 (feq hc15).1 <| ?_
        exact Runs.iloadN d0_114 rfl <| Runs.goto (pc' := 119) d0_115 (by decide) <| Runs.forget [true, true, true, true, false, false, false, true, false, false] rfl <| L_law_b119_p q7 i0 i1 i2 t0 r13 i2 hf
    · refine Runs.icN d0_99 (feq hc12).1 <| ?_
      obtain rfl := Option.some.inj hf
      exact Runs.iconst d0_102 ci_0 <| Runs.retZ (y := (0 : Int32)) d0_103 rfl ⟨by decide, by decide⟩ rfl rfl
  · refine Runs.icN d0_88 (feq hc9).1 <| ?_
    obtain rfl := Option.some.inj hf
    exact Runs.iconst d0_91 ci_0 <| Runs.retZ (y := (0 : Int32)) d0_92 rfl ⟨by decide, by decide⟩ rfl rfl
def L_law_b67 (NF : Nat) (ob : Rec) (i0 : Int32) (i1 : Int32) (i2 : Int32) (i6 : Int32) : Option (Int32) :=
  if i6 = (0 : Int32) then
    L_law_b77 NF ob i0 i1 i2 i6 (1 : Int32)
  else
    L_law_b77 NF ob i0 i1 i2 i6 (0 : Int32)
set_option maxRecDepth 65536 in
set_option maxHeartbeats 4000000 in
theorem L_law_b67_p {C : Ctx} {res : Int32} {NF : Nat} (ob : Rec) (i0 : Int32) (i1 : Int32) (i2 : Int32) (i6 : Int32) (hf : L_law_b67 NF ob i0 i1 i2 i6 = some res) : Runs C B0 19 978 67 [vi i0, vi i1, vi i2, vr C.2.2.1, vn, vn, vi i6, vn, vn, vn] [] (C.2.2.1 + 1 + 18, (C.2.2.1, 18, ob) :: []) (fun v _ => v = (some (.int res))) := by
  delta L_law_b67 at hf
  refine Runs.iload d0_67 rfl <| ?_
  refine ite_el hf (fun hc5 hf => ?_) (fun hc5 hf => ?_)
  · refine Runs.ifN d0_69 (teq hc5).2 <| ?_
    exact Runs.iconst d0_72 ci_1 <| Runs.goto (pc' := 77) d0_73 (by decide) <| L_law_b77_p ob i0 i1 i2 i6 (1 : Int32) hf
  · refine Runs.ifY (pc' := 76) d0_69 (feq hc5).2 (by decide) <| ?_
    exact Runs.iconst d0_76 ci_0 <| L_law_b77_p ob i0 i1 i2 i6 (0 : Int32) hf
def L_law_b43 (NF : Nat) (ob : Rec) (i0 : Int32) (i1 : Int32) (i2 : Int32) (i4 : Int32) (t0 : Int32) : Option (Int32) :=
  if i4 = (0 : Int32) then
    L_law_b67 NF ob i0 i1 i2 (1 : Int32)
  else
    if t0 = (0 : Int32) then
      L_law_b67 NF ob i0 i1 i2 (2 : Int32)
    else
      L_law_b67 NF ob i0 i1 i2 (0 : Int32)
set_option maxRecDepth 65536 in
set_option maxHeartbeats 4000000 in
theorem L_law_b43_p {C : Ctx} {res : Int32} {NF : Nat} (ob : Rec) (i0 : Int32) (i1 : Int32) (i2 : Int32) (i4 : Int32) (t0 : Int32) (hf : L_law_b43 NF ob i0 i1 i2 i4 t0 = some res) : Runs C B0 19 978 43 [vi i0, vi i1, vi i2, vr C.2.2.1, vi i4, vn, vn, vn, vn, vn] [.int t0] (C.2.2.1 + 1 + 18, (C.2.2.1, 18, ob) :: []) (fun v _ => v = (some (.int res))) := by
  delta L_law_b43 at hf
  refine Runs.istore (P' := [vi i0, vi i1, vi i2, vr C.2.2.1, vi i4, vi t0, vn, vn, vn, vn]) d0_43 (by decide) rfl <| Runs.iconst d0_45 ci_0 <| Runs.istore (P' := [vi i0, vi i1, vi i2, vr C.2.2.1, vi i4, vi t0, vi (0 : Int32), vn, vn, vn]) d0_46 (by decide) rfl <| Runs.iload d0_48 rfl <| ?_
  refine ite_el hf (fun hc3 hf => ?_) (fun hc3 hf => ?_)
  · refine Runs.ifN d0_50 (teq hc3).2 <| ?_
    exact Runs.iconst d0_53 ci_1 <| Runs.istore (P' := [vi i0, vi i1, vi i2, vr C.2.2.1, vi i4, vi t0, vi (1 : Int32), vn, vn, vn]) d0_54 (by decide) rfl <| Runs.goto (pc' := 67) d0_56 (by decide) <| Runs.forget [true, true, true, true, false, false, true, false, false, false] rfl <| L_law_b67_p ob i0 i1 i2 (1 : Int32) hf
  · refine Runs.ifY (pc' := 59) d0_50 (feq hc3).2 (by decide) <| ?_
    refine Runs.iload d0_59 rfl <| ?_
    refine ite_el hf (fun hc4 hf => ?_) (fun hc4 hf => ?_)
    · refine Runs.ifN d0_61 (teq hc4).2 <| ?_
      exact Runs.iconst d0_64 ci_2 <| Runs.istore (P' := [vi i0, vi i1, vi i2, vr C.2.2.1, vi i4, vi t0, vi (2 : Int32), vn, vn, vn]) d0_65 (by decide) rfl <| Runs.forget [true, true, true, true, false, false, true, false, false, false] rfl <| L_law_b67_p ob i0 i1 i2 (2 : Int32) hf
    · exact Runs.ifY (pc' := 67) d0_61 (feq hc4).2 (by decide) <| Runs.forget [true, true, true, true, false, false, true, false, false, false] rfl <| L_law_b67_p ob i0 i1 i2 (0 : Int32) hf
def L_law_b26 (NF : Nat) (ob : Rec) (i0 : Int32) (i1 : Int32) (i2 : Int32) (t0 : Int32) : Option (Int32) :=
  if i1 < (0 : Int32) then
    L_law_b43 NF ob i0 i1 i2 t0 (0 : Int32)
  else
    if i1 < (16 : Int32) then
      L_law_b43 NF ob i0 i1 i2 t0 (1 : Int32)
    else
      L_law_b43 NF ob i0 i1 i2 t0 (0 : Int32)
set_option maxRecDepth 65536 in
set_option maxHeartbeats 4000000 in
theorem L_law_b26_p {C : Ctx} {res : Int32} {NF : Nat} (ob : Rec) (i0 : Int32) (i1 : Int32) (i2 : Int32) (t0 : Int32) (hf : L_law_b26 NF ob i0 i1 i2 t0 = some res) : Runs C B0 19 978 26 [vi i0, vi i1, vi i2, vr C.2.2.1, vn, vn, vn, vn, vn, vn] [.int t0] (C.2.2.1 + 1 + 18, (C.2.2.1, 18, ob) :: []) (fun v _ => v = (some (.int res))) := by
  delta L_law_b26 at hf
  refine Runs.istore (P' := [vi i0, vi i1, vi i2, vr C.2.2.1, vi t0, vn, vn, vn, vn, vn]) d0_26 (by decide) rfl <| Runs.iloadN d0_28 rfl <| ?_
  refine ite_el hf (fun hc1 hf => ?_) (fun hc1 hf => ?_)
  · refine Runs.ifY (pc' := 42) d0_29 (tlt hc1).1 (by decide) <| ?_
    exact Runs.iconst d0_42 ci_0 <| L_law_b43_p ob i0 i1 i2 t0 (0 : Int32) hf
  · refine Runs.ifN d0_29 (flt hc1).1 <| ?_
    refine Runs.iloadN d0_32 rfl <| Runs.bipush d0_33 cb_16 <| ?_
    refine ite_el hf (fun hc2 hf => ?_) (fun hc2 hf => ?_)
    · refine Runs.icN d0_35 (tlt hc2).2.1 <| ?_
      exact Runs.iconst d0_38 ci_1 <| Runs.goto (pc' := 43) d0_39 (by decide) <| L_law_b43_p ob i0 i1 i2 t0 (1 : Int32) hf
    · refine Runs.icY (pc' := 42) d0_35 (flt hc2).2.1 (by decide) <| ?_
      exact Runs.iconst d0_42 ci_0 <| L_law_b43_p ob i0 i1 i2 t0 (0 : Int32) hf
def L_law (NF : Nat) (i0 : Int32) (i1 : Int32) (i2 : Int32) : Option (Int32) :=
  (X_init NF (2 : Int32) (4 : Int32) (4 : Int32) (2 : Int32)).bind fun q41 =>
  if i0 < (0 : Int32) then
    L_law_b26 NF q41 i0 i1 i2 (0 : Int32)
  else
    if i0 < (2 : Int32) then
      L_law_b26 NF q41 i0 i1 i2 (1 : Int32)
    else
      L_law_b26 NF q41 i0 i1 i2 (0 : Int32)
set_option maxRecDepth 65536 in
set_option maxHeartbeats 4000000 in
theorem L_law_p {C : Ctx} {res : Int32} {NF : Nat} (i0 : Int32) (i1 : Int32) (i2 : Int32) (hf : L_law NF i0 i1 i2 = some res) : Runs C B0 0 0 0 [vi i0, vi i1, vi i2, vn, vn, vn, vn, vn, vn, vn] [] (C.2.2.1, []) (fun v _ => v = (some (.int res))) := by
  delta L_law at hf
  refine Runs.newK (k' := 1) (n' := 26) d0_0 w0 ⟨by decide, by decide⟩ rfl rfl (by intro x hx; cases hx) <| Runs.dup d0_3 rfl <| Runs.iconst d0_4 ci_2 <| Runs.iconst d0_5 ci_4 <| Runs.iconst d0_6 ci_4 <| Runs.iconst d0_7 ci_2 <| ?_
  refine bind_el hf fun q41 hg42 hf => ?_
  refine Runs.callI (N := B1) (k' := 19) (n' := 978) (W := 1) (as := [.int (2 : Int32), .int (4 : Int32), .int (4 : Int32), .int (2 : Int32)]) (S' := [.ref C.2.2.1]) d0_8 rfl rfl w3 w4 cw1 ar1 (by decide) rfl rfl rfl rfl (X_init_pay hg42) <| ans0 <| Runs.astoreN (P' := [vi i0, vi i1, vi i2, vr C.2.2.1, vn, vn, vn, vn, vn, vn]) d0_11 (by decide) rfl <| Runs.iloadN d0_12 rfl <| ?_
  refine ite_el hf (fun hc43 hf => ?_) (fun hc43 hf => ?_)
  · refine Runs.ifY (pc' := 25) d0_13 (tlt hc43).1 (by decide) <| ?_
    exact Runs.iconst d0_25 ci_0 <| L_law_b26_p q41 i0 i1 i2 (0 : Int32) hf
  · refine Runs.ifN d0_13 (flt hc43).1 <| ?_
    refine Runs.iloadN d0_16 rfl <| Runs.iconst d0_17 ci_2 <| ?_
    refine ite_el hf (fun hc44 hf => ?_) (fun hc44 hf => ?_)
    · refine Runs.icN d0_18 (tlt hc44).2.1 <| ?_
      exact Runs.iconst d0_21 ci_1 <| Runs.goto (pc' := 26) d0_22 (by decide) <| L_law_b26_p q41 i0 i1 i2 (1 : Int32) hf
    · refine Runs.icY (pc' := 25) d0_18 (flt hc44).2.1 (by decide) <| ?_
      exact Runs.iconst d0_25 ci_0 <| L_law_b26_p q41 i0 i1 i2 (0 : Int32) hf
theorem L_law_pay {C : Ctx} {res : Int32} {NF : Nat} {i0 : Int32} {i1 : Int32} {i2 : Int32} (hf : L_law NF i0 i1 i2 = some res) : Pays C B0 [.int i0, .int i1, .int i2] (C.2.2.1, []) (fun v _ => v = (some (.int res))) :=
  Pays.of pnL (Nat.le_of_ble_eq_true rfl) (P := [vi i0, vi i1, vi i2, vn, vn, vn, vn, vn, vn, vn]) 7 rfl (L_law_p i0 i1 i2 hf)
-- no word: X_ensureResident at 35: method #135
-- no word: X_loadControl at 28: method #128
--OWED--
theorem gI_sI (ob : Rec) (k j : Nat) (v : Int32) : gI (sI ob k v) j = if j = k then v else gI ob j := rfl
theorem gI_sA (ob : Rec) (k j : Nat) (i v : Int32) : gI (sA ob k i v) j = gI ob j := rfl
theorem gI_sJ (ob : Rec) (k j : Nat) (i : Int32) (v : Int64) : gI (sJ ob k i v) j = gI ob j := rfl
theorem gA_sI (ob : Rec) (k j : Nat) (v x : Int32) : gA (sI ob k v) j x = gA ob j x := rfl
theorem gA_sA (ob : Rec) (k j : Nat) (i v x : Int32) : gA (sA ob k i v) j x = if j = k ∧ x = i then v else gA ob j x := rfl
theorem gA_sJ (ob : Rec) (k j : Nat) (i x : Int32) (v : Int64) : gA (sJ ob k i v) j x = gA ob j x := rfl
theorem gJ_sI (ob : Rec) (k j : Nat) (v x : Int32) : gJ (sI ob k v) j x = gJ ob j x := rfl
theorem gJ_sA (ob : Rec) (k j : Nat) (i v x : Int32) : gJ (sA ob k i v) j x = gJ ob j x := rfl
theorem gJ_sJ (ob : Rec) (k j : Nat) (i x : Int32) (v : Int64) : gJ (sJ ob k i v) j x = if j = k ∧ x = i then v else gJ ob j x := rfl
theorem gI_z (k : Nat) : gI zrec k = 0 := rfl
theorem gA_z (k : Nat) (i : Int32) : gA zrec k i = 0 := rfl
theorem gJ_z (k : Nat) (i : Int32) : gJ zrec k i = 0 := rfl
theorem chk_ok {γ : Type} {n i : Int32} {A : Option γ} (h : 0 ≤ i.toInt ∧ i.toInt < n.toInt) : chk n i A = A := by
  have h0 : ¬ i < 0 := by rw [Int32.lt_iff_toInt_lt]; show ¬ i.toInt < 0; omega
  have h1 : i < n := by rw [Int32.lt_iff_toInt_lt]; exact h.2
  unfold chk; rw [if_neg h0, if_pos h1]
theorem lt_i {x y : Int32} : x < y ↔ x.toInt < y.toInt := Int32.lt_iff_toInt_lt
theorem le_i {x y : Int32} : x ≤ y ↔ x.toInt ≤ y.toInt := Int32.le_iff_toInt_le
theorem eq_i32 {x y : Int32} : x = y ↔ x.toInt = y.toInt := Int32.toInt_inj.symm
theorem bm_id {n : Int} (h : -2147483648 ≤ n ∧ n < 2147483648) : n.bmod (2 ^ 32) = n := Int.bmod_eq_of_le (by omega) (by omega)
theorem ad {x y : Int32} (h : -2147483648 ≤ x.toInt + y.toInt ∧ x.toInt + y.toInt < 2147483648) : (x + y).toInt = x.toInt + y.toInt := by rw [Int32.toInt_add, bm_id h]
theorem sb {x y : Int32} (h : -2147483648 ≤ x.toInt - y.toInt ∧ x.toInt - y.toInt < 2147483648) : (x - y).toInt = x.toInt - y.toInt := by rw [Int32.toInt_sub, bm_id h]
theorem ml {x y : Int32} (h : -2147483648 ≤ x.toInt * y.toInt ∧ x.toInt * y.toInt < 2147483648) : (x * y).toInt = x.toInt * y.toInt := by rw [Int32.toInt_mul, bm_id h]
theorem bind2_some {α β γ : Type} (a : α) (b : β) (f : α → β → Option γ) : bind2 (some (a, b)) f = f a b := rfl
theorem t0 : (0 : Int32).toInt = 0 := rfl
theorem t1 : (1 : Int32).toInt = 1 := rfl
theorem t4 : (4 : Int32).toInt = 4 := rfl
theorem t16 : (16 : Int32).toInt = 16 := rfl
theorem t32 : (32 : Int32).toInt = 32 := rfl
theorem t64 : (64 : Int32).toInt = 64 := rfl
theorem t128 : (128 : Int32).toInt = 128 := rfl
theorem succ8 {i : Int32} (h : 0 ≤ i.toInt ∧ i.toInt < 1000) : (i + 1).toInt = i.toInt + 1 := by rw [ad (by rw [t1]; omega), t1]
theorem i247 (NF : Nat) : ∀ (m fuel : Nat) (ob : Rec) (i : Int32), m < fuel → 0 ≤ i.toInt → i.toInt ≤ 32 → 32 - i.toInt ≤ m → ∃ r, X_init_l247 NF fuel ob i = some r ∧ r.1 = ob.1 ∧ (∀ (k : Nat) (x : Int32), ¬ k = 12 → gA r k x = gA ob k x) ∧ (∀ x : Int32, i.toInt ≤ x.toInt → x.toInt < 32 → gA r 12 x = -1) ∧ (∀ x : Int32, x.toInt < i.toInt → gA r 12 x = gA ob 12 x) := by
  intro m
  induction m with
  | zero =>
    intro fuel ob i hf h0 h1 h2
    obtain ⟨n, rfl⟩ : ∃ n, fuel = n + 1 := ⟨fuel - 1, by omega⟩
    exact ⟨ob, by show X_init_w247 NF _ ob i = _; unfold X_init_w247; rw [if_neg (by rw [lt_i, t32]; omega)], rfl, fun _ _ _ => rfl, fun x a b => absurd b (by omega), fun _ _ => rfl⟩
  | succ m ih =>
    intro fuel ob i hf h0 h1 h2
    obtain ⟨n, rfl⟩ : ∃ n, fuel = n + 1 := ⟨fuel - 1, by omega⟩
    by_cases hc : i.toInt < 32
    · have ei := succ8 (i := i) (by omega)
      obtain ⟨r, h, r1, r2, r3, r4⟩ := ih n (sA ob 12 i (-1)) (i + 1) (by omega) (by omega) (by omega) (by omega)
      refine ⟨r, ?_, r1, ?_, ?_, ?_⟩
      · rw [← h]
        show X_init_w247 NF _ ob i = _
        unfold X_init_w247; rw [if_pos (by rw [lt_i, t32]; omega), chk_ok (by rw [t32]; omega)]
      · intro k x hk; rw [r2 k x hk, gA_sA, if_neg (fun h => hk h.1)]
      · intro x a b
        by_cases c : x = i
        · rw [r4 x (by rw [c]; omega), c, gA_sA, if_pos ⟨rfl, rfl⟩]
        · have : x.toInt ≠ i.toInt := fun h => c (eq_i32.mpr h)
          exact r3 x (by omega) b
      · intro x a
        rw [r4 x (by omega), gA_sA, if_neg (fun h => by rw [h.2] at a; omega)]
    · exact ⟨ob, by show X_init_w247 NF _ ob i = _; unfold X_init_w247; rw [if_neg (by rw [lt_i, t32]; omega)], rfl, fun _ _ _ => rfl, fun x a b => absurd b (by omega), fun _ _ => rfl⟩
theorem i215 (NF : Nat) (hNF : 32 < NF) : ∀ (m fuel : Nat) (ob : Rec) (i : Int32), m < fuel → 0 ≤ i.toInt → i.toInt ≤ 64 → 64 - i.toInt ≤ m → ∃ r, X_init_l215 NF fuel ob i = some r ∧ r.1 = ob.1 ∧ (∀ (k : Nat) (x : Int32), ¬ k = 9 → ¬ k = 10 → ¬ k = 12 → gA r k x = gA ob k x) ∧ (∀ x : Int32, i.toInt ≤ x.toInt → x.toInt < 64 → gA r 9 x = -1 ∧ gA r 10 x = -1) ∧ (∀ x : Int32, x.toInt < i.toInt → gA r 9 x = gA ob 9 x ∧ gA r 10 x = gA ob 10 x) ∧ gA r 12 0 = -1 := by
  have base : ∀ (n : Nat) (ob : Rec) (i : Int32), ¬ i.toInt < 64 → ∃ r, X_init_l215 NF (n + 1) ob i = some r ∧ r.1 = ob.1 ∧ (∀ (k : Nat) (x : Int32), ¬ k = 9 → ¬ k = 10 → ¬ k = 12 → gA r k x = gA ob k x) ∧ (∀ x : Int32, i.toInt ≤ x.toInt → x.toInt < 64 → gA r 9 x = -1 ∧ gA r 10 x = -1) ∧ (∀ x : Int32, x.toInt < i.toInt → gA r 9 x = gA ob 9 x ∧ gA r 10 x = gA ob 10 x) ∧ gA r 12 0 = -1 := by
    intro n ob i hi
    obtain ⟨r, h, r1, r2, r3, -⟩ := i247 NF 32 NF ob 0 hNF (by decide) (by decide) (by decide)
    refine ⟨r, ?_, r1, fun k x _ _ hk => r2 k x hk, fun x a b => absurd b (by omega), fun x _ => ⟨r2 9 x (by decide), r2 10 x (by decide)⟩, r3 0 (by decide) (by decide)⟩
    show X_init_w215 NF _ ob i = _
    unfold X_init_w215; rw [if_neg (by rw [lt_i, t64]; omega)]; exact h
  intro m
  induction m with
  | zero =>
    intro fuel ob i hf h0 h1 h2
    obtain ⟨n, rfl⟩ : ∃ n, fuel = n + 1 := ⟨fuel - 1, by omega⟩
    exact base n ob i (by omega)
  | succ m ih =>
    intro fuel ob i hf h0 h1 h2
    obtain ⟨n, rfl⟩ : ∃ n, fuel = n + 1 := ⟨fuel - 1, by omega⟩
    by_cases hc : i.toInt < 64
    · have ei := succ8 (i := i) (by omega)
      obtain ⟨r, h, r1, r2, r3, r4, r5⟩ := ih n (sA (sA ob 9 i (-1)) 10 i (-1)) (i + 1) (by omega) (by omega) (by omega) (by omega)
      refine ⟨r, ?_, r1, ?_, ?_, ?_, r5⟩
      · rw [← h]
        show X_init_w215 NF _ ob i = _
        unfold X_init_w215; rw [if_pos (by rw [lt_i, t64]; omega), chk_ok (by rw [t64]; omega), chk_ok (by rw [t64]; omega)]
      · intro k x a b c; rw [r2 k x a b c, gA_sA, if_neg (fun h => b h.1), gA_sA, if_neg (fun h => a h.1)]
      · intro x a b
        by_cases c : x = i
        · have := r4 x (by rw [c]; omega)
          rw [this.1, this.2, c]
          exact ⟨by rw [gA_sA, if_neg (fun h => absurd h.1 (by decide)), gA_sA, if_pos ⟨rfl, rfl⟩], by rw [gA_sA, if_pos ⟨rfl, rfl⟩]⟩
        · have : x.toInt ≠ i.toInt := fun h => c (eq_i32.mpr h)
          exact r3 x (by omega) b
      · intro x a
        have := r4 x (by omega)
        have ne : ¬ x = i := fun h => by rw [h] at a; omega
        rw [this.1, this.2]
        exact ⟨by rw [gA_sA, if_neg (fun h => ne h.2), gA_sA, if_neg (fun h => ne h.2)], by rw [gA_sA, if_neg (fun h => ne h.2), gA_sA, if_neg (fun h => ne h.2)]⟩
    · exact base n ob i hc
theorem ini : ∃ Q, X_init 70 2 4 4 2 = some Q ∧ (gI Q 0 = 2 ∧ gI Q 1 = 4 ∧ gI Q 2 = 4 ∧ gI Q 3 = 2 ∧ gI Q 5 = 0) ∧ (∀ (k : Nat) (x : Int32), ¬ k = 9 → ¬ k = 10 → ¬ k = 12 → gA Q k x = 0) ∧ (∀ x : Int32, 0 ≤ x.toInt → x.toInt < 64 → gA Q 9 x = -1 ∧ gA Q 10 x = -1) ∧ gA Q 12 0 = -1 := by
  obtain ⟨r, h, r1, r2, r3, -, r5⟩ := i215 70 (by omega) 64 70 (sI (sI (sI (sI (sI (sI (sI (sI zrec 0 2) 1 4) 2 4) 3 2) 4 0) 5 0) 6 0) 7 0) 0 (by omega) (by decide) (by decide) (by decide)
  have rI : ∀ k, gI r k = gI (sI (sI (sI (sI (sI (sI (sI (sI zrec 0 2) 1 4) 2 4) 3 2) 4 0) 5 0) 6 0) 7 0) k := fun k => by unfold gI; rw [r1]
  have c1 : ∀ ob, X_clamp ob 2 1 4 = some 2 := fun ob => by unfold X_clamp; rw [if_neg (by decide), if_neg (by decide)]
  have c2 : ∀ ob, X_clamp ob 4 4 16 = some 4 := fun ob => by unfold X_clamp; rw [if_neg (by decide), if_neg (by decide)]
  have c3 : ∀ ob, X_clamp ob 4 4 32 = some 4 := fun ob => by unfold X_clamp; rw [if_neg (by decide), if_neg (by decide)]
  have c4 : ∀ ob, X_clamp ob 2 1 16 = some 2 := fun ob => by unfold X_clamp; rw [if_neg (by decide), if_neg (by decide)]
  have hi : X_init 70 2 4 4 2 = some r := by
    unfold X_init
    rw [c1, Option.bind_some, c2, Option.bind_some, c3, Option.bind_some, c4, Option.bind_some]
    exact h
  refine ⟨r, hi, ⟨rI 0, rI 1, rI 2, rI 3, rI 5⟩, fun k x a b c => (r2 k x a b c).trans rfl, fun x a b => r3 x (by rw [t0]; exact a) b, r5⟩
abbrev P01 (p : Int32) : Prop := p = 0 ∨ p = 1
theorem chk4 {γ : Type} {p : Int32} (hp : P01 p) (A : Option γ) : chk 4 p A = A := by
  rcases hp with rfl | rfl <;> exact chk_ok (by decide)
theorem vp_e {ob : Rec} {p : Int32} (h0 : gI ob 0 = 2) (hp : P01 p) : X_validPid ob p = some 1 := by
  unfold X_validPid; rw [h0]
  rcases hp with rfl | rfl <;> rw [if_neg (by decide), if_pos (by decide)]
theorem vp_n {ob : Rec} {p : Int32} (h0 : gI ob 0 = 2) (hp : p < 0 ∨ ¬ p < 2) : X_validPid ob p = some 0 := by
  unfold X_validPid; rw [h0]
  by_cases c : p < 0
  · rw [if_pos c]
  · rw [if_neg c, if_neg (hp.resolve_left c)]
/-- the five getters behind the load -/
theorem tail (q : Rec) (p i7 : Int32) (r : Int64) (hi : i7 = 0 ∨ i7 = 1) (hv : X_virtualTime q p = some (if i7 = 0 then 0 else 2)) (hw : X_workingSetSize q p = some (if i7 = 0 then 0 else 1)) (ht : X_touchedPages q p = some (if i7 = 0 then 0 else 1)) (ha : X_activeTotal 70 q = some (if i7 = 0 then 0 else 1)) (h5 : gI q 5 = 0) : L_law_b147 70 q p i7 r r = some 1 := by
  unfold L_law_b147 L_law_b168 L_law_b188 L_law_b208 L_law_b227 X_suspensions
  rcases hi with rfl | rfl
  · rw [if_pos rfl, hv, Option.bind_some, if_pos rfl, if_pos rfl, if_pos rfl, hw, Option.bind_some, if_pos rfl, if_pos rfl, if_pos rfl, ht, Option.bind_some, if_pos rfl, if_pos rfl, if_pos rfl, ha, Option.bind_some, if_pos rfl, if_pos rfl, if_pos rfl, Option.bind_some, if_pos h5]
  · have n : ¬ (1 : Int32) = 0 := by decide
    rw [if_pos rfl, hv, Option.bind_some, if_neg n, if_neg n, if_pos rfl, hw, Option.bind_some, if_neg n, if_neg n, if_pos rfl, ht, Option.bind_some, if_neg n, if_neg n, if_pos rfl, ha, Option.bind_some, if_neg n, if_neg n, if_pos rfl, Option.bind_some, if_pos h5]
theorem at_e (ob : Rec) (h0 : gI ob 0 = 2) (s0 : gA ob 0 0 = 0) (s1 : gA ob 0 1 = 0) : X_activeTotal 70 ob = some (0 + gA ob 4 0 + gA ob 4 1) := by
  have s1' : gA ob 0 (0 + 1) = 0 := s1
  unfold X_activeTotal
  show X_activeTotal_w4 70 ob (X_activeTotal_l4 70 ob 69) 0 0 = _
  unfold X_activeTotal_w4; rw [h0, if_pos (by decide), chk_ok (by decide), if_pos s0, chk_ok (by decide)]
  show X_activeTotal_w4 70 ob (X_activeTotal_l4 70 ob 68) _ (0 + 1) = _
  unfold X_activeTotal_w4; rw [h0, if_pos (by decide), chk_ok (by decide), if_pos s1', chk_ok (by decide)]
  show X_activeTotal_w4 70 ob (X_activeTotal_l4 70 ob 67) _ (0 + 1 + 1) = _
  unfold X_activeTotal_w4; rw [h0, if_neg (by decide)]; rfl
theorem lc_e (ob : Rec) (p s : Int32) (h0 : gI ob 0 = 2) (h2 : gI ob 2 = 4) (s0 : gA ob 0 0 = 0) (s1 : gA ob 0 1 = 0) (hs : 0 + gA ob 4 0 + gA ob 4 1 = s) (hs4 : ¬ 4 < s) : X_loadControl 70 ob p = some ob := by
  have s1' : gA ob 0 (0 + 1) = 0 := s1
  unfold X_loadControl
  rw [h0, if_pos (by decide), at_e ob h0 s0 s1, Option.bind_some, hs, h2, if_neg hs4]
  show X_loadControl_w67 70 (X_loadControl_l67 70 69) ob 0 = _
  unfold X_loadControl_w67; rw [h0, if_pos (by decide), chk_ok (by decide), if_pos s0]
  show X_loadControl_w67 70 (X_loadControl_l67 70 68) ob (0 + 1) = _
  unfold X_loadControl_w67; rw [h0, if_pos (by decide), chk_ok (by decide), if_pos s1']
  show X_loadControl_w67 70 (X_loadControl_l67 70 67) ob (0 + 1 + 1) = _
  unfold X_loadControl_w67; rw [h0, if_neg (by decide)]
theorem ms4 (ob : Rec) (k : Int32 → Int32 → Int32 → Option Int32) (i1 acc i3 i4 f0 f1 f2 f3 : Int32) (e0 : X_readWord ob i4 0 = some f0) (e1 : X_readWord ob i4 1 = some f1) (e2 : X_readWord ob i4 2 = some f2) (e3 : X_readWord ob i4 3 = some f3) : X_memorySum_l33 70 ob k 70 i1 acc i3 i4 0 = k i1 (acc + f0 + f1 + f2 + f3) (i3 + 1) := by
  have e1' : X_readWord ob i4 (0 + 1) = some f1 := e1
  have e2' : X_readWord ob i4 (0 + 1 + 1) = some f2 := e2
  have e3' : X_readWord ob i4 (0 + 1 + 1 + 1) = some f3 := e3
  show X_memorySum_w33 70 ob k (X_memorySum_l33 70 ob k 69) i1 acc i3 i4 0 = _
  unfold X_memorySum_w33; rw [if_pos (by decide), e0, Option.bind_some]
  show X_memorySum_w33 70 ob k (X_memorySum_l33 70 ob k 68) i1 (acc + f0) i3 i4 (0 + 1) = _
  unfold X_memorySum_w33; rw [if_pos (by decide), e1', Option.bind_some]
  show X_memorySum_w33 70 ob k (X_memorySum_l33 70 ob k 67) i1 (acc + f0 + f1) i3 i4 (0 + 1 + 1) = _
  unfold X_memorySum_w33; rw [if_pos (by decide), e2', Option.bind_some]
  show X_memorySum_w33 70 ob k (X_memorySum_l33 70 ob k 66) i1 (acc + f0 + f1 + f2) i3 i4 (0 + 1 + 1 + 1) = _
  unfold X_memorySum_w33; rw [if_pos (by decide), e3', Option.bind_some]
  show X_memorySum_w33 70 ob k (X_memorySum_l33 70 ob k 65) i1 (acc + f0 + f1 + f2 + f3) i3 i4 (0 + 1 + 1 + 1 + 1) = _
  unfold X_memorySum_w33; rw [if_neg (by decide)]
/-- one word v at page g, offset o; all else 0 -/
theorem msum (ob : Rec) (p g o v : Int32) (h0 : gI ob 0 = 2) (h1 : gI ob 1 = 4) (hp : P01 p) (hg : g ∈ ([0, 1, 2, 3] : List Int32)) (ho : o ∈ ([0, 1, 2, 3] : List Int32)) (hr : ∀ j ∈ ([0, 1, 2, 3] : List Int32), ∀ w ∈ ([0, 1, 2, 3] : List Int32), X_readWord ob (p * 16 + j) w = some (if j = g ∧ w = o then v else 0)) : X_memorySum 70 ob p = some v := by
  have st : ∀ (n : Nat) (acc j : Int32), j ∈ ([0, 1, 2, 3] : List Int32) → X_memorySum_l14 70 ob (n + 1) p acc j = X_memorySum_l14 70 ob n p (acc + (if j = g then v else 0)) (j + 1) := by
    intro n acc j hj
    show X_memorySum_w14 70 ob _ p acc j = _
    unfold X_memorySum_w14
    have hj4 : j < 4 := by
      simp only [List.mem_cons, List.not_mem_nil, or_false] at hj
      rcases hj with rfl | rfl | rfl | rfl <;> decide
    rw [h1, if_pos hj4, ms4 ob _ p acc j _ _ _ _ _ (hr j hj 0 (by decide)) (hr j hj 1 (by decide)) (hr j hj 2 (by decide)) (hr j hj 3 (by decide))]
    congr 1
    by_cases c : j = g
    · simp only [List.mem_cons, List.not_mem_nil, or_false] at ho
      rcases ho with rfl | rfl | rfl | rfl <;> simp [c]
    · simp [c]
  unfold X_memorySum
  rw [vp_e h0 hp, Option.bind_some, if_neg (by decide)]
  show X_memorySum_l14 70 ob (69 + 1) p 0 0 = _
  rw [st 69 _ 0 (by decide)]
  show X_memorySum_l14 70 ob (68 + 1) p _ 1 = _
  rw [st 68 _ 1 (by decide)]
  show X_memorySum_l14 70 ob (67 + 1) p _ 2 = _
  rw [st 67 _ 2 (by decide)]
  show X_memorySum_l14 70 ob (66 + 1) p _ 3 = _
  rw [st 66 _ 3 (by decide)]
  show X_memorySum_w14 70 ob (X_memorySum_l14 70 ob 65) p _ 4 = _
  unfold X_memorySum_w14
  rw [h1, if_neg (by decide)]
  simp only [List.mem_cons, List.not_mem_nil, or_false] at hg
  rcases hg with rfl | rfl | rfl | rfl <;> simp
theorem tab : ∀ p ∈ ([0, 1] : List Int32), ∀ a ∈ ([0, 1, 2, 3, 4, 5, 6, 7, 8, 9, 10, 11, 12, 13, 14, 15] : List Int32), (a / 4) ∈ ([0, 1, 2, 3] : List Int32) ∧ (a % 4) ∈ ([0, 1, 2, 3] : List Int32) ∧ 0 ≤ (p * 16 + a / 4).toInt ∧ (p * 16 + a / 4).toInt < 64 ∧ (p * 16 + a / 4) / 16 = p ∧ 0 ≤ (p * 16 + 0).toInt ∧ (p * 16 + 0).toInt < 64 ∧ 0 ≤ (p * 16 + 1).toInt ∧ (p * 16 + 1).toInt < 64 ∧ 0 ≤ (0 * 4 + a % 4).toInt ∧ (0 * 4 + a % 4).toInt < 128 := by decide +kernel
theorem tabj : ∀ p ∈ ([0, 1] : List Int32), ∀ j ∈ ([0, 1, 2, 3] : List Int32), ∀ g ∈ ([0, 1, 2, 3] : List Int32), 0 ≤ (p * 16 + j).toInt ∧ (p * 16 + j).toInt < 64 ∧ (p * 16 + j = p * 16 + g → j = g) ∧ 0 ≤ (0 * 4 + j).toInt ∧ (0 * 4 + j).toInt < 128 ∧ 0 * 4 + j = j := by decide +kernel
theorem ck_e {ob : Rec} {p a : Int32} (h0 : gI ob 0 = 2) (h1 : gI ob 1 = 4) (hp : P01 p) (hs : gA ob 0 p = 0) (ha : ¬ a < 0) (ha' : a < 16) : X_check ob p a = some 0 := by
  unfold X_check
  have e : (4 : Int32) * 4 = 16 := by decide
  rw [vp_e h0 hp, Option.bind_some, if_neg (by decide), if_neg ha, h1, e, if_pos ha', chk4 hp, if_pos hs]
def fl (ob : Rec) (idx : Int32) : Rec := sA (sA (sA (sA (sA (sA (sA (sA (sA ob 15 0 0) 15 1 0) 15 2 0) 15 3 0) 12 0 idx) 13 0 0) 14 0 0) 9 idx 0) 11 idx (gA ob 1 (idx / 16))
theorem ffS (n : Nat) (ob : Rec) (i2 i5 : Int32) (h : i5 < 4) (hc : 0 ≤ (0 * 4 + i5).toInt ∧ (0 * 4 + i5).toInt < 128) : X_fillFrame_l15 70 (n + 1) ob 0 i2 (-1) (0 * 4) i5 = X_fillFrame_l15 70 n (sA ob 15 (0 * 4 + i5) 0) 0 i2 (-1) (0 * 4) (i5 + 1) := by
  show X_fillFrame_w15 70 _ ob 0 i2 (-1) (0 * 4) i5 = _
  unfold X_fillFrame_w15; rw [if_pos h, if_pos (by decide), chk_ok (by rw [t128]; omega)]
theorem fill_e (ob : Rec) (idx : Int32) (hi : 0 ≤ idx.toInt ∧ idx.toInt < 64) (h10 : gA ob 10 idx = -1) (hd : P01 (idx / 16)) : X_fillFrame 70 ob 0 idx = some (fl ob idx) := by
  have q : ∀ A : Option Rec, chk 64 idx A = A := fun A => chk_ok (by rw [t64]; omega)
  have q32 : ∀ A : Option Rec, chk 32 0 A = A := fun A => chk_ok (by decide)
  unfold X_fillFrame
  rw [q, h10]
  show X_fillFrame_l15 70 (69 + 1) ob 0 idx (-1) (0 * 4) 0 = _
  rw [ffS 69 _ _ _ (by decide) (by decide), ffS 68 _ _ _ (by decide) (by decide), ffS 67 _ _ _ (by decide) (by decide), ffS 66 _ _ _ (by decide) (by decide)]
  show X_fillFrame_w15 70 _ _ 0 idx (-1) (0 * 4) (0 + 1 + 1 + 1 + 1) = _
  unfold X_fillFrame_w15
  rw [if_neg (by decide), q32, q32, q32, q, chk4 hd, q]
  rfl
theorem er_new (ob : Rec) (p g idx : Int32) (hix : p * 16 + g = idx) (hi : 0 ≤ idx.toInt ∧ idx.toInt < 64) (hd : P01 (idx / 16)) (h2 : gI ob 2 = 4) (h9 : gA ob 9 idx = -1) (h10 : gA ob 10 idx = -1) (h12 : gA ob 12 0 = -1) : X_ensureResident 70 ob p g = some (0, fl ob idx) := by
  have ff : X_findFreeFrame 70 ob = some 0 := by
    unfold X_findFreeFrame
    show X_findFreeFrame_w2 70 ob (X_findFreeFrame_l2 70 ob 69) 0 = _
    unfold X_findFreeFrame_w2; rw [h2, if_pos (by decide), chk_ok (by decide), h12, if_pos (by decide)]
  unfold X_ensureResident
  rw [hix, chk_ok (by rw [t64]; omega), h9, if_pos (by decide), ff, Option.bind_some, if_neg (by decide), fill_e ob idx hi h10 hd, Option.bind_some]
theorem er_old (ob : Rec) (p g idx : Int32) (hix : p * 16 + g = idx) (hi : 0 ≤ idx.toInt ∧ idx.toInt < 64) (h9 : gA ob 9 idx = 0) : X_ensureResident 70 ob p g = some (0, ob) := by
  unfold X_ensureResident
  rw [hix, chk_ok (by rw [t64]; omega), h9, if_neg (by decide)]
theorem pw_A (B : Rec) (p g idx w h : Int32) (hp : P01 p) (hix : p * 16 + g = idx) (hi : 0 ≤ idx.toInt ∧ idx.toInt < 64) (hh : 0 ≤ (p * 16 + h).toInt ∧ (p * 16 + h).toInt < 64) (h2 : gA B 2 p = w) (hw : w < 2) (h3 : gI B 3 = 2) (h3p : gA B 3 p = h) (h7 : gA B 7 idx = 0) : X_pushWindow B p g = some (sA (sA (sA (sA (sA B 2 p (w + 1)) 6 (p * 16 + h) g) 4 p (gA B 4 p + 1)) 7 idx (0 + 1)) 3 p ((h + 1) % 2)) := by
  have q : ∀ A : Option Rec, chk 64 idx A = A := fun A => chk_ok (by rw [t64]; omega)
  have q' : ∀ A : Option Rec, chk 64 (p * 16 + h) A = A := fun A => chk_ok (by rw [t64]; omega)
  have e7 : gA (sA B 2 p (w + 1)) 7 idx = 0 := h7
  have e7' : gA (sA (sA (sA B 2 p (w + 1)) 6 (p * 16 + h) g) 4 p (gA (sA B 2 p (w + 1)) 4 p + 1)) 7 idx = 0 := h7
  have e3 : gI (sA (sA (sA B 2 p (w + 1)) 6 (p * 16 + h) g) 4 p (gA (sA B 2 p (w + 1)) 4 p + 1)) 3 = 2 := h3
  unfold X_pushWindow X_pushWindow_b100 X_pushWindow_b135 dvz
  rw [chk4 hp, chk4 hp, h2, h3, if_pos hw, chk4 hp, chk4 hp, h3p, hix, q', q, e7, if_pos rfl, chk4 hp, chk4 hp, q, q, e3, if_neg (by decide), chk4 hp, e7']
  rfl
theorem pw_B (B : Rec) (p g idx w h : Int32) (hp : P01 p) (hix : p * 16 + g = idx) (hi : 0 ≤ idx.toInt ∧ idx.toInt < 64) (hh : 0 ≤ (p * 16 + h).toInt ∧ (p * 16 + h).toInt < 64) (h2 : gA B 2 p = w) (hw : w < 2) (h3 : gI B 3 = 2) (h3p : gA B 3 p = h) (h7 : ¬ gA B 7 idx = 0) : X_pushWindow B p g = some (sA (sA (sA (sA B 2 p (w + 1)) 6 (p * 16 + h) g) 7 idx (gA B 7 idx + 1)) 3 p ((h + 1) % 2)) := by
  have q : ∀ A : Option Rec, chk 64 idx A = A := fun A => chk_ok (by rw [t64]; omega)
  have q' : ∀ A : Option Rec, chk 64 (p * 16 + h) A = A := fun A => chk_ok (by rw [t64]; omega)
  have e7 : ¬ gA (sA B 2 p (w + 1)) 7 idx = 0 := h7
  have e3 : gI (sA (sA B 2 p (w + 1)) 6 (p * 16 + h) g) 3 = 2 := h3
  unfold X_pushWindow X_pushWindow_b100 X_pushWindow_b135 dvz
  rw [chk4 hp, chk4 hp, h2, h3, if_pos hw, chk4 hp, chk4 hp, h3p, hix, q', q, if_neg e7, q, q, e3, if_neg (by decide), chk4 hp]
  rfl
def rb (ob : Rec) (p idx : Int32) : Rec := sA (sA (sA ob 13 0 1) 1 p (gA ob 1 p + 1)) 11 idx (gA ob 1 p + 1)
theorem rr_x (ob q : Rec) (p g idx : Int32) (hp : P01 p) (hix : p * 16 + g = idx) (hi : 0 ≤ idx.toInt ∧ idx.toInt < 64) (h9 : gA ob 9 idx = 0) (hq : X_pushWindow (rb ob p idx) p g = some q) : X_recordReference ob p g = if gA q 8 idx = 0 then some (sA (sA q 8 idx 1) 5 p (gA q 5 p + 1)) else some q := by
  have c : ∀ A : Option Rec, chk 64 idx A = A := fun A => chk_ok (by rw [t64]; omega)
  have e : gA (sA (sA ob 13 0 1) 1 p (gA (sA ob 13 0 1) 1 p + 1)) 1 p = gA ob 1 p + 1 := by rw [gA_sA, if_pos ⟨rfl, rfl⟩]; rfl
  have hq' : X_pushWindow (sA (sA (sA ob 13 0 1) 1 p (gA (sA ob 13 0 1) 1 p + 1)) 11 idx (gA ob 1 p + 1)) p g = some q := hq
  unfold X_recordReference X_recordReference_b28
  rw [hix, c, h9, if_neg (by decide), chk_ok (by decide), chk4 hp, chk4 hp, chk4 hp, c, e, hq', Option.bind_some, c, c, chk4 hp, chk4 hp]
theorem rdw_0 (ob : Rec) (i w : Int32) (hi : 0 ≤ i.toInt ∧ i.toInt < 64) (h9 : gA ob 9 i = -1) (h10 : gA ob 10 i = -1) : X_readWord ob i w = some 0 := by
  have c : ∀ A : Option Int32, chk 64 i A = A := fun A => chk_ok (by rw [t64]; omega)
  unfold X_readWord; rw [c, h9, if_pos (by decide), c, h10, if_pos (by decide)]
theorem rdw_1 (ob : Rec) (i w : Int32) (hi : 0 ≤ i.toInt ∧ i.toInt < 64) (h9 : gA ob 9 i = 0) (hw : 0 ≤ (0 * 4 + w).toInt ∧ (0 * 4 + w).toInt < 128) : X_readWord ob i w = some (gA ob 15 (0 * 4 + w)) := by
  unfold X_readWord; rw [chk_ok (by rw [t64]; omega), h9, if_neg (by decide), chk_ok (by rw [t128]; omega)]
theorem get_e (q : Rec) (p : Int32) (h0 : gI q 0 = 2) (hp : P01 p) : X_virtualTime q p = some (gA q 1 p) ∧ X_workingSetSize q p = some (gA q 4 p) ∧ X_touchedPages q p = some (gA q 5 p) := by
  unfold X_virtualTime X_workingSetSize X_touchedPages
  rw [vp_e h0 hp, Option.bind_some, Option.bind_some, Option.bind_some, if_neg (by decide), if_neg (by decide), if_neg (by decide), chk4 hp, chk4 hp, chk4 hp]
  exact ⟨rfl, rfl, rfl⟩
theorem get_n (q : Rec) (p : Int32) (h0 : gI q 0 = 2) (hp : p < 0 ∨ ¬ p < 2) : X_virtualTime q p = some 0 ∧ X_workingSetSize q p = some 0 ∧ X_touchedPages q p = some 0 := by
  unfold X_virtualTime X_workingSetSize X_touchedPages
  rw [vp_n h0 hp, Option.bind_some, Option.bind_some, Option.bind_some, if_pos rfl, if_pos rfl, if_pos rfl]
  exact ⟨rfl, rfl, rfl⟩
abbrev QF (Q : Rec) : Prop := (gI Q 0 = 2 ∧ gI Q 1 = 4 ∧ gI Q 2 = 4 ∧ gI Q 3 = 2 ∧ gI Q 5 = 0) ∧ (∀ (k : Nat) (x : Int32), ¬ k = 9 → ¬ k = 10 → ¬ k = 12 → gA Q k x = 0) ∧ (∀ x : Int32, 0 ≤ x.toInt → x.toInt < 64 → gA Q 9 x = -1 ∧ gA Q 10 x = -1) ∧ gA Q 12 0 = -1
/-- a refused pair -/
theorem own_no (Q : Rec) (hQ : QF Q) (p a v c : Int32) (hc : X_check Q p a = some c) (hc' : X_check (sI Q 4 c) p a = some c) (c0 : ¬ c = 0) (hm : X_memorySum 70 (sI Q 4 c) p = some 0) (hg : X_virtualTime (sI (sI Q 4 c) 4 c) p = some 0 ∧ X_workingSetSize (sI (sI Q 4 c) 4 c) p = some 0 ∧ X_touchedPages (sI (sI Q 4 c) 4 c) p = some 0) : L_law_b77 70 Q p a v c 0 = some 1 := by
  obtain ⟨⟨g0, g1, g2, g3, g5⟩, gz, g9, g12⟩ := hQ
  unfold L_law_b77 X_store
  rw [hc, Option.bind_some, if_neg c0, bind2_some, if_pos rfl]
  unfold X_lastStatus
  have e4 : gI (sI Q 4 c) 4 = c := rfl
  rw [Option.bind_some, if_pos e4, hm, Option.bind_some, if_pos rfl]
  unfold L_law_b119 X_load
  rw [if_pos rfl, hc', Option.bind_some, if_neg c0, bind2_some, if_pos rfl]
  refine tail _ p 0 _ (Or.inl rfl) hg.1 hg.2.1 hg.2.2 ?_ g5
  have s0 : gA (sI (sI Q 4 c) 4 c) 0 0 = 0 := gz 0 0 (by decide) (by decide) (by decide)
  have s1 : gA (sI (sI Q 4 c) 4 c) 0 1 = 0 := gz 0 1 (by decide) (by decide) (by decide)
  have w0 : gA (sI (sI Q 4 c) 4 c) 4 0 = 0 := gz 4 0 (by decide) (by decide) (by decide)
  have w1 : gA (sI (sI Q 4 c) 4 c) 4 1 = 0 := gz 4 1 (by decide) (by decide) (by decide)
  rw [at_e (sI (sI Q 4 c) 4 c) g0 s0 s1, w0, w1]; rfl
theorem own_yes (Q : Rec) (hQ : QF Q) (p a v : Int32) (hp : P01 p) (ha : a ∈ ([0, 1, 2, 3, 4, 5, 6, 7, 8, 9, 10, 11, 12, 13, 14, 15] : List Int32)) (ha0 : ¬ a < 0) (ha1 : a < 16) : L_law_b77 70 Q p a v 0 1 = some 1 := by
  obtain ⟨⟨g0, g1, g2, g3, g5⟩, gz, g9, g12⟩ := hQ
  have mp : p ∈ ([0, 1] : List Int32) := by rcases hp with rfl | rfl <;> decide
  obtain ⟨mg, mo, i0, i1, id, ha0', ha0'', ha1', ha1'', o0, o1⟩ := tab p mp a ha
  generalize hgv : a / 4 = g at *
  generalize hov : a % 4 = o at *
  generalize hix : p * 16 + g = idx at *
  have z : ∀ {k : Nat} {x : Int32}, ¬ k = 9 → ¬ k = 10 → ¬ k = 12 → gA Q k x = 0 := fun a b c => gz _ _ a b c
  have er := er_new Q p g idx hix ⟨i0, i1⟩ (by rw [id]; exact hp) g2 (g9 idx i0 i1).1 (g9 idx i0 i1).2 g12
  -- the record behind the write of the word
  generalize hG : sA (sA (fl Q idx) 15 (0 * 4 + o) v) 14 0 1 = G
  have G0 : ∀ k, gI G k = gI Q k := by intro k; rw [← hG]; rfl
  have G9 : ∀ x, gA G 9 x = if x = idx then 0 else gA Q 9 x := by intro x; rw [← hG]; simp [fl, gA_sA]
  have G10 : ∀ x, gA G 10 x = gA Q 10 x := by intro x; rw [← hG]; simp [fl, gA_sA]
  have G15 : ∀ x, gA G 15 x = if x = 0 * 4 + o then v else 0 := by
    intro x; rw [← hG]; simp only [fl, gA_sA]; simp [z (k := 15) (x := x) (by decide) (by decide) (by decide)]
  have Gz : ∀ (k : Nat) (x : Int32), k < 9 → gA G k x = 0 := by
    intro k x hk
    have : gA G k x = gA Q k x := by
      rw [← hG]; simp only [fl, gA_sA]
      rw [if_neg (fun h => by have := h.1; omega), if_neg (fun h => by have := h.1; omega), if_neg (fun h => by have := h.1; omega), if_neg (fun h => by have := h.1; omega), if_neg (fun h => by have := h.1; omega), if_neg (fun h => by have := h.1; omega), if_neg (fun h => by have := h.1; omega), if_neg (fun h => by have := h.1; omega), if_neg (fun h => by have := h.1; omega), if_neg (fun h => by have := h.1; omega), if_neg (fun h => by have := h.1; omega)]
    rw [this]; exact gz k x (by omega) (by omega) (by omega)
  have pw := pw_A (rb G p idx) p g idx 0 0 hp hix ⟨i0, i1⟩ ⟨ha0', ha0''⟩ (by show gA G 2 p = 0; exact Gz 2 p (by omega)) (by decide) (by show gI G 3 = 2; rw [G0]; exact g3) (by show gA G 3 p = 0; exact Gz 3 p (by omega)) (by show gA G 7 idx = 0; exact Gz 7 idx (by omega))
  have rr := rr_x G _ p g idx hp hix ⟨i0, i1⟩ (by rw [G9, if_pos rfl]) pw
  have e8 : gA (sA (sA (sA (sA (sA (rb G p idx) 2 p (0 + 1)) 6 (p * 16 + 0) g) 4 p (gA (rb G p idx) 4 p + 1)) 7 idx (0 + 1)) 3 p ((0 + 1) % 2)) 8 idx = 0 := by
    show gA G 8 idx = 0; exact Gz 8 idx (by omega)
  rw [if_pos e8] at rr
  generalize hS : sA (sA (sA (sA (sA (sA (sA (rb G p idx) 2 p (0 + 1)) 6 (p * 16 + 0) g) 4 p (gA (rb G p idx) 4 p + 1)) 7 idx (0 + 1)) 3 p ((0 + 1) % 2)) 8 idx 1) 5 p (gA (sA (sA (sA (sA (sA (rb G p idx) 2 p (0 + 1)) 6 (p * 16 + 0) g) 4 p (gA (rb G p idx) 4 p + 1)) 7 idx (0 + 1)) 3 p ((0 + 1) % 2)) 5 p + 1) = S at rr
  have S0 : ∀ k, gI S k = gI Q k := by intro k; rw [← hS]; exact G0 k
  have Sz : ∀ x, gA S 0 x = 0 := by intro x; rw [← hS]; simp only [rb, gA_sA]; simp; exact Gz 0 x (by omega)
  have S1 : gA S 1 p = 1 := by rw [← hS]; simp [rb, gA_sA, Gz 1 p (by omega)]
  have S2 : gA S 2 p = 1 := by rw [← hS]; simp [rb, gA_sA]
  have S3 : gA S 3 p = 1 := by rw [← hS]; simp [rb, gA_sA]
  have S4 : ∀ x, gA S 4 x = if x = p then 1 else 0 := by
    intro x; rw [← hS]; simp [rb, gA_sA, Gz 4 _ (by omega)]
  have S5 : gA S 5 p = 1 := by rw [← hS]; simp [rb, gA_sA, Gz 5 p (by omega)]
  have S7 : gA S 7 idx = 1 := by rw [← hS]; simp [rb, gA_sA]
  have S8 : gA S 8 idx = 1 := by rw [← hS]; simp [rb, gA_sA]
  have S9 : ∀ x, gA S 9 x = if x = idx then 0 else gA Q 9 x := by intro x; rw [← hS]; simp only [rb, gA_sA]; simp; exact G9 x
  have S10 : ∀ x, gA S 10 x = gA Q 10 x := by intro x; rw [← hS]; simp only [rb, gA_sA]; simp; exact G10 x
  have S15 : ∀ x, gA S 15 x = if x = 0 * 4 + o then v else 0 := by intro x; rw [← hS]; simp only [rb, gA_sA]; simp; simpa using G15 x
  have sm : ∀ (ob : Rec), (∀ x, gA ob 4 x = if x = p then 1 else 0) → 0 + gA ob 4 0 + gA ob 4 1 = 1 := by
    intro ob h; rw [h, h]; rcases hp with rfl | rfl <;> decide
  have lc := lc_e S p 1 ((S0 0).trans g0) ((S0 2).trans g2) (Sz 0) (Sz 1) (sm S S4) (by decide)
  have ck := ck_e (ob := Q) (p := p) (a := a) g0 g1 hp (z (by decide) (by decide) (by decide)) ha0 ha1
  have stE : X_store 70 Q p a v = some (0, sI S 4 0) := by
    unfold X_store
    rw [ck, Option.bind_some, if_pos rfl, hgv, hov, er, bind2_some, chk_ok (by rw [t128]; omega), chk_ok (by decide), hG, rr, Option.bind_some, lc, Option.bind_some]
  generalize hU : sI S 4 0 = U at stE
  have U0 : ∀ k, ¬ k = 4 → gI U k = gI Q k := by intro k hk; rw [← hU, gI_sI, if_neg hk]; exact S0 k
  have UA : ∀ (k : Nat) (x : Int32), gA U k x = gA S k x := by intro k x; rw [← hU]; rfl
  have u4 : gI U 4 = 0 := by rw [← hU]; rfl
  have ms : X_memorySum 70 U p = some v := by
    refine msum U p g o v ((U0 0 (by decide)).trans g0) ((U0 1 (by decide)).trans g1) hp mg mo (fun j hj w hw => ?_)
    obtain ⟨j0, j1, jg, -, -, -⟩ := tabj p mp j hj g mg
    obtain ⟨-, -, -, w0, w1, we⟩ := tabj p mp w hw g mg
    have oe := (tabj p mp o mo g mg).2.2.2.2.2
    by_cases c : j = g
    · rw [c, hix, rdw_1 U idx w ⟨i0, i1⟩ (by rw [UA, S9, if_pos rfl]) ⟨w0, w1⟩, UA, S15, we, oe]
      by_cases d : w = o
      · rw [if_pos d, if_pos ⟨rfl, d⟩]
      · rw [if_neg d, if_neg (fun h => d h.2)]
    · have ne : ¬ p * 16 + j = idx := fun h => c (jg (h.trans hix.symm))
      rw [rdw_0 U (p * 16 + j) w ⟨j0, j1⟩ (by rw [UA, S9, if_neg ne]; exact (g9 _ j0 j1).1) (by rw [UA, S10]; exact (g9 _ j0 j1).2), if_neg (fun h => c h.1)]
  have pw2 := pw_B (rb U p idx) p g idx 1 1 hp hix ⟨i0, i1⟩ ⟨ha1', ha1''⟩ (by show gA U 2 p = 1; rw [UA]; exact S2) (by decide) (by show gI U 3 = 2; rw [U0 3 (by decide)]; exact g3) (by show gA U 3 p = 1; rw [UA]; exact S3) (by show ¬ gA U 7 idx = 0; rw [UA, S7]; decide)
  have rr2 := rr_x U _ p g idx hp hix ⟨i0, i1⟩ (by rw [UA, S9, if_pos rfl]) pw2
  have e8' : ¬ gA (sA (sA (sA (sA (rb U p idx) 2 p (1 + 1)) 6 (p * 16 + 1) g) 7 idx (gA (rb U p idx) 7 idx + 1)) 3 p ((1 + 1) % 2)) 8 idx = 0 := by
    show ¬ gA U 8 idx = 0; rw [UA, S8]; decide
  rw [if_neg e8'] at rr2
  generalize hV : sA (sA (sA (sA (rb U p idx) 2 p (1 + 1)) 6 (p * 16 + 1) g) 7 idx (gA (rb U p idx) 7 idx + 1)) 3 p ((1 + 1) % 2) = V at rr2
  have V0 : ∀ k, gI V k = gI U k := by intro k; rw [← hV]; rfl
  have Vz : ∀ x, gA V 0 x = 0 := by intro x; rw [← hV]; show gA U 0 x = 0; rw [UA]; exact Sz x
  have V1 : gA V 1 p = 2 := by rw [← hV]; simp [rb, gA_sA, UA, S1]
  have V4 : ∀ x, gA V 4 x = if x = p then 1 else 0 := by intro x; rw [← hV]; show gA U 4 x = _; rw [UA]; exact S4 x
  have V5 : gA V 5 p = 1 := by rw [← hV]; show gA U 5 p = _; rw [UA]; exact S5
  have lc2 := lc_e V p 1 ((V0 0).trans ((U0 0 (by decide)).trans g0)) ((V0 2).trans ((U0 2 (by decide)).trans g2)) (Vz 0) (Vz 1) (sm V V4) (by decide)
  have ck2 := ck_e (ob := U) (p := p) (a := a) ((U0 0 (by decide)).trans g0) ((U0 1 (by decide)).trans g1) hp (by rw [UA]; exact Sz p) ha0 ha1
  have ldE : X_load 70 U p a = some (v.toInt64, sI V 4 0) := by
    unfold X_load
    rw [ck2, Option.bind_some, if_pos rfl, hgv, hov, er_old U p g idx hix ⟨i0, i1⟩ (by rw [UA, S9, if_pos rfl]), bind2_some, chk_ok (by rw [t128]; omega), rr2, Option.bind_some, lc2, Option.bind_some, UA, S15, if_pos rfl]
  have n10 : ¬ (1 : Int32) = 0 := by decide
  unfold L_law_b77
  rw [stE, bind2_some, if_pos rfl]
  unfold X_lastStatus
  rw [Option.bind_some, if_pos u4, ms, Option.bind_some, if_neg n10]
  unfold L_law_b119
  rw [if_pos rfl, ldE, bind2_some, if_neg n10]
  have gt := get_e (sI V 4 0) p ((V0 0).trans ((U0 0 (by decide)).trans g0)) hp
  refine tail _ p 1 _ (Or.inr rfl) ?_ ?_ ?_ ?_ ((V0 5).trans ((U0 5 (by decide)).trans g5))
  · rw [gt.1, if_neg n10]; exact congrArg some V1
  · rw [gt.2.1, if_neg n10]; refine congrArg some ?_; show gA V 4 p = 1; rw [V4, if_pos rfl]
  · rw [gt.2.2, if_neg n10]; exact congrArg some V5
  · rw [at_e (sI V 4 0) ((V0 0).trans ((U0 0 (by decide)).trans g0)) (Vz 0) (Vz 1), if_neg n10]; exact congrArg some (sm V V4)
theorem owed : ∀ i0 i1 i2 : Int32, ∃ NF : Nat, L_law NF i0 i1 i2 = some 1 := by
  intro p a v
  refine ⟨70, ?_⟩
  obtain ⟨Q, e, hQ⟩ := ini
  have hQ' := hQ
  obtain ⟨⟨g0, g1, g2, g3, g5⟩, gz, g9, g12⟩ := hQ'
  unfold L_law
  rw [e, Option.bind_some]
  have no1 : (p < 0 ∨ ¬ p < 2) → ∀ t : Int32, L_law_b43 70 Q p a v 0 t = some 1 := by
    intro h t
    unfold L_law_b43; rw [if_pos rfl]
    unfold L_law_b67; rw [if_neg (by decide)]
    refine own_no Q hQ p a v 1 ?_ ?_ (by decide) ?_ ?_
    · unfold X_check; rw [vp_n g0 h, Option.bind_some, if_pos rfl]
    · unfold X_check; rw [vp_n (ob := sI Q 4 1) g0 h, Option.bind_some, if_pos rfl]
    · unfold X_memorySum; rw [vp_n (ob := sI Q 4 1) g0 h, Option.bind_some, if_pos rfl]
    · exact get_n (sI (sI Q 4 1) 4 1) p g0 h
  have no1' : (p < 0 ∨ ¬ p < 2) → L_law_b26 70 Q p a v 0 = some 1 := by
    intro h
    unfold L_law_b26
    rw [no1 h, no1 h]
    split
    · rfl
    · split <;> rfl
  by_cases c1 : p < 0
  · rw [if_pos c1]; exact no1' (Or.inl c1)
  · rw [if_neg c1]
    by_cases c2 : p < 2
    · rw [if_pos c2]
      have hp : P01 p := by
        rw [lt_i] at c1 c2
        have t2 : (2 : Int32).toInt = 2 := rfl
        rw [t0] at c1; rw [t2] at c2
        by_cases c : p.toInt = 0
        · exact Or.inl (eq_i32.mpr c)
        · exact Or.inr (eq_i32.mpr (by rw [t1]; omega))
      have no2 : (a < 0 ∨ ¬ a < 16) → L_law_b43 70 Q p a v 1 0 = some 1 := by
        intro h
        have e44 : (4 : Int32) * 4 = 16 := by decide
        have ckn : ∀ ob : Rec, gI ob 0 = 2 → gI ob 1 = 4 → X_check ob p a = some 2 := by
          intro ob h0 h1
          unfold X_check; rw [vp_e h0 hp, Option.bind_some, if_neg (by decide), h1, e44]
          by_cases c : a < 0
          · rw [if_pos c]
          · rw [if_neg c, if_neg (h.resolve_left c)]
        unfold L_law_b43; rw [if_neg (by decide), if_pos rfl]
        unfold L_law_b67; rw [if_neg (by decide)]
        refine own_no Q hQ p a v 2 (ckn Q g0 g1) (ckn (sI Q 4 2) g0 g1) (by decide) ?_ ?_
        · have mp : p ∈ ([0, 1] : List Int32) := by rcases hp with rfl | rfl <;> decide
          refine msum (sI Q 4 2) p 0 0 0 g0 g1 hp (by decide) (by decide) (fun j hj w hw => ?_)
          obtain ⟨j0, j1, -⟩ := tabj p mp j hj 0 (by decide)
          rw [rdw_0 (sI Q 4 2) (p * 16 + j) w ⟨j0, j1⟩ (g9 _ j0 j1).1 (g9 _ j0 j1).2]
          split <;> rfl
        · have gt := get_e (sI (sI Q 4 2) 4 2) p g0 hp
          exact ⟨gt.1.trans (congrArg some (gz 1 p (by decide) (by decide) (by decide))), gt.2.1.trans (congrArg some (gz 4 p (by decide) (by decide) (by decide))), gt.2.2.trans (congrArg some (gz 5 p (by decide) (by decide) (by decide)))⟩
      unfold L_law_b26
      by_cases d1 : a < 0
      · rw [if_pos d1]; exact no2 (Or.inl d1)
      · rw [if_neg d1]
        by_cases d2 : a < 16
        · rw [if_pos d2]
          unfold L_law_b43; rw [if_neg (by decide), if_neg (by decide)]
          unfold L_law_b67; rw [if_pos rfl]
          refine own_yes Q hQ p a v hp ?_ d1 d2
          simp only [lt_i, Int32.reduceToInt] at d1 d2
          simp only [List.mem_cons, eq_i32, Int32.reduceToInt, List.not_mem_nil, or_false]
          omega
        · rw [if_neg d2]; exact no2 (Or.inr d2)
    · rw [if_neg c2]; exact no1' (Or.inr c2)
-- owed : ∀ i0 i1 i2 : Int32, ∃ NF : Nat, L_law NF i0 i1 i2 = some 1
--COMES--
set_option maxRecDepth 65536 in
set_option maxHeartbeats 4000000 in
theorem comes_1 {Post : Tables → Env → Array Value → State → Outcome → State → Prop} (hpost : ∀ tb e args s v u, (limb_1_1.after args s (.returned v) u = true ∧ limb_1_2.after args s (.returned v) u = true ∧ True) → FrameEnd s (.returned v) u (Jvm.fieldLocs frame_1_writes args s ++ Jvm.arrayLocs frame_1_arrays args s ++ Jvm.staticLocs frame_1_statics s) 48 2048 → Post tb e args s (.returned v) u) :
    ArmFor flags0 classFile x code maxLocals ret World_1 tables_1 room_1 Calls_1 rest_1 Pre_1 Post := by
  intro l hfl _ _ p e ha hc hk s m args below hf hA hF happ hP
  obtain ⟨hcalls, hrest, hpre⟩ := hP
  obtain ⟨-, -, -, hnamed, -, -, -, hat⟩ := (Spec.applies_iff hf).mp happ
  obtain ⟨hg, hn⟩ := and_e (Cond.before_iff.mp (show (Jvm.Cond.and given_1 narrow_1).before args s = true from hpre))
  obtain ⟨hcnt, hg⟩ := and_e hg
  obtain ⟨w0, w1, w2, rfl⟩ : ∃ w0 w1 w2 : Value, args = #[w0, w1, w2] := by
    have hs : args.size = 3 := by simpa [Cond.value, given_1] using hcnt
    obtain ⟨L⟩ := args
    match L, hs with
    | [w0, w1, w2], _ => exact ⟨w0, w1, w2, rfl⟩
  have hw := fun d (hd : d ∈ tables_1) => atoms_spec (ws := Jvm.Cond.code x code maxLocals ret :: tables_1) hat d (List.mem_cons_of_mem _ hd)
  have hfit : Fit s := fun {y c} hc i hi => by
    obtain ⟨ha, rfl⟩ := Array.getElem?_eq_some_iff.mp hc
    have q := List.all_eq_true.mp ((Array.all_eq_true_iff_forall_mem.mp hF) _ (Array.getElem_mem ha)) i (List.mem_range.mpr hi)
    simpa [Array.getElem?_eq_getElem hi] using q
  obtain ⟨h0, hg⟩ := and_e hg
  obtain ⟨i0, e0⟩ := is_v h0
  obtain rfl : w0 = (.int i0) := Option.some.inj e0
  obtain ⟨h1, hg⟩ := and_e hg
  obtain ⟨i1, e1⟩ := is_v h1
  obtain rfl : w1 = (.int i1) := Option.some.inj e1
  have h2 := hg
  obtain ⟨i2, e2⟩ := is_v h2
  obtain rfl : w2 = (.int i2) := Option.some.inj e2
  obtain ⟨NF, hlaw⟩ := owed i0 i1 i2
  have hp := L_law_pay (C := (l, s, s.heap.size, #[.int i0, .int i1, .int i2])) hlaw hw s.heap (Rep.start s) tables_1
  obtain ⟨n, o, h1, h2, h3, v, L, rfl, ⟨N, G', -, rfl⟩, hq⟩ := hp p e ha hc hk s m _ below hf ((Spec.applies_iff_loose hf).mp happ).1 ⟨rfl, State.Warmed39.refl s, rfl⟩ trivial
  refine ⟨n, _, h1, h2, h3, hpost _ _ _ _ _ _ ⟨Cond.after_iff.mpr rfl, Cond.after_iff.mpr (eq_i res_at (Term.int_eval (1)) rfl), trivial⟩ ⟨hq.1, hq.2.1, (hq.2.2.sift fun y hy => Or.inr (N y hy)).mono (by decide) (by decide)⟩⟩
theorem main_1_1 : Claimed_1_1 := comes_1 fun _ _ _ _ _ _ h hF => ⟨h.1, hF⟩
theorem main_1_2 : Claimed_1_2 := comes_1 fun _ _ _ _ _ _ h hF => ⟨h.2.1, hF⟩
end Jvm.Pilot.@@N@@
namespace Jvm.Pilot.@@N@@
open Jvm Jvm.ClassFile Sem Op Lib Jvm.Free Jvm.Stand Jvm.Pilot.@@N@@.Jvm.D
/-! MADE BY PROGRAM (witnessworld.py) out of the Statement's table words and the real class files: 11 classes; the members and pool entries that the words name. The judged class is class 1, her method 1. -/
namespace start1
open Jvm.ClassFile
def u (s : String) : CpInfo := .utf8 (stringToUtf16 s)
/-- a pool by its gaps: so many unusable entries, then the entry; so many at the end -/
def gap : Nat → List CpInfo → List CpInfo
  | 0, r => r
  | n + 1, r => .unusable :: gap n r
def poolList (es : List (Nat × CpInfo)) (last : Nat) : List CpInfo := es.foldr (fun e r => gap e.1 (e.2 :: r)) (gap last [])
def pool (es : List (Nat × CpInfo)) (last : Nat) : Array CpInfo := ⟨poolList es last⟩
def fileOf (pool : Array CpInfo) (this : Nat) (attrs : Array Attribute := #[]) (ms : Array MethodInfo := #[]) (fl : Nat := 33) (sup : Nat := 0) (ifs : Array Nat := #[]) (fds : Array FieldInfo := #[]) : ClassFile where
  minorVersion := 0
  majorVersion := 65
  constantPool := pool
  accessFlags := fl
  thisClass := this
  superClass := sup
  interfaces := ifs
  fields := fds
  methods := ms
  attributes := attrs
def plain (name : String) (sup : Option ClassId) : Class where
  name := name
  kind := .ordinary
  loader := none
  accessFlags := 33
  super := sup
  interfaces := #[]
  cf := none
  fields := #[]
  methods := #[]
  instanceTypes := #[]
  staticTypes := #[]
  resolved := #[]
  callSites := []
  init := .initialized
  statics := none
  mirror := none

def pool0 : Array CpInfo := pool [(5, u "<init>"), (0, u "()V"), (1, .class_ 10), (1, u "java/lang/Object")] 113

def k0c0 : Code := { maxStack := 0, maxLocals := 1, code := object_method_1_code, exceptionTable := #[], attributes := #[] }
def k0m0 : Method := { name := "<init>", desc := "()V", sig := { parameters := [], returnType := none }, accessFlags := 1, code := some k0c0 }
/-- java/lang/Object -/
def k0 : Class := { plain "java/lang/Object" none with
  accessFlags := 33
  interfaces := #[]
  cf := some (fileOf pool0 8 #[] #[{ accessFlags := 1, nameIndex := 5, descriptorIndex := 6, attributes := #[] }] 33 0 #[] #[])
  fields := #[]
  methods := #[k0m0]
  instanceTypes := #[]
  staticTypes := #[]
  resolved := Array.replicate 124 none
  statics := none }

def pool1 : Array CpInfo := pool [(2, .class_ 4), (1, u "java/lang/Object"), (0, u "<init>"), (0, u "()V"), (0, .class_ 8), (0, u "WsClockPager"), (0, .methodref 7 10), (0, .nameAndType 5 11), (0, u "(IIII)V"), (0, .methodref 7 13), (0, .nameAndType 14 15), (0, u "store"), (0, u "(III)I"), (0, .methodref 7 17), (0, .nameAndType 18 19), (0, u "lastStatus"), (0, u "()I"), (0, .methodref 7 21), (0, .nameAndType 22 23), (0, u "memorySum"), (0, u "(I)I"), (0, .methodref 7 25), (0, .nameAndType 26 27), (0, u "load"), (0, u "(II)J"), (0, .long 9223372036854775808), (1, .methodref 7 31), (0, .nameAndType 32 23), (0, u "virtualTime"), (0, .methodref 7 34), (0, .nameAndType 35 23), (0, u "workingSetSize"), (0, .methodref 7 37), (0, .nameAndType 38 23), (0, u "touchedPages"), (0, .methodref 7 40), (0, .nameAndType 41 19), (0, u "activeTotal"), (0, .methodref 7 43), (0, .nameAndType 44 19), (0, u "suspensions"), (0, .class_ 46), (0, u "WsClockPagerL2"), (2, u "law"), (0, u "(III)Z")] 3

def k1m0 : Method := { name := "<init>", desc := "()V", sig := { parameters := [], returnType := none }, accessFlags := 1, code := none }
def k1c1 : Code := { maxStack := 6, maxLocals := 10, code := code, exceptionTable := #[], attributes := #[] }
def k1m1 : Method := { name := "law", desc := "(III)Z", sig := { parameters := [.int, .int, .int], returnType := some .boolean }, accessFlags := 9, code := some k1c1 }
/-- WsClockPagerL2 -/
def k1 : Class := { plain "WsClockPagerL2" (some 0) with
  accessFlags := 49
  interfaces := #[]
  cf := some (fileOf pool1 45 #[] #[{ accessFlags := 1, nameIndex := 5, descriptorIndex := 6, attributes := #[] }, { accessFlags := 9, nameIndex := 49, descriptorIndex := 50, attributes := #[] }] 49 2 #[] #[])
  fields := #[]
  methods := #[k1m0, k1m1]
  instanceTypes := #[]
  staticTypes := #[]
  resolved := Array.replicate 54 none
  statics := none }

def pool2 : Array CpInfo := pool [(1, .methodref 2 3), (0, .class_ 4), (0, .nameAndType 5 6), (0, u "java/lang/Object"), (0, u "<init>"), (0, u "()V"), (0, .fieldref 8 9), (0, .class_ 10), (0, .nameAndType 11 12), (0, u "WsClockPager"), (0, u "suspended"), (0, u "[Z"), (0, .fieldref 8 14), (0, .nameAndType 15 16), (0, u "vtime"), (0, u "[I"), (0, .fieldref 8 18), (0, .nameAndType 19 16), (0, u "winLen"), (0, .fieldref 8 21), (0, .nameAndType 22 16), (0, u "winHead"), (0, .fieldref 8 24), (0, .nameAndType 25 16), (0, u "wsSize"), (0, .fieldref 8 27), (0, .nameAndType 28 16), (0, u "touchedCount"), (0, .fieldref 8 30), (0, .nameAndType 31 16), (0, u "ring"), (0, .fieldref 8 33), (0, .nameAndType 34 16), (0, u "winCount"), (0, .fieldref 8 36), (0, .nameAndType 37 12), (0, u "touched"), (0, .fieldref 8 39), (0, .nameAndType 40 16), (0, u "pageFrame"), (0, .fieldref 8 42), (0, .nameAndType 43 16), (0, u "pageSlot"), (0, .fieldref 8 45), (0, .nameAndType 46 16), (0, u "pageLastUse"), (0, .fieldref 8 48), (0, .nameAndType 49 16), (0, u "frameOwner"), (0, .fieldref 8 51), (0, .nameAndType 52 12), (0, u "frameRef"), (0, .fieldref 8 54), (0, .nameAndType 55 12), (0, u "frameDirty"), (0, .fieldref 8 57), (0, .nameAndType 58 16), (0, u "frameWords"), (0, .fieldref 8 60), (0, .nameAndType 61 12), (0, u "slotUsed"), (0, .fieldref 8 63), (0, .nameAndType 64 16), (0, u "swapWords"), (0, .methodref 8 66), (0, .nameAndType 67 68), (0, u "clamp"), (0, u "(III)I"), (0, .fieldref 8 70), (0, .nameAndType 71 72), (0, u "procs"), (0, u "I"), (0, .fieldref 8 74), (0, .nameAndType 75 72), (0, u "pages"), (0, .fieldref 8 77), (0, .nameAndType 78 72), (0, u "frames"), (0, .fieldref 8 80), (0, .nameAndType 81 72), (0, u "tau"), (0, .fieldref 8 83), (0, .nameAndType 84 72), (0, u "status"), (0, .fieldref 8 86), (0, .nameAndType 87 72), (0, u "suspensionCount"), (0, .fieldref 8 89), (0, .nameAndType 90 72), (0, u "readmissionCount"), (0, .fieldref 8 92), (0, .nameAndType 93 72), (0, u "hand"), (0, .methodref 8 95), (0, .nameAndType 96 97), (0, u "check"), (0, u "(II)I"), (0, .long 9223372036854775808), (1, .methodref 8 101), (0, .nameAndType 102 97), (0, u "ensureResident"), (0, .methodref 8 104), (0, .nameAndType 105 106), (0, u "recordReference"), (0, u "(II)V"), (0, .methodref 8 108), (0, .nameAndType 109 110), (0, u "loadControl"), (0, u "(I)V"), (0, .methodref 8 112), (0, .nameAndType 113 114), (0, u "validPid"), (0, u "(I)Z"), (3, .methodref 8 119), (0, .nameAndType 120 97), (0, u "readWord"), (0, .methodref 8 122), (0, .nameAndType 123 106), (0, u "pushWindow"), (0, .methodref 8 125), (0, .nameAndType 126 127), (0, u "activeTotal"), (0, u "()I"), (3, u "(I)I"), (0, .methodref 8 133), (0, .nameAndType 134 127), (0, u "findFreeFrame"), (6, .methodref 8 142), (0, .nameAndType 143 106), (0, u "fillFrame"), (6, u "PAGE_WORDS"), (2, u "OK"), (1, u "BAD_PID"), (1, u "BAD_ADDR"), (1, u "SUSPENDED"), (1, u "REFUSED"), (0, u "J"), (0, u "CFG_PROCS"), (0, u "CFG_PAGES"), (0, u "CFG_FRAMES"), (0, u "CFG_TAU"), (0, u "(IIII)V"), (3, u "load"), (0, u "(II)J"), (0, u "store"), (1, u "lastStatus"), (1, u "virtualTime"), (0, u "workingSetSize"), (2, u "suspensions"), (1, u "touchedPages"), (0, u "memorySum")] 3

def k2c0 : Code := { maxStack := 5, maxLocals := 6, code := prog_1_method_1_code, exceptionTable := #[], attributes := #[] }
def k2m0 : Method := { name := "<init>", desc := "(IIII)V", sig := { parameters := [.int, .int, .int, .int], returnType := none }, accessFlags := 1, code := some k2c0 }
def k2c1 : Code := { maxStack := 4, maxLocals := 7, code := prog_1_method_2_code, exceptionTable := #[], attributes := #[] }
def k2m1 : Method := { name := "load", desc := "(II)J", sig := { parameters := [.int, .int], returnType := some .long }, accessFlags := 1, code := some k2c1 }
def k2c2 : Code := { maxStack := 4, maxLocals := 7, code := prog_1_method_3_code, exceptionTable := #[], attributes := #[] }
def k2m2 : Method := { name := "store", desc := "(III)I", sig := { parameters := [.int, .int, .int], returnType := some .int }, accessFlags := 1, code := some k2c2 }
def k2c3 : Code := { maxStack := 1, maxLocals := 1, code := prog_1_method_5_code, exceptionTable := #[], attributes := #[] }
def k2m3 : Method := { name := "lastStatus", desc := "()I", sig := { parameters := [], returnType := some .int }, accessFlags := 1, code := some k2c3 }
def k2c4 : Code := { maxStack := 2, maxLocals := 2, code := prog_1_method_7_code, exceptionTable := #[], attributes := #[] }
def k2m4 : Method := { name := "virtualTime", desc := "(I)I", sig := { parameters := [.int], returnType := some .int }, accessFlags := 1, code := some k2c4 }
def k2c5 : Code := { maxStack := 2, maxLocals := 2, code := prog_1_method_8_code, exceptionTable := #[], attributes := #[] }
def k2m5 : Method := { name := "workingSetSize", desc := "(I)I", sig := { parameters := [.int], returnType := some .int }, accessFlags := 1, code := some k2c5 }
def k2c6 : Code := { maxStack := 3, maxLocals := 3, code := prog_1_method_10_code, exceptionTable := #[], attributes := #[] }
def k2m6 : Method := { name := "activeTotal", desc := "()I", sig := { parameters := [], returnType := some .int }, accessFlags := 1, code := some k2c6 }
def k2c7 : Code := { maxStack := 1, maxLocals := 1, code := prog_1_method_11_code, exceptionTable := #[], attributes := #[] }
def k2m7 : Method := { name := "suspensions", desc := "()I", sig := { parameters := [], returnType := some .int }, accessFlags := 1, code := some k2c7 }
def k2c8 : Code := { maxStack := 2, maxLocals := 2, code := prog_1_method_13_code, exceptionTable := #[], attributes := #[] }
def k2m8 : Method := { name := "touchedPages", desc := "(I)I", sig := { parameters := [.int], returnType := some .int }, accessFlags := 1, code := some k2c8 }
def k2c9 : Code := { maxStack := 4, maxLocals := 6, code := prog_1_method_14_code, exceptionTable := #[], attributes := #[] }
def k2m9 : Method := { name := "memorySum", desc := "(I)I", sig := { parameters := [.int], returnType := some .int }, accessFlags := 1, code := some k2c9 }
def k2c10 : Code := { maxStack := 2, maxLocals := 4, code := prog_1_method_16_code, exceptionTable := #[], attributes := #[] }
def k2m10 : Method := { name := "clamp", desc := "(III)I", sig := { parameters := [.int, .int, .int], returnType := some .int }, accessFlags := 2, code := some k2c10 }
def k2c11 : Code := { maxStack := 2, maxLocals := 2, code := prog_1_method_17_code, exceptionTable := #[], attributes := #[] }
def k2m11 : Method := { name := "validPid", desc := "(I)Z", sig := { parameters := [.int], returnType := some .boolean }, accessFlags := 2, code := some k2c11 }
def k2c12 : Code := { maxStack := 3, maxLocals := 3, code := prog_1_method_18_code, exceptionTable := #[], attributes := #[] }
def k2m12 : Method := { name := "check", desc := "(II)I", sig := { parameters := [.int, .int], returnType := some .int }, accessFlags := 2, code := some k2c12 }
def k2c13 : Code := { maxStack := 3, maxLocals := 5, code := prog_1_method_19_code, exceptionTable := #[], attributes := #[] }
def k2m13 : Method := { name := "readWord", desc := "(II)I", sig := { parameters := [.int, .int], returnType := some .int }, accessFlags := 2, code := some k2c13 }
def k2c14 : Code := { maxStack := 4, maxLocals := 5, code := prog_1_method_21_code, exceptionTable := #[], attributes := #[] }
def k2m14 : Method := { name := "recordReference", desc := "(II)V", sig := { parameters := [.int, .int], returnType := none }, accessFlags := 2, code := some k2c14 }
def k2c15 : Code := { maxStack := 5, maxLocals := 6, code := prog_1_method_22_code, exceptionTable := #[], attributes := #[] }
def k2m15 : Method := { name := "pushWindow", desc := "(II)V", sig := { parameters := [.int, .int], returnType := none }, accessFlags := 2, code := some k2c15 }
def k2c16 : Code := { maxStack := 3, maxLocals := 5, code := prog_1_method_23_code, exceptionTable := #[], attributes := #[] }
def k2m16 : Method := { name := "loadControl", desc := "(I)V", sig := { parameters := [.int], returnType := none }, accessFlags := 2, code := some k2c16 }
def k2c17 : Code := { maxStack := 3, maxLocals := 5, code := prog_1_method_25_code, exceptionTable := #[], attributes := #[] }
def k2m17 : Method := { name := "ensureResident", desc := "(II)I", sig := { parameters := [.int, .int], returnType := some .int }, accessFlags := 2, code := some k2c17 }
def k2c18 : Code := { maxStack := 2, maxLocals := 2, code := prog_1_method_26_code, exceptionTable := #[], attributes := #[] }
def k2m18 : Method := { name := "findFreeFrame", desc := "()I", sig := { parameters := [], returnType := some .int }, accessFlags := 2, code := some k2c18 }
def k2c19 : Code := { maxStack := 5, maxLocals := 6, code := prog_1_method_27_code, exceptionTable := #[], attributes := #[] }
def k2m19 : Method := { name := "fillFrame", desc := "(II)V", sig := { parameters := [.int, .int], returnType := none }, accessFlags := 2, code := some k2c19 }
/-- WsClockPager -/
def k2 : Class := { plain "WsClockPager" (some 0) with
  accessFlags := 49
  interfaces := #[]
  cf := some (fileOf pool2 8 #[] #[{ accessFlags := 1, nameIndex := 5, descriptorIndex := 167, attributes := #[] }, { accessFlags := 1, nameIndex := 171, descriptorIndex := 172, attributes := #[] }, { accessFlags := 1, nameIndex := 173, descriptorIndex := 68, attributes := #[] }, { accessFlags := 1, nameIndex := 175, descriptorIndex := 127, attributes := #[] }, { accessFlags := 1, nameIndex := 177, descriptorIndex := 131, attributes := #[] }, { accessFlags := 1, nameIndex := 178, descriptorIndex := 131, attributes := #[] }, { accessFlags := 1, nameIndex := 126, descriptorIndex := 127, attributes := #[] }, { accessFlags := 1, nameIndex := 181, descriptorIndex := 127, attributes := #[] }, { accessFlags := 1, nameIndex := 183, descriptorIndex := 131, attributes := #[] }, { accessFlags := 1, nameIndex := 184, descriptorIndex := 131, attributes := #[] }, { accessFlags := 2, nameIndex := 67, descriptorIndex := 68, attributes := #[] }, { accessFlags := 2, nameIndex := 113, descriptorIndex := 114, attributes := #[] }, { accessFlags := 2, nameIndex := 96, descriptorIndex := 97, attributes := #[] }, { accessFlags := 2, nameIndex := 120, descriptorIndex := 97, attributes := #[] }, { accessFlags := 2, nameIndex := 105, descriptorIndex := 106, attributes := #[] }, { accessFlags := 2, nameIndex := 123, descriptorIndex := 106, attributes := #[] }, { accessFlags := 2, nameIndex := 109, descriptorIndex := 110, attributes := #[] }, { accessFlags := 2, nameIndex := 102, descriptorIndex := 97, attributes := #[] }, { accessFlags := 2, nameIndex := 134, descriptorIndex := 127, attributes := #[] }, { accessFlags := 2, nameIndex := 143, descriptorIndex := 106, attributes := #[] }] 49 2 #[] #[{ accessFlags := 25, nameIndex := 150, descriptorIndex := 72, attributes := #[] }, { accessFlags := 25, nameIndex := 153, descriptorIndex := 72, attributes := #[] }, { accessFlags := 25, nameIndex := 155, descriptorIndex := 72, attributes := #[] }, { accessFlags := 25, nameIndex := 157, descriptorIndex := 72, attributes := #[] }, { accessFlags := 25, nameIndex := 159, descriptorIndex := 72, attributes := #[] }, { accessFlags := 25, nameIndex := 161, descriptorIndex := 162, attributes := #[] }, { accessFlags := 25, nameIndex := 163, descriptorIndex := 72, attributes := #[] }, { accessFlags := 25, nameIndex := 164, descriptorIndex := 72, attributes := #[] }, { accessFlags := 25, nameIndex := 165, descriptorIndex := 72, attributes := #[] }, { accessFlags := 25, nameIndex := 166, descriptorIndex := 72, attributes := #[] }, { accessFlags := 2, nameIndex := 71, descriptorIndex := 72, attributes := #[] }, { accessFlags := 2, nameIndex := 75, descriptorIndex := 72, attributes := #[] }, { accessFlags := 2, nameIndex := 78, descriptorIndex := 72, attributes := #[] }, { accessFlags := 2, nameIndex := 81, descriptorIndex := 72, attributes := #[] }, { accessFlags := 2, nameIndex := 84, descriptorIndex := 72, attributes := #[] }, { accessFlags := 2, nameIndex := 87, descriptorIndex := 72, attributes := #[] }, { accessFlags := 2, nameIndex := 90, descriptorIndex := 72, attributes := #[] }, { accessFlags := 2, nameIndex := 11, descriptorIndex := 12, attributes := #[] }, { accessFlags := 2, nameIndex := 15, descriptorIndex := 16, attributes := #[] }, { accessFlags := 2, nameIndex := 19, descriptorIndex := 16, attributes := #[] }, { accessFlags := 2, nameIndex := 22, descriptorIndex := 16, attributes := #[] }, { accessFlags := 2, nameIndex := 25, descriptorIndex := 16, attributes := #[] }, { accessFlags := 2, nameIndex := 28, descriptorIndex := 16, attributes := #[] }, { accessFlags := 2, nameIndex := 31, descriptorIndex := 16, attributes := #[] }, { accessFlags := 2, nameIndex := 34, descriptorIndex := 16, attributes := #[] }, { accessFlags := 2, nameIndex := 37, descriptorIndex := 12, attributes := #[] }, { accessFlags := 2, nameIndex := 40, descriptorIndex := 16, attributes := #[] }, { accessFlags := 2, nameIndex := 43, descriptorIndex := 16, attributes := #[] }, { accessFlags := 2, nameIndex := 46, descriptorIndex := 16, attributes := #[] }, { accessFlags := 2, nameIndex := 49, descriptorIndex := 16, attributes := #[] }, { accessFlags := 2, nameIndex := 52, descriptorIndex := 12, attributes := #[] }, { accessFlags := 2, nameIndex := 55, descriptorIndex := 12, attributes := #[] }, { accessFlags := 2, nameIndex := 58, descriptorIndex := 16, attributes := #[] }, { accessFlags := 2, nameIndex := 93, descriptorIndex := 72, attributes := #[] }, { accessFlags := 2, nameIndex := 61, descriptorIndex := 12, attributes := #[] }, { accessFlags := 2, nameIndex := 64, descriptorIndex := 16, attributes := #[] }])
  fields := #[{ name := "PAGE_WORDS", type := .int, accessFlags := 25, slot := 0, constantValue := 0 }, { name := "OK", type := .int, accessFlags := 25, slot := 1, constantValue := 0 }, { name := "BAD_PID", type := .int, accessFlags := 25, slot := 2, constantValue := 0 }, { name := "BAD_ADDR", type := .int, accessFlags := 25, slot := 3, constantValue := 0 }, { name := "SUSPENDED", type := .int, accessFlags := 25, slot := 4, constantValue := 0 }, { name := "REFUSED", type := .long, accessFlags := 25, slot := 5, constantValue := 0 }, { name := "CFG_PROCS", type := .int, accessFlags := 25, slot := 6, constantValue := 0 }, { name := "CFG_PAGES", type := .int, accessFlags := 25, slot := 7, constantValue := 0 }, { name := "CFG_FRAMES", type := .int, accessFlags := 25, slot := 8, constantValue := 0 }, { name := "CFG_TAU", type := .int, accessFlags := 25, slot := 9, constantValue := 0 }, { name := "procs", type := .int, accessFlags := 2, slot := 0, constantValue := 0 }, { name := "pages", type := .int, accessFlags := 2, slot := 1, constantValue := 0 }, { name := "frames", type := .int, accessFlags := 2, slot := 2, constantValue := 0 }, { name := "tau", type := .int, accessFlags := 2, slot := 3, constantValue := 0 }, { name := "status", type := .int, accessFlags := 2, slot := 4, constantValue := 0 }, { name := "suspensionCount", type := .int, accessFlags := 2, slot := 5, constantValue := 0 }, { name := "readmissionCount", type := .int, accessFlags := 2, slot := 6, constantValue := 0 }, { name := "suspended", type := (.array .boolean), accessFlags := 2, slot := 7, constantValue := 0 }, { name := "vtime", type := (.array .int), accessFlags := 2, slot := 8, constantValue := 0 }, { name := "winLen", type := (.array .int), accessFlags := 2, slot := 9, constantValue := 0 }, { name := "winHead", type := (.array .int), accessFlags := 2, slot := 10, constantValue := 0 }, { name := "wsSize", type := (.array .int), accessFlags := 2, slot := 11, constantValue := 0 }, { name := "touchedCount", type := (.array .int), accessFlags := 2, slot := 12, constantValue := 0 }, { name := "ring", type := (.array .int), accessFlags := 2, slot := 13, constantValue := 0 }, { name := "winCount", type := (.array .int), accessFlags := 2, slot := 14, constantValue := 0 }, { name := "touched", type := (.array .boolean), accessFlags := 2, slot := 15, constantValue := 0 }, { name := "pageFrame", type := (.array .int), accessFlags := 2, slot := 16, constantValue := 0 }, { name := "pageSlot", type := (.array .int), accessFlags := 2, slot := 17, constantValue := 0 }, { name := "pageLastUse", type := (.array .int), accessFlags := 2, slot := 18, constantValue := 0 }, { name := "frameOwner", type := (.array .int), accessFlags := 2, slot := 19, constantValue := 0 }, { name := "frameRef", type := (.array .boolean), accessFlags := 2, slot := 20, constantValue := 0 }, { name := "frameDirty", type := (.array .boolean), accessFlags := 2, slot := 21, constantValue := 0 }, { name := "frameWords", type := (.array .int), accessFlags := 2, slot := 22, constantValue := 0 }, { name := "hand", type := .int, accessFlags := 2, slot := 23, constantValue := 0 }, { name := "slotUsed", type := (.array .boolean), accessFlags := 2, slot := 24, constantValue := 0 }, { name := "swapWords", type := (.array .int), accessFlags := 2, slot := 25, constantValue := 0 }]
  methods := #[k2m0, k2m1, k2m2, k2m3, k2m4, k2m5, k2m6, k2m7, k2m8, k2m9, k2m10, k2m11, k2m12, k2m13, k2m14, k2m15, k2m16, k2m17, k2m18, k2m19]
  instanceTypes := #[.int, .int, .int, .int, .int, .int, .int, (.array .boolean), (.array .int), (.array .int), (.array .int), (.array .int), (.array .int), (.array .int), (.array .int), (.array .boolean), (.array .int), (.array .int), (.array .int), (.array .int), (.array .boolean), (.array .boolean), (.array .int), .int, (.array .boolean), (.array .int)]
  staticTypes := #[.int, .int, .int, .int, .int, .long, .int, .int, .int, .int]
  resolved := Array.replicate 188 none
  statics := none }

def pool3 : Array CpInfo := pool [(1, u "java/lang/Cloneable"), (0, .class_ 1), (0, u "java/lang/Object"), (0, .class_ 3)] 3

/-- java/lang/Cloneable -/
def k3 : Class := { plain "java/lang/Cloneable" (some 0) with
  accessFlags := 1537
  interfaces := #[]
  cf := some (fileOf pool3 2 #[] #[] 1537 4 #[] #[])
  fields := #[]
  methods := #[]
  instanceTypes := #[]
  staticTypes := #[]
  resolved := Array.replicate 8 none
  statics := none }

def pool4 : Array CpInfo := pool [(1, u "java/io/Serializable"), (0, .class_ 1), (0, u "java/lang/Object"), (0, .class_ 3)] 3

/-- java/io/Serializable -/
def k4 : Class := { plain "java/io/Serializable" (some 0) with
  accessFlags := 1537
  interfaces := #[]
  cf := some (fileOf pool4 2 #[] #[] 1537 4 #[] #[])
  fields := #[]
  methods := #[]
  instanceTypes := #[]
  staticTypes := #[]
  resolved := Array.replicate 8 none
  statics := none }

/-- the primitive boolean -/
def k5 : Class := { plain "boolean" none with kind := .primitive 'Z', accessFlags := 0x411 }
/-- [Z -/
def k6 : Class := { plain "[Z" (some 0) with kind := .array 5 .boolean, interfaces := #[3, 4], accessFlags := 1041 }

/-- the primitive byte -/
def k7 : Class := { plain "byte" none with kind := .primitive 'B', accessFlags := 0x411 }
/-- [B -/
def k8 : Class := { plain "[B" (some 0) with kind := .array 7 .byte, interfaces := #[3, 4], accessFlags := 1041 }

/-- the primitive int -/
def k9 : Class := { plain "int" none with kind := .primitive 'I', accessFlags := 0x411 }
/-- [I -/
def k10 : Class := { plain "[I" (some 0) with kind := .array 9 .int, interfaces := #[3, 4], accessFlags := 1041 }

def heap : Heap := #[]
def classes : Array Class := #[k0, k1, k2, k3, k4, k5, k6, k7, k8, k9, k10]
def interned : List (Array UInt16 × Addr) := []
def slotsUsed : Nat := 0
def theMethod : MethodId := ⟨1, 1⟩
def args0 : Array Value := #[.int 1, .int 5, .int 77]
def aboutOver (below : List Frame) : State where
  vm := { classes := classes, interned := interned.toArray }
  heap := heap
  slotsUsed := slotsUsed
  threads := #[{ frames := .invoking theMethod args0 :: below }]
def below0 : List Frame := [.native { method := ⟨0, 0⟩, args := #[] }]
def about1 : State := aboutOver below0
def p0 : Program := .bare "" "" ""
def e0 : Env := launch0.env 0 0 0
theorem w_frames : about1.frames = Frame.invoking theMethod args0 :: below0 := rfl
set_option maxRecDepth 65536 in
theorem w_args : argsFit about1.vm theMethod args0 = true := by decide +kernel
set_option maxRecDepth 65536 in
theorem w_heap : heapFits about1 = true := by decide +kernel
set_option maxRecDepth 65536 in
theorem w_runnable : about1.curStatus? = some .runnable := by decide +kernel
set_option maxRecDepth 65536 in
theorem w_alone : about1.alone = true := by decide +kernel
set_option maxRecDepth 65536 in
theorem w_named : about1.methodNamed? x = some theMethod := by decide +kernel
set_option maxRecDepth 65536 in
theorem w_hears : about1.hears theMethod below0 = true := by decide +kernel
set_option maxRecDepth 65536 in
theorem w_ripe : about1.ripe theMethod args0 below0 = true := by decide +kernel
theorem w_running : about1.status = .running := rfl
set_option maxRecDepth 65536 in
theorem w_room : about1.hasRoom e0.platform room_1 = true :=
  launch0.hasRoom_least _ room_1 (by decide +kernel) (by decide +kernel) (by decide +kernel) (by decide +kernel) (by decide +kernel) (by decide +kernel)
theorem allAtoms_all (ts : List Jvm.Cond) (a : Array Jvm.Value) (st : Jvm.State) : (allAtoms ts).before a st = ts.all (fun c => c.before a st) := by
  induction ts with
  | nil => rfl
  | cons c t ih =>
    show (Jvm.Cond.and c (allAtoms t)).before a st = _
    rw [Jvm.Cond.before_and, ih, List.all_cons]
def words1 : List Jvm.Cond := Jvm.Cond.code x code maxLocals ret :: tables_1
/-- a 'code' word, met by the world's own term for the bytes: nothing is compared byte by byte -/
theorem code_word {y : MethodName} {bytes : ByteArray} {mx : Nat} {rt : Option FieldType} {a : Array Value} {s : State} {m : MethodId} {meth : Method} {c : Code} (h1 : s.methodNamed? y = some m) (h2 : s.vm.method? m = some meth) (h3 : meth.code = some c) (h4 : c.code = bytes)
    (h5 : (c.maxLocals == mx && c.exceptionTable.isEmpty && decide (c.maxStack ≤ mostOperands) && decide (meth.sig.returnType = rt) && !meth.locks && decide (parseMethodDescriptor y.desc = some meth.sig)) = true) : (Jvm.Cond.code y bytes mx rt).before a s = true := by
  simp only [Bool.and_eq_true, beq_iff_eq, Bool.not_eq_true', decide_eq_true_eq] at h5
  obtain ⟨⟨⟨⟨⟨g1, g2⟩, g3⟩, g4⟩, g5⟩, g6⟩ := h5
  simp [Cond.before, Cond.holds, Cond.value, h1, h2, h3, h4, g1, g2, g3, g4, g5, g6]
def isCode : Jvm.Cond → Bool
  | .code _ _ _ _ => true
  | _ => false
theorem all_split {L : List Jvm.Cond} {P : Jvm.Cond → Bool} (h1 : L.all (fun c => isCode c || P c) = true) (h2 : ∀ c ∈ L.filter isCode, P c = true) : L.all P = true := by
  refine List.all_eq_true.mpr fun c hc => ?_
  have h := List.all_eq_true.mp h1 c hc
  rcases Bool.eq_false_or_eq_true (isCode c) with hi | hi
  · exact h2 c (List.mem_filter.mpr ⟨hc, hi⟩)
  · simpa [hi] using h
set_option maxRecDepth 65536 in
theorem w_c0 : (Jvm.Cond.code x code maxLocals ret).before args0 about1 = true := code_word (m := ⟨1, 1⟩) (meth := k1m1) (c := k1c1) (by decide +kernel) rfl rfl rfl (by decide +kernel)
set_option maxRecDepth 65536 in
theorem w_c1 : (Jvm.Cond.code ({ cls := "WsClockPager", name := "<init>", desc := "(IIII)V" } : Jvm.MethodName) prog_1_method_1_code (6 : Nat) (Option.none : Option Jvm.ClassFile.FieldType)).before args0 about1 = true := code_word (m := ⟨2, 0⟩) (meth := k2m0) (c := k2c0) (by decide +kernel) rfl rfl rfl (by decide +kernel)
set_option maxRecDepth 65536 in
theorem w_c2 : (Jvm.Cond.code ({ cls := "java/lang/Object", name := "<init>", desc := "()V" } : Jvm.MethodName) object_method_1_code (1 : Nat) (Option.none : Option Jvm.ClassFile.FieldType)).before args0 about1 = true := code_word (m := ⟨0, 0⟩) (meth := k0m0) (c := k0c0) (by decide +kernel) rfl rfl rfl (by decide +kernel)
set_option maxRecDepth 65536 in
theorem w_c3 : (Jvm.Cond.code ({ cls := "WsClockPager", name := "clamp", desc := "(III)I" } : Jvm.MethodName) prog_1_method_16_code (4 : Nat) (Option.some Jvm.ClassFile.FieldType.int)).before args0 about1 = true := code_word (m := ⟨2, 10⟩) (meth := k2m10) (c := k2c10) (by decide +kernel) rfl rfl rfl (by decide +kernel)
set_option maxRecDepth 65536 in
theorem w_c4 : (Jvm.Cond.code ({ cls := "WsClockPager", name := "store", desc := "(III)I" } : Jvm.MethodName) prog_1_method_3_code (7 : Nat) (Option.some Jvm.ClassFile.FieldType.int)).before args0 about1 = true := code_word (m := ⟨2, 2⟩) (meth := k2m2) (c := k2c2) (by decide +kernel) rfl rfl rfl (by decide +kernel)
set_option maxRecDepth 65536 in
theorem w_c5 : (Jvm.Cond.code ({ cls := "WsClockPager", name := "check", desc := "(II)I" } : Jvm.MethodName) prog_1_method_18_code (3 : Nat) (Option.some Jvm.ClassFile.FieldType.int)).before args0 about1 = true := code_word (m := ⟨2, 12⟩) (meth := k2m12) (c := k2c12) (by decide +kernel) rfl rfl rfl (by decide +kernel)
set_option maxRecDepth 65536 in
theorem w_c6 : (Jvm.Cond.code ({ cls := "WsClockPager", name := "validPid", desc := "(I)Z" } : Jvm.MethodName) prog_1_method_17_code (2 : Nat) (Option.some Jvm.ClassFile.FieldType.boolean)).before args0 about1 = true := code_word (m := ⟨2, 11⟩) (meth := k2m11) (c := k2c11) (by decide +kernel) rfl rfl rfl (by decide +kernel)
set_option maxRecDepth 65536 in
theorem w_c7 : (Jvm.Cond.code ({ cls := "WsClockPager", name := "ensureResident", desc := "(II)I" } : Jvm.MethodName) prog_1_method_25_code (5 : Nat) (Option.some Jvm.ClassFile.FieldType.int)).before args0 about1 = true := code_word (m := ⟨2, 17⟩) (meth := k2m17) (c := k2c17) (by decide +kernel) rfl rfl rfl (by decide +kernel)
set_option maxRecDepth 65536 in
theorem w_c8 : (Jvm.Cond.code ({ cls := "WsClockPager", name := "findFreeFrame", desc := "()I" } : Jvm.MethodName) prog_1_method_26_code (2 : Nat) (Option.some Jvm.ClassFile.FieldType.int)).before args0 about1 = true := code_word (m := ⟨2, 18⟩) (meth := k2m18) (c := k2c18) (by decide +kernel) rfl rfl rfl (by decide +kernel)
set_option maxRecDepth 65536 in
theorem w_c9 : (Jvm.Cond.code ({ cls := "WsClockPager", name := "fillFrame", desc := "(II)V" } : Jvm.MethodName) prog_1_method_27_code (6 : Nat) (Option.none : Option Jvm.ClassFile.FieldType)).before args0 about1 = true := code_word (m := ⟨2, 19⟩) (meth := k2m19) (c := k2c19) (by decide +kernel) rfl rfl rfl (by decide +kernel)
set_option maxRecDepth 65536 in
theorem w_c10 : (Jvm.Cond.code ({ cls := "WsClockPager", name := "recordReference", desc := "(II)V" } : Jvm.MethodName) prog_1_method_21_code (5 : Nat) (Option.none : Option Jvm.ClassFile.FieldType)).before args0 about1 = true := code_word (m := ⟨2, 14⟩) (meth := k2m14) (c := k2c14) (by decide +kernel) rfl rfl rfl (by decide +kernel)
set_option maxRecDepth 65536 in
theorem w_c11 : (Jvm.Cond.code ({ cls := "WsClockPager", name := "pushWindow", desc := "(II)V" } : Jvm.MethodName) prog_1_method_22_code (6 : Nat) (Option.none : Option Jvm.ClassFile.FieldType)).before args0 about1 = true := code_word (m := ⟨2, 15⟩) (meth := k2m15) (c := k2c15) (by decide +kernel) rfl rfl rfl (by decide +kernel)
set_option maxRecDepth 65536 in
theorem w_c12 : (Jvm.Cond.code ({ cls := "WsClockPager", name := "loadControl", desc := "(I)V" } : Jvm.MethodName) prog_1_method_23_code (5 : Nat) (Option.none : Option Jvm.ClassFile.FieldType)).before args0 about1 = true := code_word (m := ⟨2, 16⟩) (meth := k2m16) (c := k2c16) (by decide +kernel) rfl rfl rfl (by decide +kernel)
set_option maxRecDepth 65536 in
theorem w_c13 : (Jvm.Cond.code ({ cls := "WsClockPager", name := "activeTotal", desc := "()I" } : Jvm.MethodName) prog_1_method_10_code (3 : Nat) (Option.some Jvm.ClassFile.FieldType.int)).before args0 about1 = true := code_word (m := ⟨2, 6⟩) (meth := k2m6) (c := k2c6) (by decide +kernel) rfl rfl rfl (by decide +kernel)
set_option maxRecDepth 65536 in
theorem w_c14 : (Jvm.Cond.code ({ cls := "WsClockPager", name := "lastStatus", desc := "()I" } : Jvm.MethodName) prog_1_method_5_code (1 : Nat) (Option.some Jvm.ClassFile.FieldType.int)).before args0 about1 = true := code_word (m := ⟨2, 3⟩) (meth := k2m3) (c := k2c3) (by decide +kernel) rfl rfl rfl (by decide +kernel)
set_option maxRecDepth 65536 in
theorem w_c15 : (Jvm.Cond.code ({ cls := "WsClockPager", name := "memorySum", desc := "(I)I" } : Jvm.MethodName) prog_1_method_14_code (6 : Nat) (Option.some Jvm.ClassFile.FieldType.int)).before args0 about1 = true := code_word (m := ⟨2, 9⟩) (meth := k2m9) (c := k2c9) (by decide +kernel) rfl rfl rfl (by decide +kernel)
set_option maxRecDepth 65536 in
theorem w_c16 : (Jvm.Cond.code ({ cls := "WsClockPager", name := "readWord", desc := "(II)I" } : Jvm.MethodName) prog_1_method_19_code (5 : Nat) (Option.some Jvm.ClassFile.FieldType.int)).before args0 about1 = true := code_word (m := ⟨2, 13⟩) (meth := k2m13) (c := k2c13) (by decide +kernel) rfl rfl rfl (by decide +kernel)
set_option maxRecDepth 65536 in
theorem w_c17 : (Jvm.Cond.code ({ cls := "WsClockPager", name := "load", desc := "(II)J" } : Jvm.MethodName) prog_1_method_2_code (7 : Nat) (Option.some Jvm.ClassFile.FieldType.long)).before args0 about1 = true := code_word (m := ⟨2, 1⟩) (meth := k2m1) (c := k2c1) (by decide +kernel) rfl rfl rfl (by decide +kernel)
set_option maxRecDepth 65536 in
theorem w_c18 : (Jvm.Cond.code ({ cls := "WsClockPager", name := "virtualTime", desc := "(I)I" } : Jvm.MethodName) prog_1_method_7_code (2 : Nat) (Option.some Jvm.ClassFile.FieldType.int)).before args0 about1 = true := code_word (m := ⟨2, 4⟩) (meth := k2m4) (c := k2c4) (by decide +kernel) rfl rfl rfl (by decide +kernel)
set_option maxRecDepth 65536 in
theorem w_c19 : (Jvm.Cond.code ({ cls := "WsClockPager", name := "workingSetSize", desc := "(I)I" } : Jvm.MethodName) prog_1_method_8_code (2 : Nat) (Option.some Jvm.ClassFile.FieldType.int)).before args0 about1 = true := code_word (m := ⟨2, 5⟩) (meth := k2m5) (c := k2c5) (by decide +kernel) rfl rfl rfl (by decide +kernel)
set_option maxRecDepth 65536 in
theorem w_c20 : (Jvm.Cond.code ({ cls := "WsClockPager", name := "touchedPages", desc := "(I)I" } : Jvm.MethodName) prog_1_method_13_code (2 : Nat) (Option.some Jvm.ClassFile.FieldType.int)).before args0 about1 = true := code_word (m := ⟨2, 8⟩) (meth := k2m8) (c := k2c8) (by decide +kernel) rfl rfl rfl (by decide +kernel)
set_option maxRecDepth 65536 in
theorem w_c21 : (Jvm.Cond.code ({ cls := "WsClockPager", name := "suspensions", desc := "()I" } : Jvm.MethodName) prog_1_method_11_code (1 : Nat) (Option.some Jvm.ClassFile.FieldType.int)).before args0 about1 = true := code_word (m := ⟨2, 7⟩) (meth := k2m7) (c := k2c7) (by decide +kernel) rfl rfl rfl (by decide +kernel)
def codes1 : List Jvm.Cond := [Jvm.Cond.code x code maxLocals ret, Jvm.Cond.code ({ cls := "WsClockPager", name := "<init>", desc := "(IIII)V" } : Jvm.MethodName) prog_1_method_1_code (6 : Nat) (Option.none : Option Jvm.ClassFile.FieldType), Jvm.Cond.code ({ cls := "java/lang/Object", name := "<init>", desc := "()V" } : Jvm.MethodName) object_method_1_code (1 : Nat) (Option.none : Option Jvm.ClassFile.FieldType), Jvm.Cond.code ({ cls := "WsClockPager", name := "clamp", desc := "(III)I" } : Jvm.MethodName) prog_1_method_16_code (4 : Nat) (Option.some Jvm.ClassFile.FieldType.int), Jvm.Cond.code ({ cls := "WsClockPager", name := "store", desc := "(III)I" } : Jvm.MethodName) prog_1_method_3_code (7 : Nat) (Option.some Jvm.ClassFile.FieldType.int), Jvm.Cond.code ({ cls := "WsClockPager", name := "check", desc := "(II)I" } : Jvm.MethodName) prog_1_method_18_code (3 : Nat) (Option.some Jvm.ClassFile.FieldType.int), Jvm.Cond.code ({ cls := "WsClockPager", name := "validPid", desc := "(I)Z" } : Jvm.MethodName) prog_1_method_17_code (2 : Nat) (Option.some Jvm.ClassFile.FieldType.boolean), Jvm.Cond.code ({ cls := "WsClockPager", name := "ensureResident", desc := "(II)I" } : Jvm.MethodName) prog_1_method_25_code (5 : Nat) (Option.some Jvm.ClassFile.FieldType.int), Jvm.Cond.code ({ cls := "WsClockPager", name := "findFreeFrame", desc := "()I" } : Jvm.MethodName) prog_1_method_26_code (2 : Nat) (Option.some Jvm.ClassFile.FieldType.int), Jvm.Cond.code ({ cls := "WsClockPager", name := "fillFrame", desc := "(II)V" } : Jvm.MethodName) prog_1_method_27_code (6 : Nat) (Option.none : Option Jvm.ClassFile.FieldType), Jvm.Cond.code ({ cls := "WsClockPager", name := "recordReference", desc := "(II)V" } : Jvm.MethodName) prog_1_method_21_code (5 : Nat) (Option.none : Option Jvm.ClassFile.FieldType), Jvm.Cond.code ({ cls := "WsClockPager", name := "pushWindow", desc := "(II)V" } : Jvm.MethodName) prog_1_method_22_code (6 : Nat) (Option.none : Option Jvm.ClassFile.FieldType), Jvm.Cond.code ({ cls := "WsClockPager", name := "loadControl", desc := "(I)V" } : Jvm.MethodName) prog_1_method_23_code (5 : Nat) (Option.none : Option Jvm.ClassFile.FieldType), Jvm.Cond.code ({ cls := "WsClockPager", name := "activeTotal", desc := "()I" } : Jvm.MethodName) prog_1_method_10_code (3 : Nat) (Option.some Jvm.ClassFile.FieldType.int), Jvm.Cond.code ({ cls := "WsClockPager", name := "lastStatus", desc := "()I" } : Jvm.MethodName) prog_1_method_5_code (1 : Nat) (Option.some Jvm.ClassFile.FieldType.int), Jvm.Cond.code ({ cls := "WsClockPager", name := "memorySum", desc := "(I)I" } : Jvm.MethodName) prog_1_method_14_code (6 : Nat) (Option.some Jvm.ClassFile.FieldType.int), Jvm.Cond.code ({ cls := "WsClockPager", name := "readWord", desc := "(II)I" } : Jvm.MethodName) prog_1_method_19_code (5 : Nat) (Option.some Jvm.ClassFile.FieldType.int), Jvm.Cond.code ({ cls := "WsClockPager", name := "load", desc := "(II)J" } : Jvm.MethodName) prog_1_method_2_code (7 : Nat) (Option.some Jvm.ClassFile.FieldType.long), Jvm.Cond.code ({ cls := "WsClockPager", name := "virtualTime", desc := "(I)I" } : Jvm.MethodName) prog_1_method_7_code (2 : Nat) (Option.some Jvm.ClassFile.FieldType.int), Jvm.Cond.code ({ cls := "WsClockPager", name := "workingSetSize", desc := "(I)I" } : Jvm.MethodName) prog_1_method_8_code (2 : Nat) (Option.some Jvm.ClassFile.FieldType.int), Jvm.Cond.code ({ cls := "WsClockPager", name := "touchedPages", desc := "(I)I" } : Jvm.MethodName) prog_1_method_13_code (2 : Nat) (Option.some Jvm.ClassFile.FieldType.int), Jvm.Cond.code ({ cls := "WsClockPager", name := "suspensions", desc := "()I" } : Jvm.MethodName) prog_1_method_11_code (1 : Nat) (Option.some Jvm.ClassFile.FieldType.int)]
set_option maxRecDepth 65536 in
theorem codes_eq : words1.filter isCode = codes1 := rfl
theorem w_codes : ∀ c ∈ words1.filter isCode, c.before args0 about1 = true := by
  rw [codes_eq]
  intro c hc
  simp only [codes1, List.mem_cons, List.not_mem_nil, or_false] at hc
  rcases hc with rfl | rfl | rfl | rfl | rfl | rfl | rfl | rfl | rfl | rfl | rfl | rfl | rfl | rfl | rfl | rfl | rfl | rfl | rfl | rfl | rfl | rfl
  · exact w_c0
  · exact w_c1
  · exact w_c2
  · exact w_c3
  · exact w_c4
  · exact w_c5
  · exact w_c6
  · exact w_c7
  · exact w_c8
  · exact w_c9
  · exact w_c10
  · exact w_c11
  · exact w_c12
  · exact w_c13
  · exact w_c14
  · exact w_c15
  · exact w_c16
  · exact w_c17
  · exact w_c18
  · exact w_c19
  · exact w_c20
  · exact w_c21
set_option maxRecDepth 65536 in
theorem w_t1 : (words1.take 24).all (fun c => isCode c || c.before args0 about1) = true := by decide +kernel
set_option maxRecDepth 65536 in
theorem w_t2 : ((words1.drop 24).take 24).all (fun c => isCode c || c.before args0 about1) = true := by decide +kernel
set_option maxRecDepth 65536 in
theorem w_t3 : (((words1.drop 24).drop 24).take 24).all (fun c => isCode c || c.before args0 about1) = true := by decide +kernel
set_option maxRecDepth 65536 in
theorem w_t4 : ((((words1.drop 24).drop 24).drop 24).take 24).all (fun c => isCode c || c.before args0 about1) = true := by decide +kernel
set_option maxRecDepth 65536 in
theorem w_t5 : (((((words1.drop 24).drop 24).drop 24).drop 24).take 24).all (fun c => isCode c || c.before args0 about1) = true := by decide +kernel
set_option maxRecDepth 65536 in
theorem w_t6 : ((((((words1.drop 24).drop 24).drop 24).drop 24).drop 24).take 24).all (fun c => isCode c || c.before args0 about1) = true := by decide +kernel
set_option maxRecDepth 65536 in
theorem w_t7 : ((((((words1.drop 24).drop 24).drop 24).drop 24).drop 24).drop 24).all (fun c => isCode c || c.before args0 about1) = true := by decide +kernel
theorem w_tables : (allAtoms (Jvm.Cond.code x code maxLocals ret :: tables_1)).before args0 about1 = true := by
  rw [allAtoms_all]
  show words1.all (fun c => c.before args0 about1) = true
  refine all_split ?_ w_codes
  rw [← List.take_append_drop 24 words1, List.all_append, w_t1, ← List.take_append_drop 24 (words1.drop 24), List.all_append, w_t2, ← List.take_append_drop 24 ((words1.drop 24).drop 24), List.all_append, w_t3, ← List.take_append_drop 24 (((words1.drop 24).drop 24).drop 24), List.all_append, w_t4, ← List.take_append_drop 24 ((((words1.drop 24).drop 24).drop 24).drop 24), List.all_append, w_t5, ← List.take_append_drop 24 (((((words1.drop 24).drop 24).drop 24).drop 24).drop 24), List.all_append, w_t6, w_t7]
  rfl
set_option maxRecDepth 65536 in
theorem w_case : (Jvm.Cond.and given_1 narrow_1).before args0 about1 = true := by decide +kernel
theorem w_applies : (headSpec (Jvm.Cond.code x code maxLocals ret :: tables_1) room_1).applies x e0.platform about1 = true :=
  (Spec.applies_iff w_frames).mpr ⟨w_running, w_runnable, w_alone, w_named, w_hears, w_ripe, w_room, w_tables⟩
theorem atStart : AtStart classFile x code maxLocals ret World_1 tables_1 room_1 Calls_1 rest_1 Pre_1 launch0 p0 e0 about1 theMethod args0 below0 :=
  ⟨lists_1, trivial, launch0.admits_env _ _ _, launch0.least_env, fairChoices_fair.cas, fairChoices_fair.clock, w_frames, w_args, w_heap, w_applies, trivial, trivial, w_case⟩
end start1
theorem witness_1 : WitnessClaimed_1 := ⟨start1.p0, start1.e0, start1.about1, start1.theMethod, start1.args0, start1.below0, start1.atStart⟩
end Jvm.Pilot.@@N@@
