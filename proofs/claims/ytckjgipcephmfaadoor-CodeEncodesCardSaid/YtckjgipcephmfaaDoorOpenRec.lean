/- Data of the program: shapes, what is known of them, and how cells of such a shape are opened. Printed by genopen.py. -/
import Derived.Test.YtckjgipcephmfaaDoorShape
import Derived.Test.YtckjgipcephmfaaDoorKRec
namespace Go.Proofs.YtckjgipcephmfaaDoor
open Go.RowKit
set_option linter.unusedSimpArgs false
set_option linter.unusedVariables false

structure RuleD where
  pre : ByteArray
  frz : Int
  drop : Int
structure RecS where
  kind : Int
  id : Int
  n : Int
  name : ByteArray
  key : ByteArray
  rule : RuleD
  ver : VerD
  ask : AskD
  part : PartD
  secs : List Int
  vol : Int
  pos : Int
def shAsk : Sh := .st [.int .i64, .int .i64, .int .i64]
def AskD.wf (x : AskD) : Prop := inI x.ver ∧ inI x.days ∧ inI x.cls
theorem ask_of {rs : List RV} (h : Shaped shAsk rs) : ∃ x : AskD, x.wf ∧ rs = x.row := by
  have h0 := shaped_st h
  obtain ⟨a0, r0, g0, h1, rfl⟩ := shapedL_cons h0
  obtain ⟨a1, r1, g1, h2, rfl⟩ := shapedL_cons h1
  obtain ⟨a2, r2, g2, h3, rfl⟩ := shapedL_cons h2
  obtain rfl := shapedL_nil h3
  obtain ⟨x0, w0, rfl⟩ := int_of g0
  obtain ⟨x1, w1, rfl⟩ := int_of g1
  obtain ⟨x2, w2, rfl⟩ := int_of g2
  exact ⟨⟨x0, x1, x2⟩, ⟨w0, w1, w2⟩, rfl⟩

def shVer : Sh := .st [.int .i64, .str, .str, .bool, .bool, .int .i64, .int .i64, .int .i64, shInts, .int .i64, .int .i64, .int .i64]
def VerD.wf (x : VerD) : Prop := inI x.id ∧ x.bkt.size ≤ 2 ^ 47 ∧ x.key.size ≤ 2 ^ 47 ∧ inI x.size ∧ inI x.time ∧ inI x.tier ∧ ((x.secs.length ≤ 2 ^ 47 ∧ x.secs.length * 8 ≤ 2 ^ 47) ∧ ∀ n ∈ x.secs, inI n) ∧ inI x.vol ∧ inI x.pos ∧ inI x.till
theorem ver_of {rs : List RV} (h : Shaped shVer rs) : ∃ x : VerD, x.wf ∧ rs = x.row := by
  have h0 := shaped_st h
  obtain ⟨a0, r0, g0, h1, rfl⟩ := shapedL_cons h0
  obtain ⟨a1, r1, g1, h2, rfl⟩ := shapedL_cons h1
  obtain ⟨a2, r2, g2, h3, rfl⟩ := shapedL_cons h2
  obtain ⟨a3, r3, g3, h4, rfl⟩ := shapedL_cons h3
  obtain ⟨a4, r4, g4, h5, rfl⟩ := shapedL_cons h4
  obtain ⟨a5, r5, g5, h6, rfl⟩ := shapedL_cons h5
  obtain ⟨a6, r6, g6, h7, rfl⟩ := shapedL_cons h6
  obtain ⟨a7, r7, g7, h8, rfl⟩ := shapedL_cons h7
  obtain ⟨a8, r8, g8, h9, rfl⟩ := shapedL_cons h8
  obtain ⟨a9, r9, g9, h10, rfl⟩ := shapedL_cons h9
  obtain ⟨a10, r10, g10, h11, rfl⟩ := shapedL_cons h10
  obtain ⟨a11, r11, g11, h12, rfl⟩ := shapedL_cons h11
  obtain rfl := shapedL_nil h12
  obtain ⟨x0, w0, rfl⟩ := int_of g0
  obtain ⟨x1, w1, rfl⟩ := shaped_str g1
  obtain ⟨x2, w2, rfl⟩ := shaped_str g2
  obtain ⟨x3, rfl⟩ := shaped_bool g3
  obtain ⟨x4, rfl⟩ := shaped_bool g4
  obtain ⟨x5, w5, rfl⟩ := int_of g5
  obtain ⟨x6, w6, rfl⟩ := int_of g6
  obtain ⟨x7, w7, rfl⟩ := int_of g7
  obtain ⟨x8, w8, rfl⟩ := ints_of g8
  obtain ⟨x9, w9, rfl⟩ := int_of g9
  obtain ⟨x10, w10, rfl⟩ := int_of g10
  obtain ⟨x11, w11, rfl⟩ := int_of g11
  exact ⟨⟨x0, x1, x2, x3, x4, x5, x6, x7, x8, x9, x10, x11⟩, ⟨w0, w1, w2, w5, w6, w7, w8, w9, w10, w11⟩, rfl⟩

def shPart : Sh := .st [.int .i64, .int .i64, shInts]
def PartD.wf (x : PartD) : Prop := inI x.num ∧ inI x.size ∧ ((x.secs.length ≤ 2 ^ 47 ∧ x.secs.length * 8 ≤ 2 ^ 47) ∧ ∀ n ∈ x.secs, inI n)
theorem part_of {rs : List RV} (h : Shaped shPart rs) : ∃ x : PartD, x.wf ∧ rs = x.row := by
  have h0 := shaped_st h
  obtain ⟨a0, r0, g0, h1, rfl⟩ := shapedL_cons h0
  obtain ⟨a1, r1, g1, h2, rfl⟩ := shapedL_cons h1
  obtain ⟨a2, r2, g2, h3, rfl⟩ := shapedL_cons h2
  obtain rfl := shapedL_nil h3
  obtain ⟨x0, w0, rfl⟩ := int_of g0
  obtain ⟨x1, w1, rfl⟩ := int_of g1
  obtain ⟨x2, w2, rfl⟩ := ints_of g2
  exact ⟨⟨x0, x1, x2⟩, ⟨w0, w1, w2⟩, rfl⟩

def shRule : Sh := .st [.str, .int .i64, .int .i64]
def RuleD.row (x : RuleD) : List RV := [.v (.string x.pre)] ++ ([.v (.int .i64 x.frz)] ++ ([.v (.int .i64 x.drop)]))
def RuleD.wf (x : RuleD) : Prop := x.pre.size ≤ 2 ^ 47 ∧ inI x.frz ∧ inI x.drop
theorem rule_of {rs : List RV} (h : Shaped shRule rs) : ∃ x : RuleD, x.wf ∧ rs = x.row := by
  have h0 := shaped_st h
  obtain ⟨a0, r0, g0, h1, rfl⟩ := shapedL_cons h0
  obtain ⟨a1, r1, g1, h2, rfl⟩ := shapedL_cons h1
  obtain ⟨a2, r2, g2, h3, rfl⟩ := shapedL_cons h2
  obtain rfl := shapedL_nil h3
  obtain ⟨x0, w0, rfl⟩ := shaped_str g0
  obtain ⟨x1, w1, rfl⟩ := int_of g1
  obtain ⟨x2, w2, rfl⟩ := int_of g2
  exact ⟨⟨x0, x1, x2⟩, ⟨w0, w1, w2⟩, rfl⟩

def shRec : Sh := .st [.int .i64, .int .i64, .int .i64, .str, .str, shRule, shVer, shAsk, shPart, shInts, .int .i64, .int .i64]
def RecS.row (x : RecS) : List RV := [.v (.int .i64 x.kind)] ++ ([.v (.int .i64 x.id)] ++ ([.v (.int .i64 x.n)] ++ ([.v (.string x.name)] ++ ([.v (.string x.key)] ++ (x.rule.row ++ (x.ver.row ++ (x.ask.row ++ (x.part.row ++ ([ints x.secs] ++ ([.v (.int .i64 x.vol)] ++ ([.v (.int .i64 x.pos)])))))))))))
def RecS.wf (x : RecS) : Prop := inI x.kind ∧ inI x.id ∧ inI x.n ∧ x.name.size ≤ 2 ^ 47 ∧ x.key.size ≤ 2 ^ 47 ∧ x.rule.wf ∧ x.ver.wf ∧ x.ask.wf ∧ x.part.wf ∧ ((x.secs.length ≤ 2 ^ 47 ∧ x.secs.length * 8 ≤ 2 ^ 47) ∧ ∀ n ∈ x.secs, inI n) ∧ inI x.vol ∧ inI x.pos
theorem rec_of {rs : List RV} (h : Shaped shRec rs) : ∃ x : RecS, x.wf ∧ rs = x.row := by
  have h0 := shaped_st h
  obtain ⟨a0, r0, g0, h1, rfl⟩ := shapedL_cons h0
  obtain ⟨a1, r1, g1, h2, rfl⟩ := shapedL_cons h1
  obtain ⟨a2, r2, g2, h3, rfl⟩ := shapedL_cons h2
  obtain ⟨a3, r3, g3, h4, rfl⟩ := shapedL_cons h3
  obtain ⟨a4, r4, g4, h5, rfl⟩ := shapedL_cons h4
  obtain ⟨a5, r5, g5, h6, rfl⟩ := shapedL_cons h5
  obtain ⟨a6, r6, g6, h7, rfl⟩ := shapedL_cons h6
  obtain ⟨a7, r7, g7, h8, rfl⟩ := shapedL_cons h7
  obtain ⟨a8, r8, g8, h9, rfl⟩ := shapedL_cons h8
  obtain ⟨a9, r9, g9, h10, rfl⟩ := shapedL_cons h9
  obtain ⟨a10, r10, g10, h11, rfl⟩ := shapedL_cons h10
  obtain ⟨a11, r11, g11, h12, rfl⟩ := shapedL_cons h11
  obtain rfl := shapedL_nil h12
  obtain ⟨x0, w0, rfl⟩ := int_of g0
  obtain ⟨x1, w1, rfl⟩ := int_of g1
  obtain ⟨x2, w2, rfl⟩ := int_of g2
  obtain ⟨x3, w3, rfl⟩ := shaped_str g3
  obtain ⟨x4, w4, rfl⟩ := shaped_str g4
  obtain ⟨x5, w5, rfl⟩ := rule_of g5
  obtain ⟨x6, w6, rfl⟩ := ver_of g6
  obtain ⟨x7, w7, rfl⟩ := ask_of g7
  obtain ⟨x8, w8, rfl⟩ := part_of g8
  obtain ⟨x9, w9, rfl⟩ := ints_of g9
  obtain ⟨x10, w10, rfl⟩ := int_of g10
  obtain ⟨x11, w11, rfl⟩ := int_of g11
  exact ⟨⟨x0, x1, x2, x3, x4, x5, x6, x7, x8, x9, x10, x11⟩, ⟨w0, w1, w2, w3, w4, w5, w6, w7, w8, w9, w10, w11⟩, rfl⟩

def RecS.flat (x : RecS) : RecD := ⟨x.kind, x.id, x.n, x.name, x.key, x.rule.pre, x.rule.frz, x.rule.drop, x.ver, x.ask, x.part, x.secs, x.vol, x.pos⟩
theorem RecS.row_flat (x : RecS) : x.row = x.flat.row := rfl
theorem rec_flat {rs : List RV} (h : Shaped shRec rs) : ∃ x : RecD, x.wf ∧ rs = x.row := by
  obtain ⟨x, w, e⟩ := rec_of h
  refine ⟨x.flat, ?_, by rw [e, RecS.row_flat]⟩
  simp only [RecS.wf, RuleD.wf, inI] at w
  exact ⟨⟨by simp only [RecS.flat]; omega, by simp only [RecS.flat]; omega⟩, ⟨by simp only [RecS.flat]; omega, by simp only [RecS.flat]; omega⟩⟩
end Go.Proofs.YtckjgipcephmfaaDoor
