/- Data of the program: shapes, what is known of them, and how cells of such a shape are opened. Printed by genopen.py. -/
import Derived.Test.YtelciiooegiikaaShape
namespace Go.Proofs.Ytelciiooegiikaa
open Go.RowKit
set_option linter.unusedSimpArgs false
set_option linter.unusedVariables false

def shGeo : Sh := .st [.int .i64, .int .i64, .int .i64, .int .i64, .int .i64]
def GeoD.row (x : GeoD) : List RV := [.v (.int .i64 x.ring)] ++ ([.v (.int .i64 x.area)] ++ ([.v (.int .i64 x.hot)] ++ ([.v (.int .i64 x.volume)] ++ ([.v (.int .i64 x.volumes)]))))
def GeoD.wf (x : GeoD) : Prop := inI x.ring ∧ inI x.area ∧ inI x.hot ∧ inI x.volume ∧ inI x.volumes
theorem geo_of {rs : List RV} (h : Shaped shGeo rs) : ∃ x : GeoD, x.wf ∧ rs = x.row := by
  have h0 := shaped_st h
  obtain ⟨a0, r0, g0, h1, rfl⟩ := shapedL_cons h0
  obtain ⟨a1, r1, g1, h2, rfl⟩ := shapedL_cons h1
  obtain ⟨a2, r2, g2, h3, rfl⟩ := shapedL_cons h2
  obtain ⟨a3, r3, g3, h4, rfl⟩ := shapedL_cons h3
  obtain ⟨a4, r4, g4, h5, rfl⟩ := shapedL_cons h4
  obtain rfl := shapedL_nil h5
  obtain ⟨x0, w0, rfl⟩ := int_of g0
  obtain ⟨x1, w1, rfl⟩ := int_of g1
  obtain ⟨x2, w2, rfl⟩ := int_of g2
  obtain ⟨x3, w3, rfl⟩ := int_of g3
  obtain ⟨x4, w4, rfl⟩ := int_of g4
  exact ⟨⟨x0, x1, x2, x3, x4⟩, ⟨w0, w1, w2, w3, w4⟩, rfl⟩

def shWr : Sh := .st [.int .i64, shBytes]
def WrD.wf (x : WrD) : Prop := inI x.pos ∧ x.data.length ≤ 2 ^ 47
theorem wr_of {rs : List RV} (h : Shaped shWr rs) : ∃ x : WrD, x.wf ∧ rs = x.row := by
  have h0 := shaped_st h
  obtain ⟨a0, r0, g0, h1, rfl⟩ := shapedL_cons h0
  obtain ⟨a1, r1, g1, h2, rfl⟩ := shapedL_cons h1
  obtain rfl := shapedL_nil h2
  obtain ⟨x0, w0, rfl⟩ := int_of g0
  obtain ⟨x1, w1, rfl⟩ := bytes_of g1
  exact ⟨⟨x0, x1⟩, ⟨w0, w1⟩, rfl⟩

def shVol : Sh := .st [shBytes, .int .i64, .bool]
def VolD.wf (x : VolD) : Prop := x.data.length ≤ 2 ^ 47 ∧ inI x.synced
theorem vol_of {rs : List RV} (h : Shaped shVol rs) : ∃ x : VolD, x.wf ∧ rs = x.row := by
  have h0 := shaped_st h
  obtain ⟨a0, r0, g0, h1, rfl⟩ := shapedL_cons h0
  obtain ⟨a1, r1, g1, h2, rfl⟩ := shapedL_cons h1
  obtain ⟨a2, r2, g2, h3, rfl⟩ := shapedL_cons h2
  obtain rfl := shapedL_nil h3
  obtain ⟨x0, w0, rfl⟩ := bytes_of g0
  obtain ⟨x1, w1, rfl⟩ := int_of g1
  obtain ⟨x2, rfl⟩ := shaped_bool g2
  exact ⟨⟨x0, x1, x2⟩, ⟨w0, w1⟩, rfl⟩

def shDev : Sh := .st [.sl (.sl (.int .u8)), .sl shWr, .sl shVol, .int .i64]
def DevD.row (x : DevD) : List RV := [.ro (x.safe.map secRow)] ++ ([.ro (x.cache.map WrD.row)] ++ ([.ro (x.vols.map VolD.row)] ++ ([.v (.int .i64 x.fuel)])))
def DevD.wf (x : DevD) : Prop := ((x.safe.length ≤ 2 ^ 47 ∧ x.safe.length * 24 ≤ 2 ^ 47) ∧ ∀ s ∈ x.safe, s.length ≤ 2 ^ 47) ∧ ((x.cache.length ≤ 2 ^ 47 ∧ x.cache.length * shWr.by ≤ 2 ^ 47) ∧ ∀ y ∈ x.cache, y.wf) ∧ ((x.vols.length ≤ 2 ^ 47 ∧ x.vols.length * shVol.by ≤ 2 ^ 47) ∧ ∀ y ∈ x.vols, y.wf) ∧ inI x.fuel
theorem dev_of {rs : List RV} (h : Shaped shDev rs) : ∃ x : DevD, x.wf ∧ rs = x.row := by
  have h0 := shaped_st h
  obtain ⟨a0, r0, g0, h1, rfl⟩ := shapedL_cons h0
  obtain ⟨a1, r1, g1, h2, rfl⟩ := shapedL_cons h1
  obtain ⟨a2, r2, g2, h3, rfl⟩ := shapedL_cons h2
  obtain ⟨a3, r3, g3, h4, rfl⟩ := shapedL_cons h3
  obtain rfl := shapedL_nil h4
  obtain ⟨x0, w0, rfl⟩ := secs_of g0
  obtain ⟨x1, w1, rfl⟩ := sl_of (fun r h => wr_of h) g1
  obtain ⟨x2, w2, rfl⟩ := sl_of (fun r h => vol_of h) g2
  obtain ⟨x3, w3, rfl⟩ := int_of g3
  exact ⟨⟨x0, x1, x2, x3⟩, ⟨w0, w1, w2, w3⟩, rfl⟩

def JrnD.row (x : JrnD) : List RV := [.v (.int .i64 x.gen)] ++ ([.v (.int .i64 x.epoch)] ++ ([.v (.int .i64 x.area)] ++ ([.v (.int .i64 x.length)] ++ ([.v (.int .i64 x.start)] ++ ([.v (.int .i64 x.first)] ++ ([.v (.int .i64 x.place)] ++ ([.v (.int .i64 x.next)] ++ ([.v (.int .i64 x.used)]))))))))
def JrnD.wf (x : JrnD) : Prop := inI x.gen ∧ inI x.epoch ∧ inI x.area ∧ inI x.length ∧ inI x.start ∧ inI x.first ∧ inI x.place ∧ inI x.next ∧ inI x.used
def PieceD.row (x : PieceD) : List RV := [.v (.int .i64 x.id)] ++ ([.v (.int .i64 x.pos)] ++ ([.v (.int .i64 x.size)]))
def PieceD.wf (x : PieceD) : Prop := inI x.id ∧ inI x.pos ∧ inI x.size
end Go.Proofs.Ytelciiooegiikaa
