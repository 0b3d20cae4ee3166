/-
  Written by program (mkvt.py): of each type, its number of cells, and its zero value.
-/
import Derived.Test.YtkolfgmpmnelmabGreatDoorProg
import Derived.KernelRfl
namespace Go.Proofs.YtkolfgmpmnelmabGreatDoor
open Go Go.Proofs
theorem mixed : Tryz.prog.follows .mixedOrders = true := by kernel_rfl
theorem sz0 : (Tryz.prog.info? 0).map (·.size) = some 1 := by kernel_rfl
theorem by0 : (Tryz.prog.info? 0).map (·.bytes) = some 0 := by kernel_rfl
theorem zr0 : (Tryz.prog.info? 0).bind (·.zero) = some (.tuple ⟨[]⟩) := by kernel_rfl
theorem sz1 : (Tryz.prog.info? 1).map (·.size) = some 1 := by kernel_rfl
theorem by1 : (Tryz.prog.info? 1).map (·.bytes) = some 8 := by kernel_rfl
theorem zr1 : (Tryz.prog.info? 1).bind (·.zero) = some (.nilFunc) := by kernel_rfl
theorem sz2 : (Tryz.prog.info? 2).map (·.size) = some 1 := by kernel_rfl
theorem by2 : (Tryz.prog.info? 2).map (·.bytes) = some 8 := by kernel_rfl
theorem zr2 : (Tryz.prog.info? 2).bind (·.zero) = some (.int .i64 0) := by kernel_rfl
theorem sz3 : (Tryz.prog.info? 3).map (·.size) = some 1 := by kernel_rfl
theorem by3 : (Tryz.prog.info? 3).map (·.bytes) = some 8 := by kernel_rfl
theorem zr3 : (Tryz.prog.info? 3).bind (·.zero) = some (.int .i64 0) := by kernel_rfl
theorem sz4 : (Tryz.prog.info? 4).map (·.size) = some 1 := by kernel_rfl
theorem by4 : (Tryz.prog.info? 4).map (·.bytes) = some 1 := by kernel_rfl
theorem zr4 : (Tryz.prog.info? 4).bind (·.zero) = some (.bool false) := by kernel_rfl
theorem sz5 : (Tryz.prog.info? 5).map (·.size) = some 1 := by kernel_rfl
theorem by5 : (Tryz.prog.info? 5).map (·.bytes) = some 1 := by kernel_rfl
theorem zr5 : (Tryz.prog.info? 5).bind (·.zero) = some (.int .u8 0) := by kernel_rfl
theorem sz6 : (Tryz.prog.info? 6).map (·.size) = some 1 := by kernel_rfl
theorem by6 : (Tryz.prog.info? 6).map (·.bytes) = some 1 := by kernel_rfl
theorem zr6 : (Tryz.prog.info? 6).bind (·.zero) = some (.int .u8 0) := by kernel_rfl
theorem sz7 : (Tryz.prog.info? 7).map (·.size) = some 4 := by kernel_rfl
theorem by7 : (Tryz.prog.info? 7).map (·.bytes) = some 24 := by kernel_rfl
theorem zr7 : (Tryz.prog.info? 7).bind (·.zero) = some (.agg ⟨[.int .i64 0, .int .i64 0, .bool false, .int .u8 0]⟩) := by kernel_rfl
theorem sz8 : (Tryz.prog.info? 8).map (·.size) = some 4 := by kernel_rfl
theorem by8 : (Tryz.prog.info? 8).map (·.bytes) = some 24 := by kernel_rfl
theorem zr8 : (Tryz.prog.info? 8).bind (·.zero) = some (.agg ⟨[.int .i64 0, .int .i64 0, .bool false, .int .u8 0]⟩) := by kernel_rfl
theorem sz9 : (Tryz.prog.info? 9).map (·.size) = some 1 := by kernel_rfl
theorem by9 : (Tryz.prog.info? 9).map (·.bytes) = some 16 := by kernel_rfl
theorem zr9 : (Tryz.prog.info? 9).bind (·.zero) = some (.string ⟨⟨[]⟩⟩) := by kernel_rfl
theorem sz10 : (Tryz.prog.info? 10).map (·.size) = some 1 := by kernel_rfl
theorem by10 : (Tryz.prog.info? 10).map (·.bytes) = some 16 := by kernel_rfl
theorem zr10 : (Tryz.prog.info? 10).bind (·.zero) = some (.string ⟨⟨[]⟩⟩) := by kernel_rfl
theorem sz11 : (Tryz.prog.info? 11).map (·.size) = some 1 := by kernel_rfl
theorem by11 : (Tryz.prog.info? 11).map (·.bytes) = some 16 := by kernel_rfl
theorem zr11 : (Tryz.prog.info? 11).bind (·.zero) = some (.string ⟨⟨[]⟩⟩) := by kernel_rfl
theorem sz12 : (Tryz.prog.info? 12).map (·.size) = some 1 := by kernel_rfl
theorem by12 : (Tryz.prog.info? 12).map (·.bytes) = some 8 := by kernel_rfl
theorem zr12 : (Tryz.prog.info? 12).bind (·.zero) = some (.int .u64 0) := by kernel_rfl
theorem sz13 : (Tryz.prog.info? 13).map (·.size) = some 2 := by kernel_rfl
theorem by13 : (Tryz.prog.info? 13).map (·.bytes) = some 24 := by kernel_rfl
theorem zr13 : (Tryz.prog.info? 13).bind (·.zero) = some (.agg ⟨[.string ⟨⟨[]⟩⟩, .int .u64 0]⟩) := by kernel_rfl
theorem sz14 : (Tryz.prog.info? 14).map (·.size) = some 2 := by kernel_rfl
theorem by14 : (Tryz.prog.info? 14).map (·.bytes) = some 24 := by kernel_rfl
theorem zr14 : (Tryz.prog.info? 14).bind (·.zero) = some (.agg ⟨[.string ⟨⟨[]⟩⟩, .int .u64 0]⟩) := by kernel_rfl
theorem sz15 : (Tryz.prog.info? 15).map (·.size) = some 1 := by kernel_rfl
theorem by15 : (Tryz.prog.info? 15).map (·.bytes) = some 8 := by kernel_rfl
theorem zr15 : (Tryz.prog.info? 15).bind (·.zero) = some (.pointer none) := by kernel_rfl
theorem sz16 : (Tryz.prog.info? 16).map (·.size) = some 1 := by kernel_rfl
theorem by16 : (Tryz.prog.info? 16).map (·.bytes) = some 8 := by kernel_rfl
theorem zr16 : (Tryz.prog.info? 16).bind (·.zero) = some (.pointer none) := by kernel_rfl
theorem sz17 : (Tryz.prog.info? 17).map (·.size) = some 1 := by kernel_rfl
theorem by17 : (Tryz.prog.info? 17).map (·.bytes) = some 8 := by kernel_rfl
theorem zr17 : (Tryz.prog.info? 17).bind (·.zero) = some (.pointer none) := by kernel_rfl
theorem sz18 : (Tryz.prog.info? 18).map (·.size) = some 1 := by kernel_rfl
theorem by18 : (Tryz.prog.info? 18).map (·.bytes) = some 8 := by kernel_rfl
theorem zr18 : (Tryz.prog.info? 18).bind (·.zero) = some (.agg ⟨[.pointer none]⟩) := by kernel_rfl
theorem sz19 : (Tryz.prog.info? 19).map (·.size) = some 1 := by kernel_rfl
theorem by19 : (Tryz.prog.info? 19).map (·.bytes) = some 8 := by kernel_rfl
theorem zr19 : (Tryz.prog.info? 19).bind (·.zero) = some (.agg ⟨[.pointer none]⟩) := by kernel_rfl
theorem sz20 : (Tryz.prog.info? 20).map (·.size) = some 1 := by kernel_rfl
theorem by20 : (Tryz.prog.info? 20).map (·.bytes) = some 16 := by kernel_rfl
theorem zr20 : (Tryz.prog.info? 20).bind (·.zero) = some (.nilIface) := by kernel_rfl
theorem sz21 : (Tryz.prog.info? 21).map (·.size) = some 1 := by kernel_rfl
theorem by21 : (Tryz.prog.info? 21).map (·.bytes) = some 4 := by kernel_rfl
theorem zr21 : (Tryz.prog.info? 21).bind (·.zero) = some (.int .i32 0) := by kernel_rfl
theorem sz22 : (Tryz.prog.info? 22).map (·.size) = some 1 := by kernel_rfl
theorem by22 : (Tryz.prog.info? 22).map (·.bytes) = some 24 := by kernel_rfl
theorem zr22 : (Tryz.prog.info? 22).bind (·.zero) = some (.slice none 0 0) := by kernel_rfl
theorem sz23 : (Tryz.prog.info? 23).map (·.size) = some 1 := by kernel_rfl
theorem by23 : (Tryz.prog.info? 23).map (·.bytes) = some 8 := by kernel_rfl
theorem zr23 : (Tryz.prog.info? 23).bind (·.zero) = some (.nilFunc) := by kernel_rfl
theorem sz24 : (Tryz.prog.info? 24).map (·.size) = some 1 := by kernel_rfl
theorem by24 : (Tryz.prog.info? 24).map (·.bytes) = some 8 := by kernel_rfl
theorem zr24 : (Tryz.prog.info? 24).bind (·.zero) = some (.int .i64 0) := by kernel_rfl
theorem sz25 : (Tryz.prog.info? 25).map (·.size) = some 1 := by kernel_rfl
theorem by25 : (Tryz.prog.info? 25).map (·.bytes) = some 0 := by kernel_rfl
theorem zr25 : (Tryz.prog.info? 25).bind (·.zero) = some (.tuple ⟨[.string ⟨⟨[]⟩⟩, .int .i64 0]⟩) := by kernel_rfl
theorem sz26 : (Tryz.prog.info? 26).map (·.size) = some 1 := by kernel_rfl
theorem by26 : (Tryz.prog.info? 26).map (·.bytes) = some 8 := by kernel_rfl
theorem zr26 : (Tryz.prog.info? 26).bind (·.zero) = some (.nilFunc) := by kernel_rfl
theorem sz27 : (Tryz.prog.info? 27).map (·.size) = some 1 := by kernel_rfl
theorem by27 : (Tryz.prog.info? 27).map (·.bytes) = some 16 := by kernel_rfl
theorem zr27 : (Tryz.prog.info? 27).bind (·.zero) = some (.nilIface) := by kernel_rfl
theorem sz28 : (Tryz.prog.info? 28).map (·.size) = some 1 := by kernel_rfl
theorem by28 : (Tryz.prog.info? 28).map (·.bytes) = some 16 := by kernel_rfl
theorem zr28 : (Tryz.prog.info? 28).bind (·.zero) = some (.nilIface) := by kernel_rfl
theorem sz29 : (Tryz.prog.info? 29).map (·.size) = some 1 := by kernel_rfl
theorem by29 : (Tryz.prog.info? 29).map (·.bytes) = some 0 := by kernel_rfl
theorem zr29 : (Tryz.prog.info? 29).bind (·.zero) = some (.tuple ⟨[.string ⟨⟨[]⟩⟩, .nilIface]⟩) := by kernel_rfl
theorem sz30 : (Tryz.prog.info? 30).map (·.size) = some 1 := by kernel_rfl
theorem by30 : (Tryz.prog.info? 30).map (·.bytes) = some 8 := by kernel_rfl
theorem zr30 : (Tryz.prog.info? 30).bind (·.zero) = some (.nilFunc) := by kernel_rfl
theorem sz31 : (Tryz.prog.info? 31).map (·.size) = some 1 := by kernel_rfl
theorem by31 : (Tryz.prog.info? 31).map (·.bytes) = some 8 := by kernel_rfl
theorem zr31 : (Tryz.prog.info? 31).bind (·.zero) = some (.nilFunc) := by kernel_rfl
theorem sz32 : (Tryz.prog.info? 32).map (·.size) = some 1 := by kernel_rfl
theorem by32 : (Tryz.prog.info? 32).map (·.bytes) = some 8 := by kernel_rfl
theorem zr32 : (Tryz.prog.info? 32).bind (·.zero) = some (.nilFunc) := by kernel_rfl
theorem sz33 : (Tryz.prog.info? 33).map (·.size) = some 1 := by kernel_rfl
theorem by33 : (Tryz.prog.info? 33).map (·.bytes) = some 8 := by kernel_rfl
theorem zr33 : (Tryz.prog.info? 33).bind (·.zero) = some (.nilFunc) := by kernel_rfl
theorem sz34 : (Tryz.prog.info? 34).map (·.size) = some 1 := by kernel_rfl
theorem by34 : (Tryz.prog.info? 34).map (·.bytes) = some 8 := by kernel_rfl
theorem zr34 : (Tryz.prog.info? 34).bind (·.zero) = some (.nilFunc) := by kernel_rfl
theorem sz35 : (Tryz.prog.info? 35).map (·.size) = some 1 := by kernel_rfl
theorem by35 : (Tryz.prog.info? 35).map (·.bytes) = some 24 := by kernel_rfl
theorem zr35 : (Tryz.prog.info? 35).bind (·.zero) = some (.slice none 0 0) := by kernel_rfl
theorem sz36 : (Tryz.prog.info? 36).map (·.size) = some 1 := by kernel_rfl
theorem by36 : (Tryz.prog.info? 36).map (·.bytes) = some 8 := by kernel_rfl
theorem zr36 : (Tryz.prog.info? 36).bind (·.zero) = some (.nilFunc) := by kernel_rfl
theorem sz37 : (Tryz.prog.info? 37).map (·.size) = some 1 := by kernel_rfl
theorem by37 : (Tryz.prog.info? 37).map (·.bytes) = some 0 := by kernel_rfl
theorem zr37 : (Tryz.prog.info? 37).bind (·.zero) = some (.tuple ⟨[.slice none 0 0, .int .i64 0]⟩) := by kernel_rfl
theorem sz38 : (Tryz.prog.info? 38).map (·.size) = some 1 := by kernel_rfl
theorem by38 : (Tryz.prog.info? 38).map (·.bytes) = some 8 := by kernel_rfl
theorem zr38 : (Tryz.prog.info? 38).bind (·.zero) = some (.nilFunc) := by kernel_rfl
theorem sz39 : (Tryz.prog.info? 39).map (·.size) = some 1 := by kernel_rfl
theorem by39 : (Tryz.prog.info? 39).map (·.bytes) = some 0 := by kernel_rfl
theorem zr39 : (Tryz.prog.info? 39).bind (·.zero) = some (.tuple ⟨[.slice none 0 0, .nilIface]⟩) := by kernel_rfl
theorem sz40 : (Tryz.prog.info? 40).map (·.size) = some 1 := by kernel_rfl
theorem by40 : (Tryz.prog.info? 40).map (·.bytes) = some 8 := by kernel_rfl
theorem zr40 : (Tryz.prog.info? 40).bind (·.zero) = some (.nilFunc) := by kernel_rfl
theorem sz41 : (Tryz.prog.info? 41).map (·.size) = some 1 := by kernel_rfl
theorem by41 : (Tryz.prog.info? 41).map (·.bytes) = some 8 := by kernel_rfl
theorem zr41 : (Tryz.prog.info? 41).bind (·.zero) = some (.nilFunc) := by kernel_rfl
theorem sz42 : (Tryz.prog.info? 42).map (·.size) = some 1 := by kernel_rfl
theorem by42 : (Tryz.prog.info? 42).map (·.bytes) = some 8 := by kernel_rfl
theorem zr42 : (Tryz.prog.info? 42).bind (·.zero) = some (.nilFunc) := by kernel_rfl
theorem sz43 : (Tryz.prog.info? 43).map (·.size) = some 3 := by kernel_rfl
theorem by43 : (Tryz.prog.info? 43).map (·.bytes) = some 48 := by kernel_rfl
theorem zr43 : (Tryz.prog.info? 43).bind (·.zero) = some (.agg ⟨[.string ⟨⟨[]⟩⟩, .int .i64 0, .slice none 0 0]⟩) := by kernel_rfl
theorem sz44 : (Tryz.prog.info? 44).map (·.size) = some 3 := by kernel_rfl
theorem by44 : (Tryz.prog.info? 44).map (·.bytes) = some 48 := by kernel_rfl
theorem zr44 : (Tryz.prog.info? 44).bind (·.zero) = some (.agg ⟨[.string ⟨⟨[]⟩⟩, .int .i64 0, .slice none 0 0]⟩) := by kernel_rfl
theorem sz45 : (Tryz.prog.info? 45).map (·.size) = some 1 := by kernel_rfl
theorem by45 : (Tryz.prog.info? 45).map (·.bytes) = some 8 := by kernel_rfl
theorem zr45 : (Tryz.prog.info? 45).bind (·.zero) = some (.nilFunc) := by kernel_rfl
theorem sz46 : (Tryz.prog.info? 46).map (·.size) = some 1 := by kernel_rfl
theorem by46 : (Tryz.prog.info? 46).map (·.bytes) = some 24 := by kernel_rfl
theorem zr46 : (Tryz.prog.info? 46).bind (·.zero) = some (.slice none 0 0) := by kernel_rfl
theorem sz47 : (Tryz.prog.info? 47).map (·.size) = some 1 := by kernel_rfl
theorem by47 : (Tryz.prog.info? 47).map (·.bytes) = some 8 := by kernel_rfl
theorem zr47 : (Tryz.prog.info? 47).bind (·.zero) = some (.nilFunc) := by kernel_rfl
theorem sz48 : (Tryz.prog.info? 48).map (·.size) = some 1 := by kernel_rfl
theorem by48 : (Tryz.prog.info? 48).map (·.bytes) = some 0 := by kernel_rfl
theorem zr48 : (Tryz.prog.info? 48).bind (·.zero) = some (.tuple ⟨[.int .i64 0, .int .i64 0]⟩) := by kernel_rfl
theorem sz49 : (Tryz.prog.info? 49).map (·.size) = some 1 := by kernel_rfl
theorem by49 : (Tryz.prog.info? 49).map (·.bytes) = some 8 := by kernel_rfl
theorem zr49 : (Tryz.prog.info? 49).bind (·.zero) = some (.nilFunc) := by kernel_rfl
theorem sz50 : (Tryz.prog.info? 50).map (·.size) = some 1 := by kernel_rfl
theorem by50 : (Tryz.prog.info? 50).map (·.bytes) = some 8 := by kernel_rfl
theorem zr50 : (Tryz.prog.info? 50).bind (·.zero) = some (.map none) := by kernel_rfl
theorem sz51 : (Tryz.prog.info? 51).map (·.size) = some 1 := by kernel_rfl
theorem by51 : (Tryz.prog.info? 51).map (·.bytes) = some 8 := by kernel_rfl
theorem zr51 : (Tryz.prog.info? 51).bind (·.zero) = some (.nilFunc) := by kernel_rfl
theorem sz52 : (Tryz.prog.info? 52).map (·.size) = some 1 := by kernel_rfl
theorem by52 : (Tryz.prog.info? 52).map (·.bytes) = some 8 := by kernel_rfl
theorem zr52 : (Tryz.prog.info? 52).bind (·.zero) = some (.nilFunc) := by kernel_rfl
theorem sz53 : (Tryz.prog.info? 53).map (·.size) = some 1 := by kernel_rfl
theorem by53 : (Tryz.prog.info? 53).map (·.bytes) = some 8 := by kernel_rfl
theorem zr53 : (Tryz.prog.info? 53).bind (·.zero) = some (.nilFunc) := by kernel_rfl
theorem sz54 : (Tryz.prog.info? 54).map (·.size) = some 1 := by kernel_rfl
theorem by54 : (Tryz.prog.info? 54).map (·.bytes) = some 8 := by kernel_rfl
theorem zr54 : (Tryz.prog.info? 54).bind (·.zero) = some (.nilFunc) := by kernel_rfl
theorem sz55 : (Tryz.prog.info? 55).map (·.size) = some 1 := by kernel_rfl
theorem by55 : (Tryz.prog.info? 55).map (·.bytes) = some 8 := by kernel_rfl
theorem zr55 : (Tryz.prog.info? 55).bind (·.zero) = some (.nilFunc) := by kernel_rfl
theorem sz56 : (Tryz.prog.info? 56).map (·.size) = some 1 := by kernel_rfl
theorem by56 : (Tryz.prog.info? 56).map (·.bytes) = some 8 := by kernel_rfl
theorem zr56 : (Tryz.prog.info? 56).bind (·.zero) = some (.nilFunc) := by kernel_rfl
theorem sz57 : (Tryz.prog.info? 57).map (·.size) = some 1 := by kernel_rfl
theorem by57 : (Tryz.prog.info? 57).map (·.bytes) = some 8 := by kernel_rfl
theorem zr57 : (Tryz.prog.info? 57).bind (·.zero) = some (.nilFunc) := by kernel_rfl
theorem sz58 : (Tryz.prog.info? 58).map (·.size) = some 1 := by kernel_rfl
theorem by58 : (Tryz.prog.info? 58).map (·.bytes) = some 0 := by kernel_rfl
theorem zr58 : (Tryz.prog.info? 58).bind (·.zero) = some (.tuple ⟨[.int .i64 0, .nilIface]⟩) := by kernel_rfl
theorem sz59 : (Tryz.prog.info? 59).map (·.size) = some 1 := by kernel_rfl
theorem by59 : (Tryz.prog.info? 59).map (·.bytes) = some 8 := by kernel_rfl
theorem zr59 : (Tryz.prog.info? 59).bind (·.zero) = some (.nilFunc) := by kernel_rfl
theorem sz60 : (Tryz.prog.info? 60).map (·.size) = some 1 := by kernel_rfl
theorem by60 : (Tryz.prog.info? 60).map (·.bytes) = some 8 := by kernel_rfl
theorem zr60 : (Tryz.prog.info? 60).bind (·.zero) = some (.nilFunc) := by kernel_rfl
theorem sz61 : (Tryz.prog.info? 61).map (·.size) = some 1 := by kernel_rfl
theorem by61 : (Tryz.prog.info? 61).map (·.bytes) = some 8 := by kernel_rfl
theorem zr61 : (Tryz.prog.info? 61).bind (·.zero) = some (.nilFunc) := by kernel_rfl
theorem sz62 : (Tryz.prog.info? 62).map (·.size) = some 1 := by kernel_rfl
theorem by62 : (Tryz.prog.info? 62).map (·.bytes) = some 8 := by kernel_rfl
theorem zr62 : (Tryz.prog.info? 62).bind (·.zero) = some (.nilFunc) := by kernel_rfl
theorem sz63 : (Tryz.prog.info? 63).map (·.size) = some 1 := by kernel_rfl
theorem by63 : (Tryz.prog.info? 63).map (·.bytes) = some 8 := by kernel_rfl
theorem zr63 : (Tryz.prog.info? 63).bind (·.zero) = some (.pointer none) := by kernel_rfl
theorem sz64 : (Tryz.prog.info? 64).map (·.size) = some 1 := by kernel_rfl
theorem by64 : (Tryz.prog.info? 64).map (·.bytes) = some 24 := by kernel_rfl
theorem zr64 : (Tryz.prog.info? 64).bind (·.zero) = some (.slice none 0 0) := by kernel_rfl
theorem sz65 : (Tryz.prog.info? 65).map (·.size) = some 2 := by kernel_rfl
theorem by65 : (Tryz.prog.info? 65).map (·.bytes) = some 32 := by kernel_rfl
theorem zr65 : (Tryz.prog.info? 65).bind (·.zero) = some (.agg ⟨[.pointer none, .slice none 0 0]⟩) := by kernel_rfl
theorem sz66 : (Tryz.prog.info? 66).map (·.size) = some 2 := by kernel_rfl
theorem by66 : (Tryz.prog.info? 66).map (·.bytes) = some 32 := by kernel_rfl
theorem zr66 : (Tryz.prog.info? 66).bind (·.zero) = some (.agg ⟨[.pointer none, .slice none 0 0]⟩) := by kernel_rfl
theorem sz67 : (Tryz.prog.info? 67).map (·.size) = some 1 := by kernel_rfl
theorem by67 : (Tryz.prog.info? 67).map (·.bytes) = some 8 := by kernel_rfl
theorem zr67 : (Tryz.prog.info? 67).bind (·.zero) = some (.nilFunc) := by kernel_rfl
theorem sz68 : (Tryz.prog.info? 68).map (·.size) = some 1 := by kernel_rfl
theorem by68 : (Tryz.prog.info? 68).map (·.bytes) = some 8 := by kernel_rfl
theorem zr68 : (Tryz.prog.info? 68).bind (·.zero) = some (.nilFunc) := by kernel_rfl
theorem sz69 : (Tryz.prog.info? 69).map (·.size) = some 1 := by kernel_rfl
theorem by69 : (Tryz.prog.info? 69).map (·.bytes) = some 8 := by kernel_rfl
theorem zr69 : (Tryz.prog.info? 69).bind (·.zero) = some (.nilFunc) := by kernel_rfl
theorem sz70 : (Tryz.prog.info? 70).map (·.size) = some 1 := by kernel_rfl
theorem by70 : (Tryz.prog.info? 70).map (·.bytes) = some 8 := by kernel_rfl
theorem zr70 : (Tryz.prog.info? 70).bind (·.zero) = some (.pointer none) := by kernel_rfl
theorem sz71 : (Tryz.prog.info? 71).map (·.size) = some 1 := by kernel_rfl
theorem by71 : (Tryz.prog.info? 71).map (·.bytes) = some 0 := by kernel_rfl
theorem zr71 : (Tryz.prog.info? 71).bind (·.zero) = some (.tuple ⟨[.pointer none, .bool false]⟩) := by kernel_rfl
theorem sz72 : (Tryz.prog.info? 72).map (·.size) = some 2 := by kernel_rfl
theorem by72 : (Tryz.prog.info? 72).map (·.bytes) = some 16 := by kernel_rfl
theorem zr72 : (Tryz.prog.info? 72).bind (·.zero) = some (.agg ⟨[.int .i64 0, .int .i64 0]⟩) := by kernel_rfl
theorem sz73 : (Tryz.prog.info? 73).map (·.size) = some 2 := by kernel_rfl
theorem by73 : (Tryz.prog.info? 73).map (·.bytes) = some 16 := by kernel_rfl
theorem zr73 : (Tryz.prog.info? 73).bind (·.zero) = some (.agg ⟨[.int .i64 0, .int .i64 0]⟩) := by kernel_rfl
theorem sz74 : (Tryz.prog.info? 74).map (·.size) = some 1 := by kernel_rfl
theorem by74 : (Tryz.prog.info? 74).map (·.bytes) = some 16 := by kernel_rfl
theorem zr74 : (Tryz.prog.info? 74).bind (·.zero) = some (.nilIface) := by kernel_rfl
theorem sz75 : (Tryz.prog.info? 75).map (·.size) = some 1 := by kernel_rfl
theorem by75 : (Tryz.prog.info? 75).map (·.bytes) = some 0 := by kernel_rfl
theorem zr75 : (Tryz.prog.info? 75).bind (·.zero) = some (.tuple ⟨[.nilIface, .bool false]⟩) := by kernel_rfl
theorem sz76 : (Tryz.prog.info? 76).map (·.size) = some 1 := by kernel_rfl
theorem by76 : (Tryz.prog.info? 76).map (·.bytes) = some 8 := by kernel_rfl
theorem zr76 : (Tryz.prog.info? 76).bind (·.zero) = some (.nilFunc) := by kernel_rfl
theorem sz77 : (Tryz.prog.info? 77).map (·.size) = some 1 := by kernel_rfl
theorem by77 : (Tryz.prog.info? 77).map (·.bytes) = some 8 := by kernel_rfl
theorem zr77 : (Tryz.prog.info? 77).bind (·.zero) = some (.nilFunc) := by kernel_rfl
theorem sz78 : (Tryz.prog.info? 78).map (·.size) = some 256 := by kernel_rfl
theorem by78 : (Tryz.prog.info? 78).map (·.bytes) = some 256 := by kernel_rfl
theorem zr78 : (Tryz.prog.info? 78).bind (·.zero) = some (.agg ⟨[.bool false, .bool false, .bool false, .bool false, .bool false, .bool false, .bool false, .bool false, .bool false, .bool false, .bool false, .bool false, .bool false, .bool false, .bool false, .bool false, .bool false, .bool false, .bool false, .bool false, .bool false, .bool false, .bool false, .bool false, .bool false, .bool false, .bool false, .bool false, .bool false, .bool false, .bool false, .bool false, .bool false, .bool false, .bool false, .bool false, .bool false, .bool false, .bool false, .bool false, .bool false, .bool false, .bool false, .bool false, .bool false, .bool false, .bool false, .bool false, .bool false, .bool false, .bool false, .bool false, .bool false, .bool false, .bool false, .bool false, .bool false, .bool false, .bool false, .bool false, .bool false, .bool false, .bool false, .bool false, .bool false, .bool false, .bool false, .bool false, .bool false, .bool false, .bool false, .bool false, .bool false, .bool false, .bool false, .bool false, .bool false, .bool false, .bool false, .bool false, .bool false, .bool false, .bool false, .bool false, .bool false, .bool false, .bool false, .bool false, .bool false, .bool false, .bool false, .bool false, .bool false, .bool false, .bool false, .bool false, .bool false, .bool false, .bool false, .bool false, .bool false, .bool false, .bool false, .bool false, .bool false, .bool false, .bool false, .bool false, .bool false, .bool false, .bool false, .bool false, .bool false, .bool false, .bool false, .bool false, .bool false, .bool false, .bool false, .bool false, .bool false, .bool false, .bool false, .bool false, .bool false, .bool false, .bool false, .bool false, .bool false, .bool false, .bool false, .bool false, .bool false, .bool false, .bool false, .bool false, .bool false, .bool false, .bool false, .bool false, .bool false, .bool false, .bool false, .bool false, .bool false, .bool false, .bool false, .bool false, .bool false, .bool false, .bool false, .bool false, .bool false, .bool false, .bool false, .bool false, .bool false, .bool false, .bool false, .bool false, .bool false, .bool false, .bool false, .bool false, .bool false, .bool false, .bool false, .bool false, .bool false, .bool false, .bool false, .bool false, .bool false, .bool false, .bool false, .bool false, .bool false, .bool false, .bool false, .bool false, .bool false, .bool false, .bool false, .bool false, .bool false, .bool false, .bool false, .bool false, .bool false, .bool false, .bool false, .bool false, .bool false, .bool false, .bool false, .bool false, .bool false, .bool false, .bool false, .bool false, .bool false, .bool false, .bool false, .bool false, .bool false, .bool false, .bool false, .bool false, .bool false, .bool false, .bool false, .bool false, .bool false, .bool false, .bool false, .bool false, .bool false, .bool false, .bool false, .bool false, .bool false, .bool false, .bool false, .bool false, .bool false, .bool false, .bool false, .bool false, .bool false, .bool false, .bool false, .bool false, .bool false, .bool false, .bool false, .bool false, .bool false, .bool false, .bool false, .bool false, .bool false, .bool false, .bool false, .bool false, .bool false, .bool false, .bool false, .bool false, .bool false, .bool false, .bool false, .bool false, .bool false, .bool false, .bool false, .bool false]⟩) := by kernel_rfl
theorem sz79 : (Tryz.prog.info? 79).map (·.size) = some 256 := by kernel_rfl
theorem by79 : (Tryz.prog.info? 79).map (·.bytes) = some 256 := by kernel_rfl
theorem zr79 : (Tryz.prog.info? 79).bind (·.zero) = some (.agg ⟨[.bool false, .bool false, .bool false, .bool false, .bool false, .bool false, .bool false, .bool false, .bool false, .bool false, .bool false, .bool false, .bool false, .bool false, .bool false, .bool false, .bool false, .bool false, .bool false, .bool false, .bool false, .bool false, .bool false, .bool false, .bool false, .bool false, .bool false, .bool false, .bool false, .bool false, .bool false, .bool false, .bool false, .bool false, .bool false, .bool false, .bool false, .bool false, .bool false, .bool false, .bool false, .bool false, .bool false, .bool false, .bool false, .bool false, .bool false, .bool false, .bool false, .bool false, .bool false, .bool false, .bool false, .bool false, .bool false, .bool false, .bool false, .bool false, .bool false, .bool false, .bool false, .bool false, .bool false, .bool false, .bool false, .bool false, .bool false, .bool false, .bool false, .bool false, .bool false, .bool false, .bool false, .bool false, .bool false, .bool false, .bool false, .bool false, .bool false, .bool false, .bool false, .bool false, .bool false, .bool false, .bool false, .bool false, .bool false, .bool false, .bool false, .bool false, .bool false, .bool false, .bool false, .bool false, .bool false, .bool false, .bool false, .bool false, .bool false, .bool false, .bool false, .bool false, .bool false, .bool false, .bool false, .bool false, .bool false, .bool false, .bool false, .bool false, .bool false, .bool false, .bool false, .bool false, .bool false, .bool false, .bool false, .bool false, .bool false, .bool false, .bool false, .bool false, .bool false, .bool false, .bool false, .bool false, .bool false, .bool false, .bool false, .bool false, .bool false, .bool false, .bool false, .bool false, .bool false, .bool false, .bool false, .bool false, .bool false, .bool false, .bool false, .bool false, .bool false, .bool false, .bool false, .bool false, .bool false, .bool false, .bool false, .bool false, .bool false, .bool false, .bool false, .bool false, .bool false, .bool false, .bool false, .bool false, .bool false, .bool false, .bool false, .bool false, .bool false, .bool false, .bool false, .bool false, .bool false, .bool false, .bool false, .bool false, .bool false, .bool false, .bool false, .bool false, .bool false, .bool false, .bool false, .bool false, .bool false, .bool false, .bool false, .bool false, .bool false, .bool false, .bool false, .bool false, .bool false, .bool false, .bool false, .bool false, .bool false, .bool false, .bool false, .bool false, .bool false, .bool false, .bool false, .bool false, .bool false, .bool false, .bool false, .bool false, .bool false, .bool false, .bool false, .bool false, .bool false, .bool false, .bool false, .bool false, .bool false, .bool false, .bool false, .bool false, .bool false, .bool false, .bool false, .bool false, .bool false, .bool false, .bool false, .bool false, .bool false, .bool false, .bool false, .bool false, .bool false, .bool false, .bool false, .bool false, .bool false, .bool false, .bool false, .bool false, .bool false, .bool false, .bool false, .bool false, .bool false, .bool false, .bool false, .bool false, .bool false, .bool false, .bool false, .bool false, .bool false, .bool false, .bool false, .bool false, .bool false, .bool false, .bool false, .bool false, .bool false, .bool false]⟩) := by kernel_rfl
theorem sz80 : (Tryz.prog.info? 80).map (·.size) = some 1 := by kernel_rfl
theorem by80 : (Tryz.prog.info? 80).map (·.bytes) = some 0 := by kernel_rfl
theorem zr80 : (Tryz.prog.info? 80).bind (·.zero) = some (.tuple ⟨[.agg ⟨[.bool false, .bool false, .bool false, .bool false, .bool false, .bool false, .bool false, .bool false, .bool false, .bool false, .bool false, .bool false, .bool false, .bool false, .bool false, .bool false, .bool false, .bool false, .bool false, .bool false, .bool false, .bool false, .bool false, .bool false, .bool false, .bool false, .bool false, .bool false, .bool false, .bool false, .bool false, .bool false, .bool false, .bool false, .bool false, .bool false, .bool false, .bool false, .bool false, .bool false, .bool false, .bool false, .bool false, .bool false, .bool false, .bool false, .bool false, .bool false, .bool false, .bool false, .bool false, .bool false, .bool false, .bool false, .bool false, .bool false, .bool false, .bool false, .bool false, .bool false, .bool false, .bool false, .bool false, .bool false, .bool false, .bool false, .bool false, .bool false, .bool false, .bool false, .bool false, .bool false, .bool false, .bool false, .bool false, .bool false, .bool false, .bool false, .bool false, .bool false, .bool false, .bool false, .bool false, .bool false, .bool false, .bool false, .bool false, .bool false, .bool false, .bool false, .bool false, .bool false, .bool false, .bool false, .bool false, .bool false, .bool false, .bool false, .bool false, .bool false, .bool false, .bool false, .bool false, .bool false, .bool false, .bool false, .bool false, .bool false, .bool false, .bool false, .bool false, .bool false, .bool false, .bool false, .bool false, .bool false, .bool false, .bool false, .bool false, .bool false, .bool false, .bool false, .bool false, .bool false, .bool false, .bool false, .bool false, .bool false, .bool false, .bool false, .bool false, .bool false, .bool false, .bool false, .bool false, .bool false, .bool false, .bool false, .bool false, .bool false, .bool false, .bool false, .bool false, .bool false, .bool false, .bool false, .bool false, .bool false, .bool false, .bool false, .bool false, .bool false, .bool false, .bool false, .bool false, .bool false, .bool false, .bool false, .bool false, .bool false, .bool false, .bool false, .bool false, .bool false, .bool false, .bool false, .bool false, .bool false, .bool false, .bool false, .bool false, .bool false, .bool false, .bool false, .bool false, .bool false, .bool false, .bool false, .bool false, .bool false, .bool false, .bool false, .bool false, .bool false, .bool false, .bool false, .bool false, .bool false, .bool false, .bool false, .bool false, .bool false, .bool false, .bool false, .bool false, .bool false, .bool false, .bool false, .bool false, .bool false, .bool false, .bool false, .bool false, .bool false, .bool false, .bool false, .bool false, .bool false, .bool false, .bool false, .bool false, .bool false, .bool false, .bool false, .bool false, .bool false, .bool false, .bool false, .bool false, .bool false, .bool false, .bool false, .bool false, .bool false, .bool false, .bool false, .bool false, .bool false, .bool false, .bool false, .bool false, .bool false, .bool false, .bool false, .bool false, .bool false, .bool false, .bool false, .bool false, .bool false, .bool false, .bool false, .bool false, .bool false, .bool false, .bool false, .bool false, .bool false, .bool false, .bool false, .bool false, .bool false, .bool false, .bool false, .bool false, .bool false]⟩, .bool false]⟩) := by kernel_rfl
theorem sz81 : (Tryz.prog.info? 81).map (·.size) = some 1 := by kernel_rfl
theorem by81 : (Tryz.prog.info? 81).map (·.bytes) = some 8 := by kernel_rfl
theorem zr81 : (Tryz.prog.info? 81).bind (·.zero) = some (.nilFunc) := by kernel_rfl
theorem sz82 : (Tryz.prog.info? 82).map (·.size) = some 1 := by kernel_rfl
theorem by82 : (Tryz.prog.info? 82).map (·.bytes) = some 8 := by kernel_rfl
theorem zr82 : (Tryz.prog.info? 82).bind (·.zero) = some (.nilFunc) := by kernel_rfl
theorem sz83 : (Tryz.prog.info? 83).map (·.size) = some 1 := by kernel_rfl
theorem by83 : (Tryz.prog.info? 83).map (·.bytes) = some 8 := by kernel_rfl
theorem zr83 : (Tryz.prog.info? 83).bind (·.zero) = some (.pointer none) := by kernel_rfl
theorem sz84 : (Tryz.prog.info? 84).map (·.size) = some 1 := by kernel_rfl
theorem by84 : (Tryz.prog.info? 84).map (·.bytes) = some 8 := by kernel_rfl
theorem zr84 : (Tryz.prog.info? 84).bind (·.zero) = some (.nilFunc) := by kernel_rfl
theorem sz85 : (Tryz.prog.info? 85).map (·.size) = some 1 := by kernel_rfl
theorem by85 : (Tryz.prog.info? 85).map (·.bytes) = some 8 := by kernel_rfl
theorem zr85 : (Tryz.prog.info? 85).bind (·.zero) = some (.nilFunc) := by kernel_rfl
theorem sz86 : (Tryz.prog.info? 86).map (·.size) = some 1 := by kernel_rfl
theorem by86 : (Tryz.prog.info? 86).map (·.bytes) = some 8 := by kernel_rfl
theorem zr86 : (Tryz.prog.info? 86).bind (·.zero) = some (.nilFunc) := by kernel_rfl
theorem sz87 : (Tryz.prog.info? 87).map (·.size) = some 1 := by kernel_rfl
theorem by87 : (Tryz.prog.info? 87).map (·.bytes) = some 8 := by kernel_rfl
theorem zr87 : (Tryz.prog.info? 87).bind (·.zero) = some (.nilFunc) := by kernel_rfl
theorem sz88 : (Tryz.prog.info? 88).map (·.size) = some 1 := by kernel_rfl
theorem by88 : (Tryz.prog.info? 88).map (·.bytes) = some 8 := by kernel_rfl
theorem zr88 : (Tryz.prog.info? 88).bind (·.zero) = some (.nilFunc) := by kernel_rfl
theorem sz89 : (Tryz.prog.info? 89).map (·.size) = some 1 := by kernel_rfl
theorem by89 : (Tryz.prog.info? 89).map (·.bytes) = some 8 := by kernel_rfl
theorem zr89 : (Tryz.prog.info? 89).bind (·.zero) = some (.nilFunc) := by kernel_rfl
theorem sz90 : (Tryz.prog.info? 90).map (·.size) = some 1 := by kernel_rfl
theorem by90 : (Tryz.prog.info? 90).map (·.bytes) = some 8 := by kernel_rfl
theorem zr90 : (Tryz.prog.info? 90).bind (·.zero) = some (.pointer none) := by kernel_rfl
theorem sz91 : (Tryz.prog.info? 91).map (·.size) = some 1 := by kernel_rfl
theorem by91 : (Tryz.prog.info? 91).map (·.bytes) = some 8 := by kernel_rfl
theorem zr91 : (Tryz.prog.info? 91).bind (·.zero) = some (.nilFunc) := by kernel_rfl
theorem sz92 : (Tryz.prog.info? 92).map (·.size) = some 1 := by kernel_rfl
theorem by92 : (Tryz.prog.info? 92).map (·.bytes) = some 8 := by kernel_rfl
theorem zr92 : (Tryz.prog.info? 92).bind (·.zero) = some (.pointer none) := by kernel_rfl
theorem sz93 : (Tryz.prog.info? 93).map (·.size) = some 1 := by kernel_rfl
theorem by93 : (Tryz.prog.info? 93).map (·.bytes) = some 8 := by kernel_rfl
theorem zr93 : (Tryz.prog.info? 93).bind (·.zero) = some (.nilFunc) := by kernel_rfl
theorem sz94 : (Tryz.prog.info? 94).map (·.size) = some 1 := by kernel_rfl
theorem by94 : (Tryz.prog.info? 94).map (·.bytes) = some 0 := by kernel_rfl
theorem zr94 : (Tryz.prog.info? 94).bind (·.zero) = some (.tuple ⟨[.int .i32 0, .int .i64 0]⟩) := by kernel_rfl
theorem sz95 : (Tryz.prog.info? 95).map (·.size) = some 1 := by kernel_rfl
theorem by95 : (Tryz.prog.info? 95).map (·.bytes) = some 8 := by kernel_rfl
theorem zr95 : (Tryz.prog.info? 95).bind (·.zero) = some (.nilFunc) := by kernel_rfl
theorem sz96 : (Tryz.prog.info? 96).map (·.size) = some 1 := by kernel_rfl
theorem by96 : (Tryz.prog.info? 96).map (·.bytes) = some 8 := by kernel_rfl
theorem zr96 : (Tryz.prog.info? 96).bind (·.zero) = some (.nilFunc) := by kernel_rfl
theorem sz97 : (Tryz.prog.info? 97).map (·.size) = some 1 := by kernel_rfl
theorem by97 : (Tryz.prog.info? 97).map (·.bytes) = some 8 := by kernel_rfl
theorem zr97 : (Tryz.prog.info? 97).bind (·.zero) = some (.nilFunc) := by kernel_rfl
theorem sz98 : (Tryz.prog.info? 98).map (·.size) = some 1 := by kernel_rfl
theorem by98 : (Tryz.prog.info? 98).map (·.bytes) = some 8 := by kernel_rfl
theorem zr98 : (Tryz.prog.info? 98).bind (·.zero) = some (.nilFunc) := by kernel_rfl
theorem sz99 : (Tryz.prog.info? 99).map (·.size) = some 1 := by kernel_rfl
theorem by99 : (Tryz.prog.info? 99).map (·.bytes) = some 8 := by kernel_rfl
theorem zr99 : (Tryz.prog.info? 99).bind (·.zero) = some (.int .i64 0) := by kernel_rfl
theorem sz100 : (Tryz.prog.info? 100).map (·.size) = some 1 := by kernel_rfl
theorem by100 : (Tryz.prog.info? 100).map (·.bytes) = some 0 := by kernel_rfl
theorem zr100 : (Tryz.prog.info? 100).bind (·.zero) = some (.tuple ⟨[.int .i64 0, .nilIface]⟩) := by kernel_rfl
theorem sz101 : (Tryz.prog.info? 101).map (·.size) = some 1 := by kernel_rfl
theorem by101 : (Tryz.prog.info? 101).map (·.bytes) = some 8 := by kernel_rfl
theorem zr101 : (Tryz.prog.info? 101).bind (·.zero) = some (.nilFunc) := by kernel_rfl
theorem sz102 : (Tryz.prog.info? 102).map (·.size) = some 1 := by kernel_rfl
theorem by102 : (Tryz.prog.info? 102).map (·.bytes) = some 8 := by kernel_rfl
theorem zr102 : (Tryz.prog.info? 102).bind (·.zero) = some (.pointer none) := by kernel_rfl
theorem sz103 : (Tryz.prog.info? 103).map (·.size) = some 1 := by kernel_rfl
theorem by103 : (Tryz.prog.info? 103).map (·.bytes) = some 8 := by kernel_rfl
theorem zr103 : (Tryz.prog.info? 103).bind (·.zero) = some (.nilFunc) := by kernel_rfl
theorem sz104 : (Tryz.prog.info? 104).map (·.size) = some 1 := by kernel_rfl
theorem by104 : (Tryz.prog.info? 104).map (·.bytes) = some 8 := by kernel_rfl
theorem zr104 : (Tryz.prog.info? 104).bind (·.zero) = some (.nilFunc) := by kernel_rfl
theorem sz105 : (Tryz.prog.info? 105).map (·.size) = some 1 := by kernel_rfl
theorem by105 : (Tryz.prog.info? 105).map (·.bytes) = some 8 := by kernel_rfl
theorem zr105 : (Tryz.prog.info? 105).bind (·.zero) = some (.nilFunc) := by kernel_rfl
theorem sz106 : (Tryz.prog.info? 106).map (·.size) = some 24 := by kernel_rfl
theorem by106 : (Tryz.prog.info? 106).map (·.bytes) = some 24 := by kernel_rfl
theorem zr106 : (Tryz.prog.info? 106).bind (·.zero) = some (.agg ⟨[.int .u8 0, .int .u8 0, .int .u8 0, .int .u8 0, .int .u8 0, .int .u8 0, .int .u8 0, .int .u8 0, .int .u8 0, .int .u8 0, .int .u8 0, .int .u8 0, .int .u8 0, .int .u8 0, .int .u8 0, .int .u8 0, .int .u8 0, .int .u8 0, .int .u8 0, .int .u8 0, .int .u8 0, .int .u8 0, .int .u8 0, .int .u8 0]⟩) := by kernel_rfl
theorem sz107 : (Tryz.prog.info? 107).map (·.size) = some 1 := by kernel_rfl
theorem by107 : (Tryz.prog.info? 107).map (·.bytes) = some 8 := by kernel_rfl
theorem zr107 : (Tryz.prog.info? 107).bind (·.zero) = some (.int .u64 0) := by kernel_rfl
theorem sz108 : (Tryz.prog.info? 108).map (·.size) = some 1 := by kernel_rfl
theorem by108 : (Tryz.prog.info? 108).map (·.bytes) = some 8 := by kernel_rfl
theorem zr108 : (Tryz.prog.info? 108).bind (·.zero) = some (.nilFunc) := by kernel_rfl
theorem sz109 : (Tryz.prog.info? 109).map (·.size) = some 1 := by kernel_rfl
theorem by109 : (Tryz.prog.info? 109).map (·.bytes) = some 8 := by kernel_rfl
theorem zr109 : (Tryz.prog.info? 109).bind (·.zero) = some (.nilFunc) := by kernel_rfl
theorem sz110 : (Tryz.prog.info? 110).map (·.size) = some 1 := by kernel_rfl
theorem by110 : (Tryz.prog.info? 110).map (·.bytes) = some 0 := by kernel_rfl
theorem zr110 : (Tryz.prog.info? 110).bind (·.zero) = some (.tuple ⟨[.slice none 0 0, .string ⟨⟨[]⟩⟩]⟩) := by kernel_rfl
theorem sz111 : (Tryz.prog.info? 111).map (·.size) = some 1 := by kernel_rfl
theorem by111 : (Tryz.prog.info? 111).map (·.bytes) = some 8 := by kernel_rfl
theorem zr111 : (Tryz.prog.info? 111).bind (·.zero) = some (.nilFunc) := by kernel_rfl
theorem sz112 : (Tryz.prog.info? 112).map (·.size) = some 1 := by kernel_rfl
theorem by112 : (Tryz.prog.info? 112).map (·.bytes) = some 8 := by kernel_rfl
theorem zr112 : (Tryz.prog.info? 112).bind (·.zero) = some (.pointer none) := by kernel_rfl
theorem sz113 : (Tryz.prog.info? 113).map (·.size) = some 1 := by kernel_rfl
theorem by113 : (Tryz.prog.info? 113).map (·.bytes) = some 8 := by kernel_rfl
theorem zr113 : (Tryz.prog.info? 113).bind (·.zero) = some (.nilFunc) := by kernel_rfl
theorem sz114 : (Tryz.prog.info? 114).map (·.size) = some 1 := by kernel_rfl
theorem by114 : (Tryz.prog.info? 114).map (·.bytes) = some 8 := by kernel_rfl
theorem zr114 : (Tryz.prog.info? 114).bind (·.zero) = some (.nilFunc) := by kernel_rfl
theorem sz115 : (Tryz.prog.info? 115).map (·.size) = some 1 := by kernel_rfl
theorem by115 : (Tryz.prog.info? 115).map (·.bytes) = some 8 := by kernel_rfl
theorem zr115 : (Tryz.prog.info? 115).bind (·.zero) = some (.int .u64 0) := by kernel_rfl
theorem sz116 : (Tryz.prog.info? 116).map (·.size) = some 3 := by kernel_rfl
theorem by116 : (Tryz.prog.info? 116).map (·.bytes) = some 24 := by kernel_rfl
theorem zr116 : (Tryz.prog.info? 116).bind (·.zero) = some (.agg ⟨[.pointer none, .pointer none, .int .u64 0]⟩) := by kernel_rfl
theorem sz117 : (Tryz.prog.info? 117).map (·.size) = some 3 := by kernel_rfl
theorem by117 : (Tryz.prog.info? 117).map (·.bytes) = some 24 := by kernel_rfl
theorem zr117 : (Tryz.prog.info? 117).bind (·.zero) = some (.agg ⟨[.pointer none, .pointer none, .int .u64 0]⟩) := by kernel_rfl
theorem sz118 : (Tryz.prog.info? 118).map (·.size) = some 1 := by kernel_rfl
theorem by118 : (Tryz.prog.info? 118).map (·.bytes) = some 8 := by kernel_rfl
theorem zr118 : (Tryz.prog.info? 118).bind (·.zero) = some (.nilFunc) := by kernel_rfl
theorem sz119 : (Tryz.prog.info? 119).map (·.size) = some 1 := by kernel_rfl
theorem by119 : (Tryz.prog.info? 119).map (·.bytes) = some 16 := by kernel_rfl
theorem zr119 : (Tryz.prog.info? 119).bind (·.zero) = some (.nilIface) := by kernel_rfl
theorem sz120 : (Tryz.prog.info? 120).map (·.size) = some 1 := by kernel_rfl
theorem by120 : (Tryz.prog.info? 120).map (·.bytes) = some 16 := by kernel_rfl
theorem zr120 : (Tryz.prog.info? 120).bind (·.zero) = some (.nilIface) := by kernel_rfl
theorem sz121 : (Tryz.prog.info? 121).map (·.size) = some 1 := by kernel_rfl
theorem by121 : (Tryz.prog.info? 121).map (·.bytes) = some 8 := by kernel_rfl
theorem zr121 : (Tryz.prog.info? 121).bind (·.zero) = some (.nilFunc) := by kernel_rfl
theorem sz122 : (Tryz.prog.info? 122).map (·.size) = some 1 := by kernel_rfl
theorem by122 : (Tryz.prog.info? 122).map (·.bytes) = some 1 := by kernel_rfl
theorem zr122 : (Tryz.prog.info? 122).bind (·.zero) = some (.int .u8 0) := by kernel_rfl
theorem sz123 : (Tryz.prog.info? 123).map (·.size) = some 1 := by kernel_rfl
theorem by123 : (Tryz.prog.info? 123).map (·.bytes) = some 8 := by kernel_rfl
theorem zr123 : (Tryz.prog.info? 123).bind (·.zero) = some (.nilFunc) := by kernel_rfl
theorem sz124 : (Tryz.prog.info? 124).map (·.size) = some 1 := by kernel_rfl
theorem by124 : (Tryz.prog.info? 124).map (·.bytes) = some 8 := by kernel_rfl
theorem zr124 : (Tryz.prog.info? 124).bind (·.zero) = some (.nilFunc) := by kernel_rfl
theorem sz125 : (Tryz.prog.info? 125).map (·.size) = some 1 := by kernel_rfl
theorem by125 : (Tryz.prog.info? 125).map (·.bytes) = some 8 := by kernel_rfl
theorem zr125 : (Tryz.prog.info? 125).bind (·.zero) = some (.nilFunc) := by kernel_rfl
theorem sz126 : (Tryz.prog.info? 126).map (·.size) = some 1 := by kernel_rfl
theorem by126 : (Tryz.prog.info? 126).map (·.bytes) = some 8 := by kernel_rfl
theorem zr126 : (Tryz.prog.info? 126).bind (·.zero) = some (.nilFunc) := by kernel_rfl
theorem sz127 : (Tryz.prog.info? 127).map (·.size) = some 1 := by kernel_rfl
theorem by127 : (Tryz.prog.info? 127).map (·.bytes) = some 8 := by kernel_rfl
theorem zr127 : (Tryz.prog.info? 127).bind (·.zero) = some (.nilFunc) := by kernel_rfl
theorem sz128 : (Tryz.prog.info? 128).map (·.size) = some 1 := by kernel_rfl
theorem by128 : (Tryz.prog.info? 128).map (·.bytes) = some 8 := by kernel_rfl
theorem zr128 : (Tryz.prog.info? 128).bind (·.zero) = some (.nilFunc) := by kernel_rfl
theorem sz129 : (Tryz.prog.info? 129).map (·.size) = some 1 := by kernel_rfl
theorem by129 : (Tryz.prog.info? 129).map (·.bytes) = some 0 := by kernel_rfl
theorem zr129 : (Tryz.prog.info? 129).bind (·.zero) = some (.tuple ⟨[.int .u64 0, .nilIface]⟩) := by kernel_rfl
theorem sz130 : (Tryz.prog.info? 130).map (·.size) = some 1 := by kernel_rfl
theorem by130 : (Tryz.prog.info? 130).map (·.bytes) = some 8 := by kernel_rfl
theorem zr130 : (Tryz.prog.info? 130).bind (·.zero) = some (.nilFunc) := by kernel_rfl
theorem sz131 : (Tryz.prog.info? 131).map (·.size) = some 1 := by kernel_rfl
theorem by131 : (Tryz.prog.info? 131).map (·.bytes) = some 8 := by kernel_rfl
theorem zr131 : (Tryz.prog.info? 131).bind (·.zero) = some (.int .u64 0) := by kernel_rfl
theorem sz132 : (Tryz.prog.info? 132).map (·.size) = some 1 := by kernel_rfl
theorem by132 : (Tryz.prog.info? 132).map (·.bytes) = some 8 := by kernel_rfl
theorem zr132 : (Tryz.prog.info? 132).bind (·.zero) = some (.nilFunc) := by kernel_rfl
theorem sz133 : (Tryz.prog.info? 133).map (·.size) = some 3 := by kernel_rfl
theorem by133 : (Tryz.prog.info? 133).map (·.bytes) = some 48 := by kernel_rfl
theorem zr133 : (Tryz.prog.info? 133).bind (·.zero) = some (.agg ⟨[.string ⟨⟨[]⟩⟩, .string ⟨⟨[]⟩⟩, .nilIface]⟩) := by kernel_rfl
theorem sz134 : (Tryz.prog.info? 134).map (·.size) = some 3 := by kernel_rfl
theorem by134 : (Tryz.prog.info? 134).map (·.bytes) = some 48 := by kernel_rfl
theorem zr134 : (Tryz.prog.info? 134).bind (·.zero) = some (.agg ⟨[.string ⟨⟨[]⟩⟩, .string ⟨⟨[]⟩⟩, .nilIface]⟩) := by kernel_rfl
theorem sz135 : (Tryz.prog.info? 135).map (·.size) = some 1 := by kernel_rfl
theorem by135 : (Tryz.prog.info? 135).map (·.bytes) = some 8 := by kernel_rfl
theorem zr135 : (Tryz.prog.info? 135).bind (·.zero) = some (.nilFunc) := by kernel_rfl
theorem sz136 : (Tryz.prog.info? 136).map (·.size) = some 1 := by kernel_rfl
theorem by136 : (Tryz.prog.info? 136).map (·.bytes) = some 8 := by kernel_rfl
theorem zr136 : (Tryz.prog.info? 136).bind (·.zero) = some (.nilFunc) := by kernel_rfl
theorem sz137 : (Tryz.prog.info? 137).map (·.size) = some 20 := by kernel_rfl
theorem by137 : (Tryz.prog.info? 137).map (·.bytes) = some 160 := by kernel_rfl
theorem zr137 : (Tryz.prog.info? 137).bind (·.zero) = some (.agg ⟨[.int .u64 0, .int .u64 0, .int .u64 0, .int .u64 0, .int .u64 0, .int .u64 0, .int .u64 0, .int .u64 0, .int .u64 0, .int .u64 0, .int .u64 0, .int .u64 0, .int .u64 0, .int .u64 0, .int .u64 0, .int .u64 0, .int .u64 0, .int .u64 0, .int .u64 0, .int .u64 0]⟩) := by kernel_rfl
theorem sz138 : (Tryz.prog.info? 138).map (·.size) = some 1 := by kernel_rfl
theorem by138 : (Tryz.prog.info? 138).map (·.bytes) = some 4 := by kernel_rfl
theorem zr138 : (Tryz.prog.info? 138).bind (·.zero) = some (.int .u32 0) := by kernel_rfl
theorem sz139 : (Tryz.prog.info? 139).map (·.size) = some 65 := by kernel_rfl
theorem by139 : (Tryz.prog.info? 139).map (·.bytes) = some 65 := by kernel_rfl
theorem zr139 : (Tryz.prog.info? 139).bind (·.zero) = some (.agg ⟨[.int .u8 0, .int .u8 0, .int .u8 0, .int .u8 0, .int .u8 0, .int .u8 0, .int .u8 0, .int .u8 0, .int .u8 0, .int .u8 0, .int .u8 0, .int .u8 0, .int .u8 0, .int .u8 0, .int .u8 0, .int .u8 0, .int .u8 0, .int .u8 0, .int .u8 0, .int .u8 0, .int .u8 0, .int .u8 0, .int .u8 0, .int .u8 0, .int .u8 0, .int .u8 0, .int .u8 0, .int .u8 0, .int .u8 0, .int .u8 0, .int .u8 0, .int .u8 0, .int .u8 0, .int .u8 0, .int .u8 0, .int .u8 0, .int .u8 0, .int .u8 0, .int .u8 0, .int .u8 0, .int .u8 0, .int .u8 0, .int .u8 0, .int .u8 0, .int .u8 0, .int .u8 0, .int .u8 0, .int .u8 0, .int .u8 0, .int .u8 0, .int .u8 0, .int .u8 0, .int .u8 0, .int .u8 0, .int .u8 0, .int .u8 0, .int .u8 0, .int .u8 0, .int .u8 0, .int .u8 0, .int .u8 0, .int .u8 0, .int .u8 0, .int .u8 0, .int .u8 0]⟩) := by kernel_rfl
theorem sz140 : (Tryz.prog.info? 140).map (·.size) = some 1 := by kernel_rfl
theorem by140 : (Tryz.prog.info? 140).map (·.bytes) = some 8 := by kernel_rfl
theorem zr140 : (Tryz.prog.info? 140).bind (·.zero) = some (.nilFunc) := by kernel_rfl
theorem sz141 : (Tryz.prog.info? 141).map (·.size) = some 1 := by kernel_rfl
theorem by141 : (Tryz.prog.info? 141).map (·.bytes) = some 8 := by kernel_rfl
theorem zr141 : (Tryz.prog.info? 141).bind (·.zero) = some (.nilFunc) := by kernel_rfl
theorem sz142 : (Tryz.prog.info? 142).map (·.size) = some 1 := by kernel_rfl
theorem by142 : (Tryz.prog.info? 142).map (·.bytes) = some 8 := by kernel_rfl
theorem zr142 : (Tryz.prog.info? 142).bind (·.zero) = some (.agg ⟨[.pointer none]⟩) := by kernel_rfl
theorem sz143 : (Tryz.prog.info? 143).map (·.size) = some 1 := by kernel_rfl
theorem by143 : (Tryz.prog.info? 143).map (·.bytes) = some 8 := by kernel_rfl
theorem zr143 : (Tryz.prog.info? 143).bind (·.zero) = some (.agg ⟨[.pointer none]⟩) := by kernel_rfl
theorem sz144 : (Tryz.prog.info? 144).map (·.size) = some 1 := by kernel_rfl
theorem by144 : (Tryz.prog.info? 144).map (·.bytes) = some 8 := by kernel_rfl
theorem zr144 : (Tryz.prog.info? 144).bind (·.zero) = some (.pointer none) := by kernel_rfl
theorem sz145 : (Tryz.prog.info? 145).map (·.size) = some 1 := by kernel_rfl
theorem by145 : (Tryz.prog.info? 145).map (·.bytes) = some 8 := by kernel_rfl
theorem zr145 : (Tryz.prog.info? 145).bind (·.zero) = some (.nilFunc) := by kernel_rfl
theorem sz146 : (Tryz.prog.info? 146).map (·.size) = some 1 := by kernel_rfl
theorem by146 : (Tryz.prog.info? 146).map (·.bytes) = some 8 := by kernel_rfl
theorem zr146 : (Tryz.prog.info? 146).bind (·.zero) = some (.nilFunc) := by kernel_rfl
theorem sz147 : (Tryz.prog.info? 147).map (·.size) = some 1 := by kernel_rfl
theorem by147 : (Tryz.prog.info? 147).map (·.bytes) = some 8 := by kernel_rfl
theorem zr147 : (Tryz.prog.info? 147).bind (·.zero) = some (.nilFunc) := by kernel_rfl
theorem sz148 : (Tryz.prog.info? 148).map (·.size) = some 1 := by kernel_rfl
theorem by148 : (Tryz.prog.info? 148).map (·.bytes) = some 16 := by kernel_rfl
theorem zr148 : (Tryz.prog.info? 148).bind (·.zero) = some (.nilIface) := by kernel_rfl
theorem sz149 : (Tryz.prog.info? 149).map (·.size) = some 1 := by kernel_rfl
theorem by149 : (Tryz.prog.info? 149).map (·.bytes) = some 0 := by kernel_rfl
theorem zr149 : (Tryz.prog.info? 149).bind (·.zero) = some (.tuple ⟨[.nilIface, .bool false]⟩) := by kernel_rfl
theorem sz150 : (Tryz.prog.info? 150).map (·.size) = some 1 := by kernel_rfl
theorem by150 : (Tryz.prog.info? 150).map (·.bytes) = some 8 := by kernel_rfl
theorem zr150 : (Tryz.prog.info? 150).bind (·.zero) = some (.nilFunc) := by kernel_rfl
theorem sz151 : (Tryz.prog.info? 151).map (·.size) = some 1 := by kernel_rfl
theorem by151 : (Tryz.prog.info? 151).map (·.bytes) = some 16 := by kernel_rfl
theorem zr151 : (Tryz.prog.info? 151).bind (·.zero) = some (.nilIface) := by kernel_rfl
theorem sz152 : (Tryz.prog.info? 152).map (·.size) = some 1 := by kernel_rfl
theorem by152 : (Tryz.prog.info? 152).map (·.bytes) = some 24 := by kernel_rfl
theorem zr152 : (Tryz.prog.info? 152).bind (·.zero) = some (.slice none 0 0) := by kernel_rfl
theorem sz153 : (Tryz.prog.info? 153).map (·.size) = some 1 := by kernel_rfl
theorem by153 : (Tryz.prog.info? 153).map (·.bytes) = some 8 := by kernel_rfl
theorem zr153 : (Tryz.prog.info? 153).bind (·.zero) = some (.nilFunc) := by kernel_rfl
theorem sz154 : (Tryz.prog.info? 154).map (·.size) = some 256 := by kernel_rfl
theorem by154 : (Tryz.prog.info? 154).map (·.bytes) = some 256 := by kernel_rfl
theorem zr154 : (Tryz.prog.info? 154).bind (·.zero) = some (.agg ⟨[.int .u8 0, .int .u8 0, .int .u8 0, .int .u8 0, .int .u8 0, .int .u8 0, .int .u8 0, .int .u8 0, .int .u8 0, .int .u8 0, .int .u8 0, .int .u8 0, .int .u8 0, .int .u8 0, .int .u8 0, .int .u8 0, .int .u8 0, .int .u8 0, .int .u8 0, .int .u8 0, .int .u8 0, .int .u8 0, .int .u8 0, .int .u8 0, .int .u8 0, .int .u8 0, .int .u8 0, .int .u8 0, .int .u8 0, .int .u8 0, .int .u8 0, .int .u8 0, .int .u8 0, .int .u8 0, .int .u8 0, .int .u8 0, .int .u8 0, .int .u8 0, .int .u8 0, .int .u8 0, .int .u8 0, .int .u8 0, .int .u8 0, .int .u8 0, .int .u8 0, .int .u8 0, .int .u8 0, .int .u8 0, .int .u8 0, .int .u8 0, .int .u8 0, .int .u8 0, .int .u8 0, .int .u8 0, .int .u8 0, .int .u8 0, .int .u8 0, .int .u8 0, .int .u8 0, .int .u8 0, .int .u8 0, .int .u8 0, .int .u8 0, .int .u8 0, .int .u8 0, .int .u8 0, .int .u8 0, .int .u8 0, .int .u8 0, .int .u8 0, .int .u8 0, .int .u8 0, .int .u8 0, .int .u8 0, .int .u8 0, .int .u8 0, .int .u8 0, .int .u8 0, .int .u8 0, .int .u8 0, .int .u8 0, .int .u8 0, .int .u8 0, .int .u8 0, .int .u8 0, .int .u8 0, .int .u8 0, .int .u8 0, .int .u8 0, .int .u8 0, .int .u8 0, .int .u8 0, .int .u8 0, .int .u8 0, .int .u8 0, .int .u8 0, .int .u8 0, .int .u8 0, .int .u8 0, .int .u8 0, .int .u8 0, .int .u8 0, .int .u8 0, .int .u8 0, .int .u8 0, .int .u8 0, .int .u8 0, .int .u8 0, .int .u8 0, .int .u8 0, .int .u8 0, .int .u8 0, .int .u8 0, .int .u8 0, .int .u8 0, .int .u8 0, .int .u8 0, .int .u8 0, .int .u8 0, .int .u8 0, .int .u8 0, .int .u8 0, .int .u8 0, .int .u8 0, .int .u8 0, .int .u8 0, .int .u8 0, .int .u8 0, .int .u8 0, .int .u8 0, .int .u8 0, .int .u8 0, .int .u8 0, .int .u8 0, .int .u8 0, .int .u8 0, .int .u8 0, .int .u8 0, .int .u8 0, .int .u8 0, .int .u8 0, .int .u8 0, .int .u8 0, .int .u8 0, .int .u8 0, .int .u8 0, .int .u8 0, .int .u8 0, .int .u8 0, .int .u8 0, .int .u8 0, .int .u8 0, .int .u8 0, .int .u8 0, .int .u8 0, .int .u8 0, .int .u8 0, .int .u8 0, .int .u8 0, .int .u8 0, .int .u8 0, .int .u8 0, .int .u8 0, .int .u8 0, .int .u8 0, .int .u8 0, .int .u8 0, .int .u8 0, .int .u8 0, .int .u8 0, .int .u8 0, .int .u8 0, .int .u8 0, .int .u8 0, .int .u8 0, .int .u8 0, .int .u8 0, .int .u8 0, .int .u8 0, .int .u8 0, .int .u8 0, .int .u8 0, .int .u8 0, .int .u8 0, .int .u8 0, .int .u8 0, .int .u8 0, .int .u8 0, .int .u8 0, .int .u8 0, .int .u8 0, .int .u8 0, .int .u8 0, .int .u8 0, .int .u8 0, .int .u8 0, .int .u8 0, .int .u8 0, .int .u8 0, .int .u8 0, .int .u8 0, .int .u8 0, .int .u8 0, .int .u8 0, .int .u8 0, .int .u8 0, .int .u8 0, .int .u8 0, .int .u8 0, .int .u8 0, .int .u8 0, .int .u8 0, .int .u8 0, .int .u8 0, .int .u8 0, .int .u8 0, .int .u8 0, .int .u8 0, .int .u8 0, .int .u8 0, .int .u8 0, .int .u8 0, .int .u8 0, .int .u8 0, .int .u8 0, .int .u8 0, .int .u8 0, .int .u8 0, .int .u8 0, .int .u8 0, .int .u8 0, .int .u8 0, .int .u8 0, .int .u8 0, .int .u8 0, .int .u8 0, .int .u8 0, .int .u8 0, .int .u8 0, .int .u8 0, .int .u8 0, .int .u8 0, .int .u8 0, .int .u8 0, .int .u8 0, .int .u8 0, .int .u8 0, .int .u8 0, .int .u8 0, .int .u8 0, .int .u8 0, .int .u8 0, .int .u8 0, .int .u8 0, .int .u8 0, .int .u8 0]⟩) := by kernel_rfl
theorem sz155 : (Tryz.prog.info? 155).map (·.size) = some 2 := by kernel_rfl
theorem by155 : (Tryz.prog.info? 155).map (·.bytes) = some 2 := by kernel_rfl
theorem zr155 : (Tryz.prog.info? 155).bind (·.zero) = some (.agg ⟨[.int .u8 0, .int .u8 0]⟩) := by kernel_rfl
theorem sz156 : (Tryz.prog.info? 156).map (·.size) = some 2 := by kernel_rfl
theorem by156 : (Tryz.prog.info? 156).map (·.bytes) = some 2 := by kernel_rfl
theorem zr156 : (Tryz.prog.info? 156).bind (·.zero) = some (.agg ⟨[.int .u8 0, .int .u8 0]⟩) := by kernel_rfl
theorem sz157 : (Tryz.prog.info? 157).map (·.size) = some 32 := by kernel_rfl
theorem by157 : (Tryz.prog.info? 157).map (·.bytes) = some 32 := by kernel_rfl
theorem zr157 : (Tryz.prog.info? 157).bind (·.zero) = some (.agg ⟨[.int .u8 0, .int .u8 0, .int .u8 0, .int .u8 0, .int .u8 0, .int .u8 0, .int .u8 0, .int .u8 0, .int .u8 0, .int .u8 0, .int .u8 0, .int .u8 0, .int .u8 0, .int .u8 0, .int .u8 0, .int .u8 0, .int .u8 0, .int .u8 0, .int .u8 0, .int .u8 0, .int .u8 0, .int .u8 0, .int .u8 0, .int .u8 0, .int .u8 0, .int .u8 0, .int .u8 0, .int .u8 0, .int .u8 0, .int .u8 0, .int .u8 0, .int .u8 0]⟩) := by kernel_rfl
theorem sz158 : (Tryz.prog.info? 158).map (·.size) = some 1 := by kernel_rfl
theorem by158 : (Tryz.prog.info? 158).map (·.bytes) = some 8 := by kernel_rfl
theorem zr158 : (Tryz.prog.info? 158).bind (·.zero) = some (.nilFunc) := by kernel_rfl
theorem sz159 : (Tryz.prog.info? 159).map (·.size) = some 1 := by kernel_rfl
theorem by159 : (Tryz.prog.info? 159).map (·.bytes) = some 8 := by kernel_rfl
theorem zr159 : (Tryz.prog.info? 159).bind (·.zero) = some (.nilFunc) := by kernel_rfl
theorem sz160 : (Tryz.prog.info? 160).map (·.size) = some 1 := by kernel_rfl
theorem by160 : (Tryz.prog.info? 160).map (·.bytes) = some 8 := by kernel_rfl
theorem zr160 : (Tryz.prog.info? 160).bind (·.zero) = some (.pointer none) := by kernel_rfl
theorem sz161 : (Tryz.prog.info? 161).map (·.size) = some 1 := by kernel_rfl
theorem by161 : (Tryz.prog.info? 161).map (·.bytes) = some 16 := by kernel_rfl
theorem zr161 : (Tryz.prog.info? 161).bind (·.zero) = some (.agg ⟨[.string ⟨⟨[]⟩⟩]⟩) := by kernel_rfl
theorem sz162 : (Tryz.prog.info? 162).map (·.size) = some 1 := by kernel_rfl
theorem by162 : (Tryz.prog.info? 162).map (·.bytes) = some 16 := by kernel_rfl
theorem zr162 : (Tryz.prog.info? 162).bind (·.zero) = some (.agg ⟨[.string ⟨⟨[]⟩⟩]⟩) := by kernel_rfl
theorem sz163 : (Tryz.prog.info? 163).map (·.size) = some 1 := by kernel_rfl
theorem by163 : (Tryz.prog.info? 163).map (·.bytes) = some 8 := by kernel_rfl
theorem zr163 : (Tryz.prog.info? 163).bind (·.zero) = some (.nilFunc) := by kernel_rfl
theorem sz164 : (Tryz.prog.info? 164).map (·.size) = some 1 := by kernel_rfl
theorem by164 : (Tryz.prog.info? 164).map (·.bytes) = some 0 := by kernel_rfl
theorem zr164 : (Tryz.prog.info? 164).bind (·.zero) = some (.tuple ⟨[.int .u32 0, .int .u32 0]⟩) := by kernel_rfl
theorem sz165 : (Tryz.prog.info? 165).map (·.size) = some 1 := by kernel_rfl
theorem by165 : (Tryz.prog.info? 165).map (·.bytes) = some 8 := by kernel_rfl
theorem zr165 : (Tryz.prog.info? 165).bind (·.zero) = some (.nilFunc) := by kernel_rfl
theorem sz166 : (Tryz.prog.info? 166).map (·.size) = some 32 := by kernel_rfl
theorem by166 : (Tryz.prog.info? 166).map (·.bytes) = some 32 := by kernel_rfl
theorem zr166 : (Tryz.prog.info? 166).bind (·.zero) = some (.agg ⟨[.int .u8 0, .int .u8 0, .int .u8 0, .int .u8 0, .int .u8 0, .int .u8 0, .int .u8 0, .int .u8 0, .int .u8 0, .int .u8 0, .int .u8 0, .int .u8 0, .int .u8 0, .int .u8 0, .int .u8 0, .int .u8 0, .int .u8 0, .int .u8 0, .int .u8 0, .int .u8 0, .int .u8 0, .int .u8 0, .int .u8 0, .int .u8 0, .int .u8 0, .int .u8 0, .int .u8 0, .int .u8 0, .int .u8 0, .int .u8 0, .int .u8 0, .int .u8 0]⟩) := by kernel_rfl
theorem sz167 : (Tryz.prog.info? 167).map (·.size) = some 64 := by kernel_rfl
theorem by167 : (Tryz.prog.info? 167).map (·.bytes) = some 64 := by kernel_rfl
theorem zr167 : (Tryz.prog.info? 167).bind (·.zero) = some (.agg ⟨[.int .u8 0, .int .u8 0, .int .u8 0, .int .u8 0, .int .u8 0, .int .u8 0, .int .u8 0, .int .u8 0, .int .u8 0, .int .u8 0, .int .u8 0, .int .u8 0, .int .u8 0, .int .u8 0, .int .u8 0, .int .u8 0, .int .u8 0, .int .u8 0, .int .u8 0, .int .u8 0, .int .u8 0, .int .u8 0, .int .u8 0, .int .u8 0, .int .u8 0, .int .u8 0, .int .u8 0, .int .u8 0, .int .u8 0, .int .u8 0, .int .u8 0, .int .u8 0, .int .u8 0, .int .u8 0, .int .u8 0, .int .u8 0, .int .u8 0, .int .u8 0, .int .u8 0, .int .u8 0, .int .u8 0, .int .u8 0, .int .u8 0, .int .u8 0, .int .u8 0, .int .u8 0, .int .u8 0, .int .u8 0, .int .u8 0, .int .u8 0, .int .u8 0, .int .u8 0, .int .u8 0, .int .u8 0, .int .u8 0, .int .u8 0, .int .u8 0, .int .u8 0, .int .u8 0, .int .u8 0, .int .u8 0, .int .u8 0, .int .u8 0, .int .u8 0]⟩) := by kernel_rfl
theorem sz168 : (Tryz.prog.info? 168).map (·.size) = some 4 := by kernel_rfl
theorem by168 : (Tryz.prog.info? 168).map (·.bytes) = some 40 := by kernel_rfl
theorem zr168 : (Tryz.prog.info? 168).bind (·.zero) = some (.agg ⟨[.pointer none, .pointer none, .pointer none, .string ⟨⟨[]⟩⟩]⟩) := by kernel_rfl
theorem sz169 : (Tryz.prog.info? 169).map (·.size) = some 4 := by kernel_rfl
theorem by169 : (Tryz.prog.info? 169).map (·.bytes) = some 40 := by kernel_rfl
theorem zr169 : (Tryz.prog.info? 169).bind (·.zero) = some (.agg ⟨[.pointer none, .pointer none, .pointer none, .string ⟨⟨[]⟩⟩]⟩) := by kernel_rfl
theorem sz170 : (Tryz.prog.info? 170).map (·.size) = some 0 := by kernel_rfl
theorem by170 : (Tryz.prog.info? 170).map (·.bytes) = some 0 := by kernel_rfl
theorem zr170 : (Tryz.prog.info? 170).bind (·.zero) = some (.agg ⟨[]⟩) := by kernel_rfl
theorem sz171 : (Tryz.prog.info? 171).map (·.size) = some 0 := by kernel_rfl
theorem by171 : (Tryz.prog.info? 171).map (·.bytes) = some 0 := by kernel_rfl
theorem zr171 : (Tryz.prog.info? 171).bind (·.zero) = some (.agg ⟨[]⟩) := by kernel_rfl
theorem sz172 : (Tryz.prog.info? 172).map (·.size) = some 0 := by kernel_rfl
theorem by172 : (Tryz.prog.info? 172).map (·.bytes) = some 0 := by kernel_rfl
theorem zr172 : (Tryz.prog.info? 172).bind (·.zero) = some (.agg ⟨[]⟩) := by kernel_rfl
theorem sz173 : (Tryz.prog.info? 173).map (·.size) = some 1 := by kernel_rfl
theorem by173 : (Tryz.prog.info? 173).map (·.bytes) = some 8 := by kernel_rfl
theorem zr173 : (Tryz.prog.info? 173).bind (·.zero) = some (.nilFunc) := by kernel_rfl
theorem sz174 : (Tryz.prog.info? 174).map (·.size) = some 1 := by kernel_rfl
theorem by174 : (Tryz.prog.info? 174).map (·.bytes) = some 8 := by kernel_rfl
theorem zr174 : (Tryz.prog.info? 174).bind (·.zero) = some (.nilFunc) := by kernel_rfl
theorem sz175 : (Tryz.prog.info? 175).map (·.size) = some 1 := by kernel_rfl
theorem by175 : (Tryz.prog.info? 175).map (·.bytes) = some 1 := by kernel_rfl
theorem zr175 : (Tryz.prog.info? 175).bind (·.zero) = some (.int .u8 0) := by kernel_rfl
theorem sz176 : (Tryz.prog.info? 176).map (·.size) = some 1 := by kernel_rfl
theorem by176 : (Tryz.prog.info? 176).map (·.bytes) = some 8 := by kernel_rfl
theorem zr176 : (Tryz.prog.info? 176).bind (·.zero) = some (.nilFunc) := by kernel_rfl
theorem sz177 : (Tryz.prog.info? 177).map (·.size) = some 1 := by kernel_rfl
theorem by177 : (Tryz.prog.info? 177).map (·.bytes) = some 4 := by kernel_rfl
theorem zr177 : (Tryz.prog.info? 177).bind (·.zero) = some (.int .i32 0) := by kernel_rfl
theorem sz178 : (Tryz.prog.info? 178).map (·.size) = some 1 := by kernel_rfl
theorem by178 : (Tryz.prog.info? 178).map (·.bytes) = some 4 := by kernel_rfl
theorem zr178 : (Tryz.prog.info? 178).bind (·.zero) = some (.int .i32 0) := by kernel_rfl
theorem sz179 : (Tryz.prog.info? 179).map (·.size) = some 11 := by kernel_rfl
theorem by179 : (Tryz.prog.info? 179).map (·.bytes) = some 48 := by kernel_rfl
theorem zr179 : (Tryz.prog.info? 179).bind (·.zero) = some (.agg ⟨[.int .u64 0, .int .u64 0, .int .u32 0, .int .u8 0, .int .u8 0, .int .u8 0, .int .u8 0, .nilFunc, .pointer none, .int .i32 0, .int .i32 0]⟩) := by kernel_rfl
theorem sz180 : (Tryz.prog.info? 180).map (·.size) = some 11 := by kernel_rfl
theorem by180 : (Tryz.prog.info? 180).map (·.bytes) = some 48 := by kernel_rfl
theorem zr180 : (Tryz.prog.info? 180).bind (·.zero) = some (.agg ⟨[.int .u64 0, .int .u64 0, .int .u32 0, .int .u8 0, .int .u8 0, .int .u8 0, .int .u8 0, .nilFunc, .pointer none, .int .i32 0, .int .i32 0]⟩) := by kernel_rfl
theorem sz181 : (Tryz.prog.info? 181).map (·.size) = some 1 := by kernel_rfl
theorem by181 : (Tryz.prog.info? 181).map (·.bytes) = some 8 := by kernel_rfl
theorem zr181 : (Tryz.prog.info? 181).bind (·.zero) = some (.nilFunc) := by kernel_rfl
theorem sz182 : (Tryz.prog.info? 182).map (·.size) = some 1 := by kernel_rfl
theorem by182 : (Tryz.prog.info? 182).map (·.bytes) = some 8 := by kernel_rfl
theorem zr182 : (Tryz.prog.info? 182).bind (·.zero) = some (.nilFunc) := by kernel_rfl
theorem sz183 : (Tryz.prog.info? 183).map (·.size) = some 2 := by kernel_rfl
theorem by183 : (Tryz.prog.info? 183).map (·.bytes) = some 24 := by kernel_rfl
theorem zr183 : (Tryz.prog.info? 183).bind (·.zero) = some (.agg ⟨[.string ⟨⟨[]⟩⟩, .int .u8 0]⟩) := by kernel_rfl
theorem sz184 : (Tryz.prog.info? 184).map (·.size) = some 2 := by kernel_rfl
theorem by184 : (Tryz.prog.info? 184).map (·.bytes) = some 24 := by kernel_rfl
theorem zr184 : (Tryz.prog.info? 184).bind (·.zero) = some (.agg ⟨[.string ⟨⟨[]⟩⟩, .int .u8 0]⟩) := by kernel_rfl
theorem sz185 : (Tryz.prog.info? 185).map (·.size) = some 1 := by kernel_rfl
theorem by185 : (Tryz.prog.info? 185).map (·.bytes) = some 8 := by kernel_rfl
theorem zr185 : (Tryz.prog.info? 185).bind (·.zero) = some (.pointer none) := by kernel_rfl
theorem sz186 : (Tryz.prog.info? 186).map (·.size) = some 1 := by kernel_rfl
theorem by186 : (Tryz.prog.info? 186).map (·.bytes) = some 8 := by kernel_rfl
theorem zr186 : (Tryz.prog.info? 186).bind (·.zero) = some (.nilFunc) := by kernel_rfl
theorem sz187 : (Tryz.prog.info? 187).map (·.size) = some 1 := by kernel_rfl
theorem by187 : (Tryz.prog.info? 187).map (·.bytes) = some 2 := by kernel_rfl
theorem zr187 : (Tryz.prog.info? 187).bind (·.zero) = some (.int .u16 0) := by kernel_rfl
theorem sz188 : (Tryz.prog.info? 188).map (·.size) = some 5 := by kernel_rfl
theorem by188 : (Tryz.prog.info? 188).map (·.bytes) = some 16 := by kernel_rfl
theorem zr188 : (Tryz.prog.info? 188).bind (·.zero) = some (.agg ⟨[.int .i32 0, .int .u16 0, .int .u16 0, .int .u32 0, .int .u32 0]⟩) := by kernel_rfl
theorem sz189 : (Tryz.prog.info? 189).map (·.size) = some 5 := by kernel_rfl
theorem by189 : (Tryz.prog.info? 189).map (·.bytes) = some 16 := by kernel_rfl
theorem zr189 : (Tryz.prog.info? 189).bind (·.zero) = some (.agg ⟨[.int .i32 0, .int .u16 0, .int .u16 0, .int .u32 0, .int .u32 0]⟩) := by kernel_rfl
theorem sz190 : (Tryz.prog.info? 190).map (·.size) = some 1 := by kernel_rfl
theorem by190 : (Tryz.prog.info? 190).map (·.bytes) = some 24 := by kernel_rfl
theorem zr190 : (Tryz.prog.info? 190).bind (·.zero) = some (.slice none 0 0) := by kernel_rfl
theorem sz191 : (Tryz.prog.info? 191).map (·.size) = some 1 := by kernel_rfl
theorem by191 : (Tryz.prog.info? 191).map (·.bytes) = some 4 := by kernel_rfl
theorem zr191 : (Tryz.prog.info? 191).bind (·.zero) = some (.int .i32 0) := by kernel_rfl
theorem sz192 : (Tryz.prog.info? 192).map (·.size) = some 4 := by kernel_rfl
theorem by192 : (Tryz.prog.info? 192).map (·.bytes) = some 16 := by kernel_rfl
theorem zr192 : (Tryz.prog.info? 192).bind (·.zero) = some (.agg ⟨[.int .i32 0, .int .i32 0, .int .i32 0, .int .i32 0]⟩) := by kernel_rfl
theorem sz193 : (Tryz.prog.info? 193).map (·.size) = some 4 := by kernel_rfl
theorem by193 : (Tryz.prog.info? 193).map (·.bytes) = some 16 := by kernel_rfl
theorem zr193 : (Tryz.prog.info? 193).bind (·.zero) = some (.agg ⟨[.int .i32 0, .int .i32 0, .int .i32 0, .int .i32 0]⟩) := by kernel_rfl
theorem sz194 : (Tryz.prog.info? 194).map (·.size) = some 1 := by kernel_rfl
theorem by194 : (Tryz.prog.info? 194).map (·.bytes) = some 8 := by kernel_rfl
theorem zr194 : (Tryz.prog.info? 194).bind (·.zero) = some (.pointer none) := by kernel_rfl
end Go.Proofs.YtkolfgmpmnelmabGreatDoor
