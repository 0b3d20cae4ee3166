/-
  Written by program (mkvt.py): of each type, its number of cells, and its zero value.
-/
import Derived.Test.YtkolfgmpmnelmabDoorProg
import Derived.KernelRfl
namespace Go.Proofs.YtkolfgmpmnelmabDoor
open Go Go.Proofs
theorem mixed : Tryd.prog.follows .mixedOrders = true := by kernel_rfl
theorem sz0 : (Tryd.prog.info? 0).map (·.size) = some 1 := by kernel_rfl
theorem by0 : (Tryd.prog.info? 0).map (·.bytes) = some 0 := by kernel_rfl
theorem zr0 : (Tryd.prog.info? 0).bind (·.zero) = some (.tuple ⟨[]⟩) := by kernel_rfl
theorem sz1 : (Tryd.prog.info? 1).map (·.size) = some 1 := by kernel_rfl
theorem by1 : (Tryd.prog.info? 1).map (·.bytes) = some 8 := by kernel_rfl
theorem zr1 : (Tryd.prog.info? 1).bind (·.zero) = some (.nilFunc) := by kernel_rfl
theorem sz2 : (Tryd.prog.info? 2).map (·.size) = some 1 := by kernel_rfl
theorem by2 : (Tryd.prog.info? 2).map (·.bytes) = some 8 := by kernel_rfl
theorem zr2 : (Tryd.prog.info? 2).bind (·.zero) = some (.int .i64 0) := by kernel_rfl
theorem sz3 : (Tryd.prog.info? 3).map (·.size) = some 1 := by kernel_rfl
theorem by3 : (Tryd.prog.info? 3).map (·.bytes) = some 8 := by kernel_rfl
theorem zr3 : (Tryd.prog.info? 3).bind (·.zero) = some (.int .i64 0) := by kernel_rfl
theorem sz4 : (Tryd.prog.info? 4).map (·.size) = some 1 := by kernel_rfl
theorem by4 : (Tryd.prog.info? 4).map (·.bytes) = some 1 := by kernel_rfl
theorem zr4 : (Tryd.prog.info? 4).bind (·.zero) = some (.bool false) := by kernel_rfl
theorem sz5 : (Tryd.prog.info? 5).map (·.size) = some 1 := by kernel_rfl
theorem by5 : (Tryd.prog.info? 5).map (·.bytes) = some 1 := by kernel_rfl
theorem zr5 : (Tryd.prog.info? 5).bind (·.zero) = some (.int .u8 0) := by kernel_rfl
theorem sz6 : (Tryd.prog.info? 6).map (·.size) = some 1 := by kernel_rfl
theorem by6 : (Tryd.prog.info? 6).map (·.bytes) = some 1 := by kernel_rfl
theorem zr6 : (Tryd.prog.info? 6).bind (·.zero) = some (.int .u8 0) := by kernel_rfl
theorem sz7 : (Tryd.prog.info? 7).map (·.size) = some 4 := by kernel_rfl
theorem by7 : (Tryd.prog.info? 7).map (·.bytes) = some 24 := by kernel_rfl
theorem zr7 : (Tryd.prog.info? 7).bind (·.zero) = some (.agg ⟨[.int .i64 0, .int .i64 0, .bool false, .int .u8 0]⟩) := by kernel_rfl
theorem sz8 : (Tryd.prog.info? 8).map (·.size) = some 4 := by kernel_rfl
theorem by8 : (Tryd.prog.info? 8).map (·.bytes) = some 24 := by kernel_rfl
theorem zr8 : (Tryd.prog.info? 8).bind (·.zero) = some (.agg ⟨[.int .i64 0, .int .i64 0, .bool false, .int .u8 0]⟩) := by kernel_rfl
theorem sz9 : (Tryd.prog.info? 9).map (·.size) = some 1 := by kernel_rfl
theorem by9 : (Tryd.prog.info? 9).map (·.bytes) = some 16 := by kernel_rfl
theorem zr9 : (Tryd.prog.info? 9).bind (·.zero) = some (.string ⟨⟨[]⟩⟩) := by kernel_rfl
theorem sz10 : (Tryd.prog.info? 10).map (·.size) = some 1 := by kernel_rfl
theorem by10 : (Tryd.prog.info? 10).map (·.bytes) = some 16 := by kernel_rfl
theorem zr10 : (Tryd.prog.info? 10).bind (·.zero) = some (.string ⟨⟨[]⟩⟩) := by kernel_rfl
theorem sz11 : (Tryd.prog.info? 11).map (·.size) = some 1 := by kernel_rfl
theorem by11 : (Tryd.prog.info? 11).map (·.bytes) = some 16 := by kernel_rfl
theorem zr11 : (Tryd.prog.info? 11).bind (·.zero) = some (.string ⟨⟨[]⟩⟩) := by kernel_rfl
theorem sz12 : (Tryd.prog.info? 12).map (·.size) = some 1 := by kernel_rfl
theorem by12 : (Tryd.prog.info? 12).map (·.bytes) = some 8 := by kernel_rfl
theorem zr12 : (Tryd.prog.info? 12).bind (·.zero) = some (.int .u64 0) := by kernel_rfl
theorem sz13 : (Tryd.prog.info? 13).map (·.size) = some 2 := by kernel_rfl
theorem by13 : (Tryd.prog.info? 13).map (·.bytes) = some 24 := by kernel_rfl
theorem zr13 : (Tryd.prog.info? 13).bind (·.zero) = some (.agg ⟨[.string ⟨⟨[]⟩⟩, .int .u64 0]⟩) := by kernel_rfl
theorem sz14 : (Tryd.prog.info? 14).map (·.size) = some 2 := by kernel_rfl
theorem by14 : (Tryd.prog.info? 14).map (·.bytes) = some 24 := by kernel_rfl
theorem zr14 : (Tryd.prog.info? 14).bind (·.zero) = some (.agg ⟨[.string ⟨⟨[]⟩⟩, .int .u64 0]⟩) := by kernel_rfl
theorem sz15 : (Tryd.prog.info? 15).map (·.size) = some 1 := by kernel_rfl
theorem by15 : (Tryd.prog.info? 15).map (·.bytes) = some 8 := by kernel_rfl
theorem zr15 : (Tryd.prog.info? 15).bind (·.zero) = some (.pointer none) := by kernel_rfl
theorem sz16 : (Tryd.prog.info? 16).map (·.size) = some 1 := by kernel_rfl
theorem by16 : (Tryd.prog.info? 16).map (·.bytes) = some 8 := by kernel_rfl
theorem zr16 : (Tryd.prog.info? 16).bind (·.zero) = some (.pointer none) := by kernel_rfl
theorem sz17 : (Tryd.prog.info? 17).map (·.size) = some 1 := by kernel_rfl
theorem by17 : (Tryd.prog.info? 17).map (·.bytes) = some 8 := by kernel_rfl
theorem zr17 : (Tryd.prog.info? 17).bind (·.zero) = some (.pointer none) := by kernel_rfl
theorem sz18 : (Tryd.prog.info? 18).map (·.size) = some 1 := by kernel_rfl
theorem by18 : (Tryd.prog.info? 18).map (·.bytes) = some 8 := by kernel_rfl
theorem zr18 : (Tryd.prog.info? 18).bind (·.zero) = some (.agg ⟨[.pointer none]⟩) := by kernel_rfl
theorem sz19 : (Tryd.prog.info? 19).map (·.size) = some 1 := by kernel_rfl
theorem by19 : (Tryd.prog.info? 19).map (·.bytes) = some 8 := by kernel_rfl
theorem zr19 : (Tryd.prog.info? 19).bind (·.zero) = some (.agg ⟨[.pointer none]⟩) := by kernel_rfl
theorem sz20 : (Tryd.prog.info? 20).map (·.size) = some 1 := by kernel_rfl
theorem by20 : (Tryd.prog.info? 20).map (·.bytes) = some 16 := by kernel_rfl
theorem zr20 : (Tryd.prog.info? 20).bind (·.zero) = some (.nilIface) := by kernel_rfl
theorem sz21 : (Tryd.prog.info? 21).map (·.size) = some 1 := by kernel_rfl
theorem by21 : (Tryd.prog.info? 21).map (·.bytes) = some 4 := by kernel_rfl
theorem zr21 : (Tryd.prog.info? 21).bind (·.zero) = some (.int .i32 0) := by kernel_rfl
theorem sz22 : (Tryd.prog.info? 22).map (·.size) = some 1 := by kernel_rfl
theorem by22 : (Tryd.prog.info? 22).map (·.bytes) = some 24 := by kernel_rfl
theorem zr22 : (Tryd.prog.info? 22).bind (·.zero) = some (.slice none 0 0) := by kernel_rfl
theorem sz23 : (Tryd.prog.info? 23).map (·.size) = some 1 := by kernel_rfl
theorem by23 : (Tryd.prog.info? 23).map (·.bytes) = some 24 := by kernel_rfl
theorem zr23 : (Tryd.prog.info? 23).bind (·.zero) = some (.slice none 0 0) := by kernel_rfl
theorem sz24 : (Tryd.prog.info? 24).map (·.size) = some 1 := by kernel_rfl
theorem by24 : (Tryd.prog.info? 24).map (·.bytes) = some 8 := by kernel_rfl
theorem zr24 : (Tryd.prog.info? 24).bind (·.zero) = some (.nilFunc) := by kernel_rfl
theorem sz25 : (Tryd.prog.info? 25).map (·.size) = some 1 := by kernel_rfl
theorem by25 : (Tryd.prog.info? 25).map (·.bytes) = some 8 := by kernel_rfl
theorem zr25 : (Tryd.prog.info? 25).bind (·.zero) = some (.nilFunc) := by kernel_rfl
theorem sz26 : (Tryd.prog.info? 26).map (·.size) = some 1 := by kernel_rfl
theorem by26 : (Tryd.prog.info? 26).map (·.bytes) = some 8 := by kernel_rfl
theorem zr26 : (Tryd.prog.info? 26).bind (·.zero) = some (.nilFunc) := by kernel_rfl
theorem sz27 : (Tryd.prog.info? 27).map (·.size) = some 1 := by kernel_rfl
theorem by27 : (Tryd.prog.info? 27).map (·.bytes) = some 8 := by kernel_rfl
theorem zr27 : (Tryd.prog.info? 27).bind (·.zero) = some (.pointer none) := by kernel_rfl
theorem sz28 : (Tryd.prog.info? 28).map (·.size) = some 1 := by kernel_rfl
theorem by28 : (Tryd.prog.info? 28).map (·.bytes) = some 8 := by kernel_rfl
theorem zr28 : (Tryd.prog.info? 28).bind (·.zero) = some (.nilFunc) := by kernel_rfl
theorem sz29 : (Tryd.prog.info? 29).map (·.size) = some 8 := by kernel_rfl
theorem by29 : (Tryd.prog.info? 29).map (·.bytes) = some 192 := by kernel_rfl
theorem zr29 : (Tryd.prog.info? 29).bind (·.zero) = some (.agg ⟨[.slice none 0 0, .slice none 0 0, .slice none 0 0, .slice none 0 0, .slice none 0 0, .slice none 0 0, .slice none 0 0, .slice none 0 0]⟩) := by kernel_rfl
theorem sz30 : (Tryd.prog.info? 30).map (·.size) = some 1 := by kernel_rfl
theorem by30 : (Tryd.prog.info? 30).map (·.bytes) = some 8 := by kernel_rfl
theorem zr30 : (Tryd.prog.info? 30).bind (·.zero) = some (.nilFunc) := by kernel_rfl
theorem sz31 : (Tryd.prog.info? 31).map (·.size) = some 1 := by kernel_rfl
theorem by31 : (Tryd.prog.info? 31).map (·.bytes) = some 16 := by kernel_rfl
theorem zr31 : (Tryd.prog.info? 31).bind (·.zero) = some (.nilIface) := by kernel_rfl
theorem sz32 : (Tryd.prog.info? 32).map (·.size) = some 1 := by kernel_rfl
theorem by32 : (Tryd.prog.info? 32).map (·.bytes) = some 16 := by kernel_rfl
theorem zr32 : (Tryd.prog.info? 32).bind (·.zero) = some (.nilIface) := by kernel_rfl
theorem sz33 : (Tryd.prog.info? 33).map (·.size) = some 1 := by kernel_rfl
theorem by33 : (Tryd.prog.info? 33).map (·.bytes) = some 0 := by kernel_rfl
theorem zr33 : (Tryd.prog.info? 33).bind (·.zero) = some (.tuple ⟨[.int .i64 0, .nilIface]⟩) := by kernel_rfl
theorem sz34 : (Tryd.prog.info? 34).map (·.size) = some 1 := by kernel_rfl
theorem by34 : (Tryd.prog.info? 34).map (·.bytes) = some 8 := by kernel_rfl
theorem zr34 : (Tryd.prog.info? 34).bind (·.zero) = some (.nilFunc) := by kernel_rfl
theorem sz35 : (Tryd.prog.info? 35).map (·.size) = some 1 := by kernel_rfl
theorem by35 : (Tryd.prog.info? 35).map (·.bytes) = some 8 := by kernel_rfl
theorem zr35 : (Tryd.prog.info? 35).bind (·.zero) = some (.int .i64 0) := by kernel_rfl
theorem sz36 : (Tryd.prog.info? 36).map (·.size) = some 1 := by kernel_rfl
theorem by36 : (Tryd.prog.info? 36).map (·.bytes) = some 8 := by kernel_rfl
theorem zr36 : (Tryd.prog.info? 36).bind (·.zero) = some (.nilFunc) := by kernel_rfl
theorem sz37 : (Tryd.prog.info? 37).map (·.size) = some 1 := by kernel_rfl
theorem by37 : (Tryd.prog.info? 37).map (·.bytes) = some 8 := by kernel_rfl
theorem zr37 : (Tryd.prog.info? 37).bind (·.zero) = some (.nilFunc) := by kernel_rfl
theorem sz38 : (Tryd.prog.info? 38).map (·.size) = some 1 := by kernel_rfl
theorem by38 : (Tryd.prog.info? 38).map (·.bytes) = some 8 := by kernel_rfl
theorem zr38 : (Tryd.prog.info? 38).bind (·.zero) = some (.nilFunc) := by kernel_rfl
theorem sz39 : (Tryd.prog.info? 39).map (·.size) = some 1 := by kernel_rfl
theorem by39 : (Tryd.prog.info? 39).map (·.bytes) = some 0 := by kernel_rfl
theorem zr39 : (Tryd.prog.info? 39).bind (·.zero) = some (.tuple ⟨[.string ⟨⟨[]⟩⟩, .nilIface]⟩) := by kernel_rfl
theorem sz40 : (Tryd.prog.info? 40).map (·.size) = some 1 := by kernel_rfl
theorem by40 : (Tryd.prog.info? 40).map (·.bytes) = some 8 := by kernel_rfl
theorem zr40 : (Tryd.prog.info? 40).bind (·.zero) = some (.nilFunc) := by kernel_rfl
theorem sz41 : (Tryd.prog.info? 41).map (·.size) = some 1 := by kernel_rfl
theorem by41 : (Tryd.prog.info? 41).map (·.bytes) = some 8 := by kernel_rfl
theorem zr41 : (Tryd.prog.info? 41).bind (·.zero) = some (.nilFunc) := by kernel_rfl
theorem sz42 : (Tryd.prog.info? 42).map (·.size) = some 1 := by kernel_rfl
theorem by42 : (Tryd.prog.info? 42).map (·.bytes) = some 8 := by kernel_rfl
theorem zr42 : (Tryd.prog.info? 42).bind (·.zero) = some (.nilFunc) := by kernel_rfl
theorem sz43 : (Tryd.prog.info? 43).map (·.size) = some 1 := by kernel_rfl
theorem by43 : (Tryd.prog.info? 43).map (·.bytes) = some 0 := by kernel_rfl
theorem zr43 : (Tryd.prog.info? 43).bind (·.zero) = some (.tuple ⟨[.string ⟨⟨[]⟩⟩, .string ⟨⟨[]⟩⟩, .nilIface]⟩) := by kernel_rfl
theorem sz44 : (Tryd.prog.info? 44).map (·.size) = some 1 := by kernel_rfl
theorem by44 : (Tryd.prog.info? 44).map (·.bytes) = some 8 := by kernel_rfl
theorem zr44 : (Tryd.prog.info? 44).bind (·.zero) = some (.nilFunc) := by kernel_rfl
theorem sz45 : (Tryd.prog.info? 45).map (·.size) = some 1 := by kernel_rfl
theorem by45 : (Tryd.prog.info? 45).map (·.bytes) = some 8 := by kernel_rfl
theorem zr45 : (Tryd.prog.info? 45).bind (·.zero) = some (.nilFunc) := by kernel_rfl
theorem sz46 : (Tryd.prog.info? 46).map (·.size) = some 1 := by kernel_rfl
theorem by46 : (Tryd.prog.info? 46).map (·.bytes) = some 8 := by kernel_rfl
theorem zr46 : (Tryd.prog.info? 46).bind (·.zero) = some (.nilFunc) := by kernel_rfl
theorem sz47 : (Tryd.prog.info? 47).map (·.size) = some 1 := by kernel_rfl
theorem by47 : (Tryd.prog.info? 47).map (·.bytes) = some 8 := by kernel_rfl
theorem zr47 : (Tryd.prog.info? 47).bind (·.zero) = some (.nilFunc) := by kernel_rfl
theorem sz48 : (Tryd.prog.info? 48).map (·.size) = some 1 := by kernel_rfl
theorem by48 : (Tryd.prog.info? 48).map (·.bytes) = some 8 := by kernel_rfl
theorem zr48 : (Tryd.prog.info? 48).bind (·.zero) = some (.pointer none) := by kernel_rfl
theorem sz49 : (Tryd.prog.info? 49).map (·.size) = some 1 := by kernel_rfl
theorem by49 : (Tryd.prog.info? 49).map (·.bytes) = some 8 := by kernel_rfl
theorem zr49 : (Tryd.prog.info? 49).bind (·.zero) = some (.nilFunc) := by kernel_rfl
theorem sz50 : (Tryd.prog.info? 50).map (·.size) = some 1 := by kernel_rfl
theorem by50 : (Tryd.prog.info? 50).map (·.bytes) = some 0 := by kernel_rfl
theorem zr50 : (Tryd.prog.info? 50).bind (·.zero) = some (.tuple ⟨[.string ⟨⟨[]⟩⟩, .int .i64 0]⟩) := by kernel_rfl
theorem sz51 : (Tryd.prog.info? 51).map (·.size) = some 1 := by kernel_rfl
theorem by51 : (Tryd.prog.info? 51).map (·.bytes) = some 8 := by kernel_rfl
theorem zr51 : (Tryd.prog.info? 51).bind (·.zero) = some (.nilFunc) := by kernel_rfl
theorem sz52 : (Tryd.prog.info? 52).map (·.size) = some 1 := by kernel_rfl
theorem by52 : (Tryd.prog.info? 52).map (·.bytes) = some 8 := by kernel_rfl
theorem zr52 : (Tryd.prog.info? 52).bind (·.zero) = some (.nilFunc) := by kernel_rfl
theorem sz53 : (Tryd.prog.info? 53).map (·.size) = some 1 := by kernel_rfl
theorem by53 : (Tryd.prog.info? 53).map (·.bytes) = some 0 := by kernel_rfl
theorem zr53 : (Tryd.prog.info? 53).bind (·.zero) = some (.tuple ⟨[.string ⟨⟨[]⟩⟩, .string ⟨⟨[]⟩⟩, .int .i64 0]⟩) := by kernel_rfl
theorem sz54 : (Tryd.prog.info? 54).map (·.size) = some 1 := by kernel_rfl
theorem by54 : (Tryd.prog.info? 54).map (·.bytes) = some 8 := by kernel_rfl
theorem zr54 : (Tryd.prog.info? 54).bind (·.zero) = some (.nilFunc) := by kernel_rfl
theorem sz55 : (Tryd.prog.info? 55).map (·.size) = some 1 := by kernel_rfl
theorem by55 : (Tryd.prog.info? 55).map (·.bytes) = some 8 := by kernel_rfl
theorem zr55 : (Tryd.prog.info? 55).bind (·.zero) = some (.nilFunc) := by kernel_rfl
theorem sz56 : (Tryd.prog.info? 56).map (·.size) = some 1 := by kernel_rfl
theorem by56 : (Tryd.prog.info? 56).map (·.bytes) = some 24 := by kernel_rfl
theorem zr56 : (Tryd.prog.info? 56).bind (·.zero) = some (.slice none 0 0) := by kernel_rfl
theorem sz57 : (Tryd.prog.info? 57).map (·.size) = some 2 := by kernel_rfl
theorem by57 : (Tryd.prog.info? 57).map (·.bytes) = some 32 := by kernel_rfl
theorem zr57 : (Tryd.prog.info? 57).bind (·.zero) = some (.agg ⟨[.string ⟨⟨[]⟩⟩, .string ⟨⟨[]⟩⟩]⟩) := by kernel_rfl
theorem sz58 : (Tryd.prog.info? 58).map (·.size) = some 10 := by kernel_rfl
theorem by58 : (Tryd.prog.info? 58).map (·.bytes) = some 224 := by kernel_rfl
theorem zr58 : (Tryd.prog.info? 58).bind (·.zero) = some (.agg ⟨[.slice none 0 0, .slice none 0 0, .slice none 0 0, .slice none 0 0, .slice none 0 0, .slice none 0 0, .slice none 0 0, .slice none 0 0, .string ⟨⟨[]⟩⟩, .string ⟨⟨[]⟩⟩]⟩) := by kernel_rfl
theorem sz59 : (Tryd.prog.info? 59).map (·.size) = some 10 := by kernel_rfl
theorem by59 : (Tryd.prog.info? 59).map (·.bytes) = some 224 := by kernel_rfl
theorem zr59 : (Tryd.prog.info? 59).bind (·.zero) = some (.agg ⟨[.slice none 0 0, .slice none 0 0, .slice none 0 0, .slice none 0 0, .slice none 0 0, .slice none 0 0, .slice none 0 0, .slice none 0 0, .string ⟨⟨[]⟩⟩, .string ⟨⟨[]⟩⟩]⟩) := by kernel_rfl
theorem sz60 : (Tryd.prog.info? 60).map (·.size) = some 1 := by kernel_rfl
theorem by60 : (Tryd.prog.info? 60).map (·.bytes) = some 8 := by kernel_rfl
theorem zr60 : (Tryd.prog.info? 60).bind (·.zero) = some (.nilFunc) := by kernel_rfl
theorem sz61 : (Tryd.prog.info? 61).map (·.size) = some 1 := by kernel_rfl
theorem by61 : (Tryd.prog.info? 61).map (·.bytes) = some 8 := by kernel_rfl
theorem zr61 : (Tryd.prog.info? 61).bind (·.zero) = some (.pointer none) := by kernel_rfl
theorem sz62 : (Tryd.prog.info? 62).map (·.size) = some 1 := by kernel_rfl
theorem by62 : (Tryd.prog.info? 62).map (·.bytes) = some 8 := by kernel_rfl
theorem zr62 : (Tryd.prog.info? 62).bind (·.zero) = some (.nilFunc) := by kernel_rfl
theorem sz63 : (Tryd.prog.info? 63).map (·.size) = some 1 := by kernel_rfl
theorem by63 : (Tryd.prog.info? 63).map (·.bytes) = some 24 := by kernel_rfl
theorem zr63 : (Tryd.prog.info? 63).bind (·.zero) = some (.slice none 0 0) := by kernel_rfl
theorem sz64 : (Tryd.prog.info? 64).map (·.size) = some 5 := by kernel_rfl
theorem by64 : (Tryd.prog.info? 64).map (·.bytes) = some 80 := by kernel_rfl
theorem zr64 : (Tryd.prog.info? 64).bind (·.zero) = some (.agg ⟨[.int .i64 0, .int .i64 0, .string ⟨⟨[]⟩⟩, .slice none 0 0, .slice none 0 0]⟩) := by kernel_rfl
theorem sz65 : (Tryd.prog.info? 65).map (·.size) = some 5 := by kernel_rfl
theorem by65 : (Tryd.prog.info? 65).map (·.bytes) = some 80 := by kernel_rfl
theorem zr65 : (Tryd.prog.info? 65).bind (·.zero) = some (.agg ⟨[.int .i64 0, .int .i64 0, .string ⟨⟨[]⟩⟩, .slice none 0 0, .slice none 0 0]⟩) := by kernel_rfl
theorem sz66 : (Tryd.prog.info? 66).map (·.size) = some 1 := by kernel_rfl
theorem by66 : (Tryd.prog.info? 66).map (·.bytes) = some 0 := by kernel_rfl
theorem zr66 : (Tryd.prog.info? 66).bind (·.zero) = some (.tuple ⟨[.int .i64 0, .int .i64 0]⟩) := by kernel_rfl
theorem sz67 : (Tryd.prog.info? 67).map (·.size) = some 1 := by kernel_rfl
theorem by67 : (Tryd.prog.info? 67).map (·.bytes) = some 8 := by kernel_rfl
theorem zr67 : (Tryd.prog.info? 67).bind (·.zero) = some (.nilFunc) := by kernel_rfl
theorem sz68 : (Tryd.prog.info? 68).map (·.size) = some 1 := by kernel_rfl
theorem by68 : (Tryd.prog.info? 68).map (·.bytes) = some 8 := by kernel_rfl
theorem zr68 : (Tryd.prog.info? 68).bind (·.zero) = some (.nilFunc) := by kernel_rfl
theorem sz69 : (Tryd.prog.info? 69).map (·.size) = some 1 := by kernel_rfl
theorem by69 : (Tryd.prog.info? 69).map (·.bytes) = some 8 := by kernel_rfl
theorem zr69 : (Tryd.prog.info? 69).bind (·.zero) = some (.nilFunc) := by kernel_rfl
theorem sz70 : (Tryd.prog.info? 70).map (·.size) = some 1 := by kernel_rfl
theorem by70 : (Tryd.prog.info? 70).map (·.bytes) = some 8 := by kernel_rfl
theorem zr70 : (Tryd.prog.info? 70).bind (·.zero) = some (.nilFunc) := by kernel_rfl
theorem sz71 : (Tryd.prog.info? 71).map (·.size) = some 1 := by kernel_rfl
theorem by71 : (Tryd.prog.info? 71).map (·.bytes) = some 8 := by kernel_rfl
theorem zr71 : (Tryd.prog.info? 71).bind (·.zero) = some (.nilFunc) := by kernel_rfl
theorem sz72 : (Tryd.prog.info? 72).map (·.size) = some 1 := by kernel_rfl
theorem by72 : (Tryd.prog.info? 72).map (·.bytes) = some 8 := by kernel_rfl
theorem zr72 : (Tryd.prog.info? 72).bind (·.zero) = some (.nilFunc) := by kernel_rfl
theorem sz73 : (Tryd.prog.info? 73).map (·.size) = some 1 := by kernel_rfl
theorem by73 : (Tryd.prog.info? 73).map (·.bytes) = some 8 := by kernel_rfl
theorem zr73 : (Tryd.prog.info? 73).bind (·.zero) = some (.nilFunc) := by kernel_rfl
theorem sz74 : (Tryd.prog.info? 74).map (·.size) = some 1 := by kernel_rfl
theorem by74 : (Tryd.prog.info? 74).map (·.bytes) = some 8 := by kernel_rfl
theorem zr74 : (Tryd.prog.info? 74).bind (·.zero) = some (.nilFunc) := by kernel_rfl
theorem sz75 : (Tryd.prog.info? 75).map (·.size) = some 1 := by kernel_rfl
theorem by75 : (Tryd.prog.info? 75).map (·.bytes) = some 8 := by kernel_rfl
theorem zr75 : (Tryd.prog.info? 75).bind (·.zero) = some (.nilFunc) := by kernel_rfl
theorem sz76 : (Tryd.prog.info? 76).map (·.size) = some 1 := by kernel_rfl
theorem by76 : (Tryd.prog.info? 76).map (·.bytes) = some 8 := by kernel_rfl
theorem zr76 : (Tryd.prog.info? 76).bind (·.zero) = some (.nilFunc) := by kernel_rfl
theorem sz77 : (Tryd.prog.info? 77).map (·.size) = some 1 := by kernel_rfl
theorem by77 : (Tryd.prog.info? 77).map (·.bytes) = some 8 := by kernel_rfl
theorem zr77 : (Tryd.prog.info? 77).bind (·.zero) = some (.nilFunc) := by kernel_rfl
theorem sz78 : (Tryd.prog.info? 78).map (·.size) = some 1 := by kernel_rfl
theorem by78 : (Tryd.prog.info? 78).map (·.bytes) = some 8 := by kernel_rfl
theorem zr78 : (Tryd.prog.info? 78).bind (·.zero) = some (.nilFunc) := by kernel_rfl
theorem sz79 : (Tryd.prog.info? 79).map (·.size) = some 1 := by kernel_rfl
theorem by79 : (Tryd.prog.info? 79).map (·.bytes) = some 8 := by kernel_rfl
theorem zr79 : (Tryd.prog.info? 79).bind (·.zero) = some (.nilFunc) := by kernel_rfl
theorem sz80 : (Tryd.prog.info? 80).map (·.size) = some 1 := by kernel_rfl
theorem by80 : (Tryd.prog.info? 80).map (·.bytes) = some 8 := by kernel_rfl
theorem zr80 : (Tryd.prog.info? 80).bind (·.zero) = some (.nilFunc) := by kernel_rfl
theorem sz81 : (Tryd.prog.info? 81).map (·.size) = some 1 := by kernel_rfl
theorem by81 : (Tryd.prog.info? 81).map (·.bytes) = some 8 := by kernel_rfl
theorem zr81 : (Tryd.prog.info? 81).bind (·.zero) = some (.nilFunc) := by kernel_rfl
theorem sz82 : (Tryd.prog.info? 82).map (·.size) = some 1 := by kernel_rfl
theorem by82 : (Tryd.prog.info? 82).map (·.bytes) = some 8 := by kernel_rfl
theorem zr82 : (Tryd.prog.info? 82).bind (·.zero) = some (.nilFunc) := by kernel_rfl
theorem sz83 : (Tryd.prog.info? 83).map (·.size) = some 1 := by kernel_rfl
theorem by83 : (Tryd.prog.info? 83).map (·.bytes) = some 8 := by kernel_rfl
theorem zr83 : (Tryd.prog.info? 83).bind (·.zero) = some (.nilFunc) := by kernel_rfl
theorem sz84 : (Tryd.prog.info? 84).map (·.size) = some 1 := by kernel_rfl
theorem by84 : (Tryd.prog.info? 84).map (·.bytes) = some 8 := by kernel_rfl
theorem zr84 : (Tryd.prog.info? 84).bind (·.zero) = some (.nilFunc) := by kernel_rfl
theorem sz85 : (Tryd.prog.info? 85).map (·.size) = some 1 := by kernel_rfl
theorem by85 : (Tryd.prog.info? 85).map (·.bytes) = some 8 := by kernel_rfl
theorem zr85 : (Tryd.prog.info? 85).bind (·.zero) = some (.nilFunc) := by kernel_rfl
theorem sz86 : (Tryd.prog.info? 86).map (·.size) = some 1 := by kernel_rfl
theorem by86 : (Tryd.prog.info? 86).map (·.bytes) = some 8 := by kernel_rfl
theorem zr86 : (Tryd.prog.info? 86).bind (·.zero) = some (.nilFunc) := by kernel_rfl
theorem sz87 : (Tryd.prog.info? 87).map (·.size) = some 1 := by kernel_rfl
theorem by87 : (Tryd.prog.info? 87).map (·.bytes) = some 24 := by kernel_rfl
theorem zr87 : (Tryd.prog.info? 87).bind (·.zero) = some (.slice none 0 0) := by kernel_rfl
theorem sz88 : (Tryd.prog.info? 88).map (·.size) = some 1 := by kernel_rfl
theorem by88 : (Tryd.prog.info? 88).map (·.bytes) = some 8 := by kernel_rfl
theorem zr88 : (Tryd.prog.info? 88).bind (·.zero) = some (.nilFunc) := by kernel_rfl
theorem sz89 : (Tryd.prog.info? 89).map (·.size) = some 1 := by kernel_rfl
theorem by89 : (Tryd.prog.info? 89).map (·.bytes) = some 0 := by kernel_rfl
theorem zr89 : (Tryd.prog.info? 89).bind (·.zero) = some (.tuple ⟨[.slice none 0 0, .nilIface]⟩) := by kernel_rfl
theorem sz90 : (Tryd.prog.info? 90).map (·.size) = some 1 := by kernel_rfl
theorem by90 : (Tryd.prog.info? 90).map (·.bytes) = some 8 := by kernel_rfl
theorem zr90 : (Tryd.prog.info? 90).bind (·.zero) = some (.nilFunc) := by kernel_rfl
theorem sz91 : (Tryd.prog.info? 91).map (·.size) = some 1 := by kernel_rfl
theorem by91 : (Tryd.prog.info? 91).map (·.bytes) = some 8 := by kernel_rfl
theorem zr91 : (Tryd.prog.info? 91).bind (·.zero) = some (.nilFunc) := by kernel_rfl
theorem sz92 : (Tryd.prog.info? 92).map (·.size) = some 1 := by kernel_rfl
theorem by92 : (Tryd.prog.info? 92).map (·.bytes) = some 8 := by kernel_rfl
theorem zr92 : (Tryd.prog.info? 92).bind (·.zero) = some (.nilFunc) := by kernel_rfl
theorem sz93 : (Tryd.prog.info? 93).map (·.size) = some 1 := by kernel_rfl
theorem by93 : (Tryd.prog.info? 93).map (·.bytes) = some 8 := by kernel_rfl
theorem zr93 : (Tryd.prog.info? 93).bind (·.zero) = some (.nilFunc) := by kernel_rfl
theorem sz94 : (Tryd.prog.info? 94).map (·.size) = some 1 := by kernel_rfl
theorem by94 : (Tryd.prog.info? 94).map (·.bytes) = some 8 := by kernel_rfl
theorem zr94 : (Tryd.prog.info? 94).bind (·.zero) = some (.nilFunc) := by kernel_rfl
theorem sz95 : (Tryd.prog.info? 95).map (·.size) = some 1 := by kernel_rfl
theorem by95 : (Tryd.prog.info? 95).map (·.bytes) = some 8 := by kernel_rfl
theorem zr95 : (Tryd.prog.info? 95).bind (·.zero) = some (.nilFunc) := by kernel_rfl
theorem sz96 : (Tryd.prog.info? 96).map (·.size) = some 3 := by kernel_rfl
theorem by96 : (Tryd.prog.info? 96).map (·.bytes) = some 48 := by kernel_rfl
theorem zr96 : (Tryd.prog.info? 96).bind (·.zero) = some (.agg ⟨[.string ⟨⟨[]⟩⟩, .int .i64 0, .slice none 0 0]⟩) := by kernel_rfl
theorem sz97 : (Tryd.prog.info? 97).map (·.size) = some 3 := by kernel_rfl
theorem by97 : (Tryd.prog.info? 97).map (·.bytes) = some 48 := by kernel_rfl
theorem zr97 : (Tryd.prog.info? 97).bind (·.zero) = some (.agg ⟨[.string ⟨⟨[]⟩⟩, .int .i64 0, .slice none 0 0]⟩) := by kernel_rfl
theorem sz98 : (Tryd.prog.info? 98).map (·.size) = some 1 := by kernel_rfl
theorem by98 : (Tryd.prog.info? 98).map (·.bytes) = some 8 := by kernel_rfl
theorem zr98 : (Tryd.prog.info? 98).bind (·.zero) = some (.nilFunc) := by kernel_rfl
theorem sz99 : (Tryd.prog.info? 99).map (·.size) = some 1 := by kernel_rfl
theorem by99 : (Tryd.prog.info? 99).map (·.bytes) = some 8 := by kernel_rfl
theorem zr99 : (Tryd.prog.info? 99).bind (·.zero) = some (.nilFunc) := by kernel_rfl
theorem sz100 : (Tryd.prog.info? 100).map (·.size) = some 1 := by kernel_rfl
theorem by100 : (Tryd.prog.info? 100).map (·.bytes) = some 8 := by kernel_rfl
theorem zr100 : (Tryd.prog.info? 100).bind (·.zero) = some (.nilFunc) := by kernel_rfl
theorem sz101 : (Tryd.prog.info? 101).map (·.size) = some 8 := by kernel_rfl
theorem by101 : (Tryd.prog.info? 101).map (·.bytes) = some 64 := by kernel_rfl
theorem zr101 : (Tryd.prog.info? 101).bind (·.zero) = some (.agg ⟨[.int .i64 0, .int .i64 0, .int .i64 0, .int .i64 0, .int .i64 0, .int .i64 0, .int .i64 0, .int .i64 0]⟩) := by kernel_rfl
theorem sz102 : (Tryd.prog.info? 102).map (·.size) = some 1 := by kernel_rfl
theorem by102 : (Tryd.prog.info? 102).map (·.bytes) = some 24 := by kernel_rfl
theorem zr102 : (Tryd.prog.info? 102).bind (·.zero) = some (.slice none 0 0) := by kernel_rfl
theorem sz103 : (Tryd.prog.info? 103).map (·.size) = some 20 := by kernel_rfl
theorem by103 : (Tryd.prog.info? 103).map (·.bytes) = some 320 := by kernel_rfl
theorem zr103 : (Tryd.prog.info? 103).bind (·.zero) = some (.agg ⟨[.slice none 0 0, .slice none 0 0, .slice none 0 0, .slice none 0 0, .slice none 0 0, .slice none 0 0, .slice none 0 0, .slice none 0 0, .int .i64 0, .int .i64 0, .int .i64 0, .int .i64 0, .int .i64 0, .int .i64 0, .int .i64 0, .int .i64 0, .string ⟨⟨[]⟩⟩, .string ⟨⟨[]⟩⟩, .slice none 0 0, .int .i64 0]⟩) := by kernel_rfl
theorem sz104 : (Tryd.prog.info? 104).map (·.size) = some 20 := by kernel_rfl
theorem by104 : (Tryd.prog.info? 104).map (·.bytes) = some 320 := by kernel_rfl
theorem zr104 : (Tryd.prog.info? 104).bind (·.zero) = some (.agg ⟨[.slice none 0 0, .slice none 0 0, .slice none 0 0, .slice none 0 0, .slice none 0 0, .slice none 0 0, .slice none 0 0, .slice none 0 0, .int .i64 0, .int .i64 0, .int .i64 0, .int .i64 0, .int .i64 0, .int .i64 0, .int .i64 0, .int .i64 0, .string ⟨⟨[]⟩⟩, .string ⟨⟨[]⟩⟩, .slice none 0 0, .int .i64 0]⟩) := by kernel_rfl
theorem sz105 : (Tryd.prog.info? 105).map (·.size) = some 1 := by kernel_rfl
theorem by105 : (Tryd.prog.info? 105).map (·.bytes) = some 8 := by kernel_rfl
theorem zr105 : (Tryd.prog.info? 105).bind (·.zero) = some (.int .u64 0) := by kernel_rfl
theorem sz106 : (Tryd.prog.info? 106).map (·.size) = some 1 := by kernel_rfl
theorem by106 : (Tryd.prog.info? 106).map (·.bytes) = some 8 := by kernel_rfl
theorem zr106 : (Tryd.prog.info? 106).bind (·.zero) = some (.nilFunc) := by kernel_rfl
theorem sz107 : (Tryd.prog.info? 107).map (·.size) = some 1 := by kernel_rfl
theorem by107 : (Tryd.prog.info? 107).map (·.bytes) = some 8 := by kernel_rfl
theorem zr107 : (Tryd.prog.info? 107).bind (·.zero) = some (.nilFunc) := by kernel_rfl
theorem sz108 : (Tryd.prog.info? 108).map (·.size) = some 1 := by kernel_rfl
theorem by108 : (Tryd.prog.info? 108).map (·.bytes) = some 8 := by kernel_rfl
theorem zr108 : (Tryd.prog.info? 108).bind (·.zero) = some (.pointer none) := by kernel_rfl
theorem sz109 : (Tryd.prog.info? 109).map (·.size) = some 1 := by kernel_rfl
theorem by109 : (Tryd.prog.info? 109).map (·.bytes) = some 0 := by kernel_rfl
theorem zr109 : (Tryd.prog.info? 109).bind (·.zero) = some (.tuple ⟨[.int .u64 0, .int .u64 0]⟩) := by kernel_rfl
theorem sz110 : (Tryd.prog.info? 110).map (·.size) = some 1 := by kernel_rfl
theorem by110 : (Tryd.prog.info? 110).map (·.bytes) = some 8 := by kernel_rfl
theorem zr110 : (Tryd.prog.info? 110).bind (·.zero) = some (.nilFunc) := by kernel_rfl
theorem sz111 : (Tryd.prog.info? 111).map (·.size) = some 1 := by kernel_rfl
theorem by111 : (Tryd.prog.info? 111).map (·.bytes) = some 8 := by kernel_rfl
theorem zr111 : (Tryd.prog.info? 111).bind (·.zero) = some (.nilFunc) := by kernel_rfl
theorem sz112 : (Tryd.prog.info? 112).map (·.size) = some 1 := by kernel_rfl
theorem by112 : (Tryd.prog.info? 112).map (·.bytes) = some 8 := by kernel_rfl
theorem zr112 : (Tryd.prog.info? 112).bind (·.zero) = some (.pointer none) := by kernel_rfl
theorem sz113 : (Tryd.prog.info? 113).map (·.size) = some 1 := by kernel_rfl
theorem by113 : (Tryd.prog.info? 113).map (·.bytes) = some 24 := by kernel_rfl
theorem zr113 : (Tryd.prog.info? 113).bind (·.zero) = some (.slice none 0 0) := by kernel_rfl
theorem sz114 : (Tryd.prog.info? 114).map (·.size) = some 2 := by kernel_rfl
theorem by114 : (Tryd.prog.info? 114).map (·.bytes) = some 32 := by kernel_rfl
theorem zr114 : (Tryd.prog.info? 114).bind (·.zero) = some (.agg ⟨[.pointer none, .slice none 0 0]⟩) := by kernel_rfl
theorem sz115 : (Tryd.prog.info? 115).map (·.size) = some 2 := by kernel_rfl
theorem by115 : (Tryd.prog.info? 115).map (·.bytes) = some 32 := by kernel_rfl
theorem zr115 : (Tryd.prog.info? 115).bind (·.zero) = some (.agg ⟨[.pointer none, .slice none 0 0]⟩) := by kernel_rfl
theorem sz116 : (Tryd.prog.info? 116).map (·.size) = some 1 := by kernel_rfl
theorem by116 : (Tryd.prog.info? 116).map (·.bytes) = some 8 := by kernel_rfl
theorem zr116 : (Tryd.prog.info? 116).bind (·.zero) = some (.nilFunc) := by kernel_rfl
theorem sz117 : (Tryd.prog.info? 117).map (·.size) = some 1 := by kernel_rfl
theorem by117 : (Tryd.prog.info? 117).map (·.bytes) = some 8 := by kernel_rfl
theorem zr117 : (Tryd.prog.info? 117).bind (·.zero) = some (.nilFunc) := by kernel_rfl
theorem sz118 : (Tryd.prog.info? 118).map (·.size) = some 1 := by kernel_rfl
theorem by118 : (Tryd.prog.info? 118).map (·.bytes) = some 8 := by kernel_rfl
theorem zr118 : (Tryd.prog.info? 118).bind (·.zero) = some (.nilFunc) := by kernel_rfl
theorem sz119 : (Tryd.prog.info? 119).map (·.size) = some 1 := by kernel_rfl
theorem by119 : (Tryd.prog.info? 119).map (·.bytes) = some 8 := by kernel_rfl
theorem zr119 : (Tryd.prog.info? 119).bind (·.zero) = some (.nilFunc) := by kernel_rfl
theorem sz120 : (Tryd.prog.info? 120).map (·.size) = some 1 := by kernel_rfl
theorem by120 : (Tryd.prog.info? 120).map (·.bytes) = some 8 := by kernel_rfl
theorem zr120 : (Tryd.prog.info? 120).bind (·.zero) = some (.nilFunc) := by kernel_rfl
theorem sz121 : (Tryd.prog.info? 121).map (·.size) = some 1 := by kernel_rfl
theorem by121 : (Tryd.prog.info? 121).map (·.bytes) = some 8 := by kernel_rfl
theorem zr121 : (Tryd.prog.info? 121).bind (·.zero) = some (.nilFunc) := by kernel_rfl
theorem sz122 : (Tryd.prog.info? 122).map (·.size) = some 1 := by kernel_rfl
theorem by122 : (Tryd.prog.info? 122).map (·.bytes) = some 8 := by kernel_rfl
theorem zr122 : (Tryd.prog.info? 122).bind (·.zero) = some (.int .u64 0) := by kernel_rfl
theorem sz123 : (Tryd.prog.info? 123).map (·.size) = some 1 := by kernel_rfl
theorem by123 : (Tryd.prog.info? 123).map (·.bytes) = some 4 := by kernel_rfl
theorem zr123 : (Tryd.prog.info? 123).bind (·.zero) = some (.int .u32 0) := by kernel_rfl
theorem sz124 : (Tryd.prog.info? 124).map (·.size) = some 8 := by kernel_rfl
theorem by124 : (Tryd.prog.info? 124).map (·.bytes) = some 32 := by kernel_rfl
theorem zr124 : (Tryd.prog.info? 124).bind (·.zero) = some (.agg ⟨[.int .u32 0, .int .u32 0, .int .u32 0, .int .u32 0, .int .u32 0, .int .u32 0, .int .u32 0, .int .u32 0]⟩) := by kernel_rfl
theorem sz125 : (Tryd.prog.info? 125).map (·.size) = some 64 := by kernel_rfl
theorem by125 : (Tryd.prog.info? 125).map (·.bytes) = some 256 := by kernel_rfl
theorem zr125 : (Tryd.prog.info? 125).bind (·.zero) = some (.agg ⟨[.int .u32 0, .int .u32 0, .int .u32 0, .int .u32 0, .int .u32 0, .int .u32 0, .int .u32 0, .int .u32 0, .int .u32 0, .int .u32 0, .int .u32 0, .int .u32 0, .int .u32 0, .int .u32 0, .int .u32 0, .int .u32 0, .int .u32 0, .int .u32 0, .int .u32 0, .int .u32 0, .int .u32 0, .int .u32 0, .int .u32 0, .int .u32 0, .int .u32 0, .int .u32 0, .int .u32 0, .int .u32 0, .int .u32 0, .int .u32 0, .int .u32 0, .int .u32 0, .int .u32 0, .int .u32 0, .int .u32 0, .int .u32 0, .int .u32 0, .int .u32 0, .int .u32 0, .int .u32 0, .int .u32 0, .int .u32 0, .int .u32 0, .int .u32 0, .int .u32 0, .int .u32 0, .int .u32 0, .int .u32 0, .int .u32 0, .int .u32 0, .int .u32 0, .int .u32 0, .int .u32 0, .int .u32 0, .int .u32 0, .int .u32 0, .int .u32 0, .int .u32 0, .int .u32 0, .int .u32 0, .int .u32 0, .int .u32 0, .int .u32 0, .int .u32 0]⟩) := by kernel_rfl
theorem sz126 : (Tryd.prog.info? 126).map (·.size) = some 72 := by kernel_rfl
theorem by126 : (Tryd.prog.info? 126).map (·.bytes) = some 288 := by kernel_rfl
theorem zr126 : (Tryd.prog.info? 126).bind (·.zero) = some (.agg ⟨[.int .u32 0, .int .u32 0, .int .u32 0, .int .u32 0, .int .u32 0, .int .u32 0, .int .u32 0, .int .u32 0, .int .u32 0, .int .u32 0, .int .u32 0, .int .u32 0, .int .u32 0, .int .u32 0, .int .u32 0, .int .u32 0, .int .u32 0, .int .u32 0, .int .u32 0, .int .u32 0, .int .u32 0, .int .u32 0, .int .u32 0, .int .u32 0, .int .u32 0, .int .u32 0, .int .u32 0, .int .u32 0, .int .u32 0, .int .u32 0, .int .u32 0, .int .u32 0, .int .u32 0, .int .u32 0, .int .u32 0, .int .u32 0, .int .u32 0, .int .u32 0, .int .u32 0, .int .u32 0, .int .u32 0, .int .u32 0, .int .u32 0, .int .u32 0, .int .u32 0, .int .u32 0, .int .u32 0, .int .u32 0, .int .u32 0, .int .u32 0, .int .u32 0, .int .u32 0, .int .u32 0, .int .u32 0, .int .u32 0, .int .u32 0, .int .u32 0, .int .u32 0, .int .u32 0, .int .u32 0, .int .u32 0, .int .u32 0, .int .u32 0, .int .u32 0, .int .u32 0, .int .u32 0, .int .u32 0, .int .u32 0, .int .u32 0, .int .u32 0, .int .u32 0, .int .u32 0]⟩) := by kernel_rfl
theorem sz127 : (Tryd.prog.info? 127).map (·.size) = some 72 := by kernel_rfl
theorem by127 : (Tryd.prog.info? 127).map (·.bytes) = some 288 := by kernel_rfl
theorem zr127 : (Tryd.prog.info? 127).bind (·.zero) = some (.agg ⟨[.int .u32 0, .int .u32 0, .int .u32 0, .int .u32 0, .int .u32 0, .int .u32 0, .int .u32 0, .int .u32 0, .int .u32 0, .int .u32 0, .int .u32 0, .int .u32 0, .int .u32 0, .int .u32 0, .int .u32 0, .int .u32 0, .int .u32 0, .int .u32 0, .int .u32 0, .int .u32 0, .int .u32 0, .int .u32 0, .int .u32 0, .int .u32 0, .int .u32 0, .int .u32 0, .int .u32 0, .int .u32 0, .int .u32 0, .int .u32 0, .int .u32 0, .int .u32 0, .int .u32 0, .int .u32 0, .int .u32 0, .int .u32 0, .int .u32 0, .int .u32 0, .int .u32 0, .int .u32 0, .int .u32 0, .int .u32 0, .int .u32 0, .int .u32 0, .int .u32 0, .int .u32 0, .int .u32 0, .int .u32 0, .int .u32 0, .int .u32 0, .int .u32 0, .int .u32 0, .int .u32 0, .int .u32 0, .int .u32 0, .int .u32 0, .int .u32 0, .int .u32 0, .int .u32 0, .int .u32 0, .int .u32 0, .int .u32 0, .int .u32 0, .int .u32 0, .int .u32 0, .int .u32 0, .int .u32 0, .int .u32 0, .int .u32 0, .int .u32 0, .int .u32 0, .int .u32 0]⟩) := by kernel_rfl
theorem sz128 : (Tryd.prog.info? 128).map (·.size) = some 1 := by kernel_rfl
theorem by128 : (Tryd.prog.info? 128).map (·.bytes) = some 8 := by kernel_rfl
theorem zr128 : (Tryd.prog.info? 128).bind (·.zero) = some (.nilFunc) := by kernel_rfl
theorem sz129 : (Tryd.prog.info? 129).map (·.size) = some 1 := by kernel_rfl
theorem by129 : (Tryd.prog.info? 129).map (·.bytes) = some 8 := by kernel_rfl
theorem zr129 : (Tryd.prog.info? 129).bind (·.zero) = some (.nilFunc) := by kernel_rfl
theorem sz130 : (Tryd.prog.info? 130).map (·.size) = some 1 := by kernel_rfl
theorem by130 : (Tryd.prog.info? 130).map (·.bytes) = some 8 := by kernel_rfl
theorem zr130 : (Tryd.prog.info? 130).bind (·.zero) = some (.nilFunc) := by kernel_rfl
theorem sz131 : (Tryd.prog.info? 131).map (·.size) = some 1 := by kernel_rfl
theorem by131 : (Tryd.prog.info? 131).map (·.bytes) = some 8 := by kernel_rfl
theorem zr131 : (Tryd.prog.info? 131).bind (·.zero) = some (.nilFunc) := by kernel_rfl
theorem sz132 : (Tryd.prog.info? 132).map (·.size) = some 1 := by kernel_rfl
theorem by132 : (Tryd.prog.info? 132).map (·.bytes) = some 0 := by kernel_rfl
theorem zr132 : (Tryd.prog.info? 132).bind (·.zero) = some (.tuple ⟨[.int .i64 0, .int .i64 0]⟩) := by kernel_rfl
theorem sz133 : (Tryd.prog.info? 133).map (·.size) = some 1 := by kernel_rfl
theorem by133 : (Tryd.prog.info? 133).map (·.bytes) = some 8 := by kernel_rfl
theorem zr133 : (Tryd.prog.info? 133).bind (·.zero) = some (.nilFunc) := by kernel_rfl
theorem sz134 : (Tryd.prog.info? 134).map (·.size) = some 21 := by kernel_rfl
theorem by134 : (Tryd.prog.info? 134).map (·.bytes) = some 344 := by kernel_rfl
theorem zr134 : (Tryd.prog.info? 134).bind (·.zero) = some (.agg ⟨[.slice none 0 0, .slice none 0 0, .slice none 0 0, .slice none 0 0, .slice none 0 0, .slice none 0 0, .slice none 0 0, .slice none 0 0, .int .i64 0, .int .i64 0, .int .i64 0, .int .i64 0, .int .i64 0, .int .i64 0, .int .i64 0, .int .i64 0, .string ⟨⟨[]⟩⟩, .string ⟨⟨[]⟩⟩, .slice none 0 0, .slice none 0 0, .int .i64 0]⟩) := by kernel_rfl
theorem sz135 : (Tryd.prog.info? 135).map (·.size) = some 21 := by kernel_rfl
theorem by135 : (Tryd.prog.info? 135).map (·.bytes) = some 344 := by kernel_rfl
theorem zr135 : (Tryd.prog.info? 135).bind (·.zero) = some (.agg ⟨[.slice none 0 0, .slice none 0 0, .slice none 0 0, .slice none 0 0, .slice none 0 0, .slice none 0 0, .slice none 0 0, .slice none 0 0, .int .i64 0, .int .i64 0, .int .i64 0, .int .i64 0, .int .i64 0, .int .i64 0, .int .i64 0, .int .i64 0, .string ⟨⟨[]⟩⟩, .string ⟨⟨[]⟩⟩, .slice none 0 0, .slice none 0 0, .int .i64 0]⟩) := by kernel_rfl
theorem sz136 : (Tryd.prog.info? 136).map (·.size) = some 2 := by kernel_rfl
theorem by136 : (Tryd.prog.info? 136).map (·.bytes) = some 24 := by kernel_rfl
theorem zr136 : (Tryd.prog.info? 136).bind (·.zero) = some (.agg ⟨[.int .i64 0, .string ⟨⟨[]⟩⟩]⟩) := by kernel_rfl
theorem sz137 : (Tryd.prog.info? 137).map (·.size) = some 2 := by kernel_rfl
theorem by137 : (Tryd.prog.info? 137).map (·.bytes) = some 24 := by kernel_rfl
theorem zr137 : (Tryd.prog.info? 137).bind (·.zero) = some (.agg ⟨[.int .i64 0, .string ⟨⟨[]⟩⟩]⟩) := by kernel_rfl
theorem sz138 : (Tryd.prog.info? 138).map (·.size) = some 1 := by kernel_rfl
theorem by138 : (Tryd.prog.info? 138).map (·.bytes) = some 8 := by kernel_rfl
theorem zr138 : (Tryd.prog.info? 138).bind (·.zero) = some (.nilFunc) := by kernel_rfl
theorem sz139 : (Tryd.prog.info? 139).map (·.size) = some 1 := by kernel_rfl
theorem by139 : (Tryd.prog.info? 139).map (·.bytes) = some 8 := by kernel_rfl
theorem zr139 : (Tryd.prog.info? 139).bind (·.zero) = some (.nilFunc) := by kernel_rfl
theorem sz140 : (Tryd.prog.info? 140).map (·.size) = some 1 := by kernel_rfl
theorem by140 : (Tryd.prog.info? 140).map (·.bytes) = some 8 := by kernel_rfl
theorem zr140 : (Tryd.prog.info? 140).bind (·.zero) = some (.nilFunc) := by kernel_rfl
theorem sz141 : (Tryd.prog.info? 141).map (·.size) = some 1 := by kernel_rfl
theorem by141 : (Tryd.prog.info? 141).map (·.bytes) = some 8 := by kernel_rfl
theorem zr141 : (Tryd.prog.info? 141).bind (·.zero) = some (.nilFunc) := by kernel_rfl
theorem sz142 : (Tryd.prog.info? 142).map (·.size) = some 1 := by kernel_rfl
theorem by142 : (Tryd.prog.info? 142).map (·.bytes) = some 8 := by kernel_rfl
theorem zr142 : (Tryd.prog.info? 142).bind (·.zero) = some (.nilFunc) := by kernel_rfl
theorem sz143 : (Tryd.prog.info? 143).map (·.size) = some 1 := by kernel_rfl
theorem by143 : (Tryd.prog.info? 143).map (·.bytes) = some 8 := by kernel_rfl
theorem zr143 : (Tryd.prog.info? 143).bind (·.zero) = some (.nilFunc) := by kernel_rfl
theorem sz144 : (Tryd.prog.info? 144).map (·.size) = some 1 := by kernel_rfl
theorem by144 : (Tryd.prog.info? 144).map (·.bytes) = some 8 := by kernel_rfl
theorem zr144 : (Tryd.prog.info? 144).bind (·.zero) = some (.nilFunc) := by kernel_rfl
theorem sz145 : (Tryd.prog.info? 145).map (·.size) = some 1 := by kernel_rfl
theorem by145 : (Tryd.prog.info? 145).map (·.bytes) = some 8 := by kernel_rfl
theorem zr145 : (Tryd.prog.info? 145).bind (·.zero) = some (.nilFunc) := by kernel_rfl
theorem sz146 : (Tryd.prog.info? 146).map (·.size) = some 1 := by kernel_rfl
theorem by146 : (Tryd.prog.info? 146).map (·.bytes) = some 8 := by kernel_rfl
theorem zr146 : (Tryd.prog.info? 146).bind (·.zero) = some (.nilFunc) := by kernel_rfl
theorem sz147 : (Tryd.prog.info? 147).map (·.size) = some 1 := by kernel_rfl
theorem by147 : (Tryd.prog.info? 147).map (·.bytes) = some 8 := by kernel_rfl
theorem zr147 : (Tryd.prog.info? 147).bind (·.zero) = some (.nilFunc) := by kernel_rfl
theorem sz148 : (Tryd.prog.info? 148).map (·.size) = some 1 := by kernel_rfl
theorem by148 : (Tryd.prog.info? 148).map (·.bytes) = some 8 := by kernel_rfl
theorem zr148 : (Tryd.prog.info? 148).bind (·.zero) = some (.nilFunc) := by kernel_rfl
theorem sz149 : (Tryd.prog.info? 149).map (·.size) = some 1 := by kernel_rfl
theorem by149 : (Tryd.prog.info? 149).map (·.bytes) = some 8 := by kernel_rfl
theorem zr149 : (Tryd.prog.info? 149).bind (·.zero) = some (.nilFunc) := by kernel_rfl
theorem sz150 : (Tryd.prog.info? 150).map (·.size) = some 1 := by kernel_rfl
theorem by150 : (Tryd.prog.info? 150).map (·.bytes) = some 8 := by kernel_rfl
theorem zr150 : (Tryd.prog.info? 150).bind (·.zero) = some (.nilFunc) := by kernel_rfl
theorem sz151 : (Tryd.prog.info? 151).map (·.size) = some 1 := by kernel_rfl
theorem by151 : (Tryd.prog.info? 151).map (·.bytes) = some 8 := by kernel_rfl
theorem zr151 : (Tryd.prog.info? 151).bind (·.zero) = some (.nilFunc) := by kernel_rfl
theorem sz152 : (Tryd.prog.info? 152).map (·.size) = some 1 := by kernel_rfl
theorem by152 : (Tryd.prog.info? 152).map (·.bytes) = some 8 := by kernel_rfl
theorem zr152 : (Tryd.prog.info? 152).bind (·.zero) = some (.nilFunc) := by kernel_rfl
theorem sz153 : (Tryd.prog.info? 153).map (·.size) = some 1 := by kernel_rfl
theorem by153 : (Tryd.prog.info? 153).map (·.bytes) = some 8 := by kernel_rfl
theorem zr153 : (Tryd.prog.info? 153).bind (·.zero) = some (.map none) := by kernel_rfl
theorem sz154 : (Tryd.prog.info? 154).map (·.size) = some 1 := by kernel_rfl
theorem by154 : (Tryd.prog.info? 154).map (·.bytes) = some 8 := by kernel_rfl
theorem zr154 : (Tryd.prog.info? 154).bind (·.zero) = some (.nilFunc) := by kernel_rfl
theorem sz155 : (Tryd.prog.info? 155).map (·.size) = some 1 := by kernel_rfl
theorem by155 : (Tryd.prog.info? 155).map (·.bytes) = some 8 := by kernel_rfl
theorem zr155 : (Tryd.prog.info? 155).bind (·.zero) = some (.nilFunc) := by kernel_rfl
theorem sz156 : (Tryd.prog.info? 156).map (·.size) = some 1 := by kernel_rfl
theorem by156 : (Tryd.prog.info? 156).map (·.bytes) = some 8 := by kernel_rfl
theorem zr156 : (Tryd.prog.info? 156).bind (·.zero) = some (.nilFunc) := by kernel_rfl
theorem sz157 : (Tryd.prog.info? 157).map (·.size) = some 1 := by kernel_rfl
theorem by157 : (Tryd.prog.info? 157).map (·.bytes) = some 8 := by kernel_rfl
theorem zr157 : (Tryd.prog.info? 157).bind (·.zero) = some (.nilFunc) := by kernel_rfl
theorem sz158 : (Tryd.prog.info? 158).map (·.size) = some 1 := by kernel_rfl
theorem by158 : (Tryd.prog.info? 158).map (·.bytes) = some 8 := by kernel_rfl
theorem zr158 : (Tryd.prog.info? 158).bind (·.zero) = some (.nilFunc) := by kernel_rfl
theorem sz159 : (Tryd.prog.info? 159).map (·.size) = some 1 := by kernel_rfl
theorem by159 : (Tryd.prog.info? 159).map (·.bytes) = some 8 := by kernel_rfl
theorem zr159 : (Tryd.prog.info? 159).bind (·.zero) = some (.nilFunc) := by kernel_rfl
theorem sz160 : (Tryd.prog.info? 160).map (·.size) = some 1 := by kernel_rfl
theorem by160 : (Tryd.prog.info? 160).map (·.bytes) = some 8 := by kernel_rfl
theorem zr160 : (Tryd.prog.info? 160).bind (·.zero) = some (.pointer none) := by kernel_rfl
theorem sz161 : (Tryd.prog.info? 161).map (·.size) = some 1 := by kernel_rfl
theorem by161 : (Tryd.prog.info? 161).map (·.bytes) = some 8 := by kernel_rfl
theorem zr161 : (Tryd.prog.info? 161).bind (·.zero) = some (.int .u64 0) := by kernel_rfl
theorem sz162 : (Tryd.prog.info? 162).map (·.size) = some 3 := by kernel_rfl
theorem by162 : (Tryd.prog.info? 162).map (·.bytes) = some 24 := by kernel_rfl
theorem zr162 : (Tryd.prog.info? 162).bind (·.zero) = some (.agg ⟨[.pointer none, .pointer none, .int .u64 0]⟩) := by kernel_rfl
theorem sz163 : (Tryd.prog.info? 163).map (·.size) = some 3 := by kernel_rfl
theorem by163 : (Tryd.prog.info? 163).map (·.bytes) = some 24 := by kernel_rfl
theorem zr163 : (Tryd.prog.info? 163).bind (·.zero) = some (.agg ⟨[.pointer none, .pointer none, .int .u64 0]⟩) := by kernel_rfl
theorem sz164 : (Tryd.prog.info? 164).map (·.size) = some 1 := by kernel_rfl
theorem by164 : (Tryd.prog.info? 164).map (·.bytes) = some 8 := by kernel_rfl
theorem zr164 : (Tryd.prog.info? 164).bind (·.zero) = some (.nilFunc) := by kernel_rfl
theorem sz165 : (Tryd.prog.info? 165).map (·.size) = some 1 := by kernel_rfl
theorem by165 : (Tryd.prog.info? 165).map (·.bytes) = some 16 := by kernel_rfl
theorem zr165 : (Tryd.prog.info? 165).bind (·.zero) = some (.nilIface) := by kernel_rfl
theorem sz166 : (Tryd.prog.info? 166).map (·.size) = some 1 := by kernel_rfl
theorem by166 : (Tryd.prog.info? 166).map (·.bytes) = some 16 := by kernel_rfl
theorem zr166 : (Tryd.prog.info? 166).bind (·.zero) = some (.nilIface) := by kernel_rfl
theorem sz167 : (Tryd.prog.info? 167).map (·.size) = some 1 := by kernel_rfl
theorem by167 : (Tryd.prog.info? 167).map (·.bytes) = some 8 := by kernel_rfl
theorem zr167 : (Tryd.prog.info? 167).bind (·.zero) = some (.nilFunc) := by kernel_rfl
theorem sz168 : (Tryd.prog.info? 168).map (·.size) = some 1 := by kernel_rfl
theorem by168 : (Tryd.prog.info? 168).map (·.bytes) = some 1 := by kernel_rfl
theorem zr168 : (Tryd.prog.info? 168).bind (·.zero) = some (.int .u8 0) := by kernel_rfl
theorem sz169 : (Tryd.prog.info? 169).map (·.size) = some 1 := by kernel_rfl
theorem by169 : (Tryd.prog.info? 169).map (·.bytes) = some 8 := by kernel_rfl
theorem zr169 : (Tryd.prog.info? 169).bind (·.zero) = some (.nilFunc) := by kernel_rfl
theorem sz170 : (Tryd.prog.info? 170).map (·.size) = some 1 := by kernel_rfl
theorem by170 : (Tryd.prog.info? 170).map (·.bytes) = some 8 := by kernel_rfl
theorem zr170 : (Tryd.prog.info? 170).bind (·.zero) = some (.nilFunc) := by kernel_rfl
theorem sz171 : (Tryd.prog.info? 171).map (·.size) = some 1 := by kernel_rfl
theorem by171 : (Tryd.prog.info? 171).map (·.bytes) = some 8 := by kernel_rfl
theorem zr171 : (Tryd.prog.info? 171).bind (·.zero) = some (.nilFunc) := by kernel_rfl
theorem sz172 : (Tryd.prog.info? 172).map (·.size) = some 1 := by kernel_rfl
theorem by172 : (Tryd.prog.info? 172).map (·.bytes) = some 0 := by kernel_rfl
theorem zr172 : (Tryd.prog.info? 172).bind (·.zero) = some (.tuple ⟨[.int .u32 0, .int .u32 0]⟩) := by kernel_rfl
theorem sz173 : (Tryd.prog.info? 173).map (·.size) = some 1 := by kernel_rfl
theorem by173 : (Tryd.prog.info? 173).map (·.bytes) = some 8 := by kernel_rfl
theorem zr173 : (Tryd.prog.info? 173).bind (·.zero) = some (.nilFunc) := by kernel_rfl
theorem sz174 : (Tryd.prog.info? 174).map (·.size) = some 1 := by kernel_rfl
theorem by174 : (Tryd.prog.info? 174).map (·.bytes) = some 0 := by kernel_rfl
theorem zr174 : (Tryd.prog.info? 174).bind (·.zero) = some (.tuple ⟨[.int .u64 0, .int .u64 0]⟩) := by kernel_rfl
theorem sz175 : (Tryd.prog.info? 175).map (·.size) = some 1 := by kernel_rfl
theorem by175 : (Tryd.prog.info? 175).map (·.bytes) = some 8 := by kernel_rfl
theorem zr175 : (Tryd.prog.info? 175).bind (·.zero) = some (.nilFunc) := by kernel_rfl
theorem sz176 : (Tryd.prog.info? 176).map (·.size) = some 1 := by kernel_rfl
theorem by176 : (Tryd.prog.info? 176).map (·.bytes) = some 8 := by kernel_rfl
theorem zr176 : (Tryd.prog.info? 176).bind (·.zero) = some (.pointer none) := by kernel_rfl
theorem sz177 : (Tryd.prog.info? 177).map (·.size) = some 3 := by kernel_rfl
theorem by177 : (Tryd.prog.info? 177).map (·.bytes) = some 48 := by kernel_rfl
theorem zr177 : (Tryd.prog.info? 177).bind (·.zero) = some (.agg ⟨[.string ⟨⟨[]⟩⟩, .string ⟨⟨[]⟩⟩, .string ⟨⟨[]⟩⟩]⟩) := by kernel_rfl
theorem sz178 : (Tryd.prog.info? 178).map (·.size) = some 1 := by kernel_rfl
theorem by178 : (Tryd.prog.info? 178).map (·.bytes) = some 8 := by kernel_rfl
theorem zr178 : (Tryd.prog.info? 178).bind (·.zero) = some (.nilFunc) := by kernel_rfl
theorem sz179 : (Tryd.prog.info? 179).map (·.size) = some 1 := by kernel_rfl
theorem by179 : (Tryd.prog.info? 179).map (·.bytes) = some 8 := by kernel_rfl
theorem zr179 : (Tryd.prog.info? 179).bind (·.zero) = some (.pointer none) := by kernel_rfl
theorem sz180 : (Tryd.prog.info? 180).map (·.size) = some 1 := by kernel_rfl
theorem by180 : (Tryd.prog.info? 180).map (·.bytes) = some 8 := by kernel_rfl
theorem zr180 : (Tryd.prog.info? 180).bind (·.zero) = some (.nilFunc) := by kernel_rfl
theorem sz181 : (Tryd.prog.info? 181).map (·.size) = some 1 := by kernel_rfl
theorem by181 : (Tryd.prog.info? 181).map (·.bytes) = some 8 := by kernel_rfl
theorem zr181 : (Tryd.prog.info? 181).bind (·.zero) = some (.pointer none) := by kernel_rfl
theorem sz182 : (Tryd.prog.info? 182).map (·.size) = some 1 := by kernel_rfl
theorem by182 : (Tryd.prog.info? 182).map (·.bytes) = some 0 := by kernel_rfl
theorem zr182 : (Tryd.prog.info? 182).bind (·.zero) = some (.tuple ⟨[.pointer none, .bool false]⟩) := by kernel_rfl
theorem sz183 : (Tryd.prog.info? 183).map (·.size) = some 2 := by kernel_rfl
theorem by183 : (Tryd.prog.info? 183).map (·.bytes) = some 16 := by kernel_rfl
theorem zr183 : (Tryd.prog.info? 183).bind (·.zero) = some (.agg ⟨[.int .i64 0, .int .i64 0]⟩) := by kernel_rfl
theorem sz184 : (Tryd.prog.info? 184).map (·.size) = some 2 := by kernel_rfl
theorem by184 : (Tryd.prog.info? 184).map (·.bytes) = some 16 := by kernel_rfl
theorem zr184 : (Tryd.prog.info? 184).bind (·.zero) = some (.agg ⟨[.int .i64 0, .int .i64 0]⟩) := by kernel_rfl
theorem sz185 : (Tryd.prog.info? 185).map (·.size) = some 1 := by kernel_rfl
theorem by185 : (Tryd.prog.info? 185).map (·.bytes) = some 16 := by kernel_rfl
theorem zr185 : (Tryd.prog.info? 185).bind (·.zero) = some (.nilIface) := by kernel_rfl
theorem sz186 : (Tryd.prog.info? 186).map (·.size) = some 1 := by kernel_rfl
theorem by186 : (Tryd.prog.info? 186).map (·.bytes) = some 0 := by kernel_rfl
theorem zr186 : (Tryd.prog.info? 186).bind (·.zero) = some (.tuple ⟨[.nilIface, .bool false]⟩) := by kernel_rfl
theorem sz187 : (Tryd.prog.info? 187).map (·.size) = some 1 := by kernel_rfl
theorem by187 : (Tryd.prog.info? 187).map (·.bytes) = some 8 := by kernel_rfl
theorem zr187 : (Tryd.prog.info? 187).bind (·.zero) = some (.nilFunc) := by kernel_rfl
theorem sz188 : (Tryd.prog.info? 188).map (·.size) = some 1 := by kernel_rfl
theorem by188 : (Tryd.prog.info? 188).map (·.bytes) = some 8 := by kernel_rfl
theorem zr188 : (Tryd.prog.info? 188).bind (·.zero) = some (.nilFunc) := by kernel_rfl
theorem sz189 : (Tryd.prog.info? 189).map (·.size) = some 1 := by kernel_rfl
theorem by189 : (Tryd.prog.info? 189).map (·.bytes) = some 8 := by kernel_rfl
theorem zr189 : (Tryd.prog.info? 189).bind (·.zero) = some (.nilFunc) := by kernel_rfl
theorem sz190 : (Tryd.prog.info? 190).map (·.size) = some 1 := by kernel_rfl
theorem by190 : (Tryd.prog.info? 190).map (·.bytes) = some 8 := by kernel_rfl
theorem zr190 : (Tryd.prog.info? 190).bind (·.zero) = some (.nilFunc) := by kernel_rfl
theorem sz191 : (Tryd.prog.info? 191).map (·.size) = some 1 := by kernel_rfl
theorem by191 : (Tryd.prog.info? 191).map (·.bytes) = some 8 := by kernel_rfl
theorem zr191 : (Tryd.prog.info? 191).bind (·.zero) = some (.nilFunc) := by kernel_rfl
theorem sz192 : (Tryd.prog.info? 192).map (·.size) = some 1 := by kernel_rfl
theorem by192 : (Tryd.prog.info? 192).map (·.bytes) = some 8 := by kernel_rfl
theorem zr192 : (Tryd.prog.info? 192).bind (·.zero) = some (.agg ⟨[.pointer none]⟩) := by kernel_rfl
theorem sz193 : (Tryd.prog.info? 193).map (·.size) = some 1 := by kernel_rfl
theorem by193 : (Tryd.prog.info? 193).map (·.bytes) = some 8 := by kernel_rfl
theorem zr193 : (Tryd.prog.info? 193).bind (·.zero) = some (.agg ⟨[.pointer none]⟩) := by kernel_rfl
theorem sz194 : (Tryd.prog.info? 194).map (·.size) = some 1 := by kernel_rfl
theorem by194 : (Tryd.prog.info? 194).map (·.bytes) = some 8 := by kernel_rfl
theorem zr194 : (Tryd.prog.info? 194).bind (·.zero) = some (.pointer none) := by kernel_rfl
theorem sz195 : (Tryd.prog.info? 195).map (·.size) = some 1 := by kernel_rfl
theorem by195 : (Tryd.prog.info? 195).map (·.bytes) = some 8 := by kernel_rfl
theorem zr195 : (Tryd.prog.info? 195).bind (·.zero) = some (.nilFunc) := by kernel_rfl
theorem sz196 : (Tryd.prog.info? 196).map (·.size) = some 1 := by kernel_rfl
theorem by196 : (Tryd.prog.info? 196).map (·.bytes) = some 8 := by kernel_rfl
theorem zr196 : (Tryd.prog.info? 196).bind (·.zero) = some (.nilFunc) := by kernel_rfl
theorem sz197 : (Tryd.prog.info? 197).map (·.size) = some 1 := by kernel_rfl
theorem by197 : (Tryd.prog.info? 197).map (·.bytes) = some 8 := by kernel_rfl
theorem zr197 : (Tryd.prog.info? 197).bind (·.zero) = some (.nilFunc) := by kernel_rfl
theorem sz198 : (Tryd.prog.info? 198).map (·.size) = some 1 := by kernel_rfl
theorem by198 : (Tryd.prog.info? 198).map (·.bytes) = some 16 := by kernel_rfl
theorem zr198 : (Tryd.prog.info? 198).bind (·.zero) = some (.nilIface) := by kernel_rfl
theorem sz199 : (Tryd.prog.info? 199).map (·.size) = some 1 := by kernel_rfl
theorem by199 : (Tryd.prog.info? 199).map (·.bytes) = some 0 := by kernel_rfl
theorem zr199 : (Tryd.prog.info? 199).bind (·.zero) = some (.tuple ⟨[.nilIface, .bool false]⟩) := by kernel_rfl
theorem sz200 : (Tryd.prog.info? 200).map (·.size) = some 1 := by kernel_rfl
theorem by200 : (Tryd.prog.info? 200).map (·.bytes) = some 8 := by kernel_rfl
theorem zr200 : (Tryd.prog.info? 200).bind (·.zero) = some (.nilFunc) := by kernel_rfl
theorem sz201 : (Tryd.prog.info? 201).map (·.size) = some 1 := by kernel_rfl
theorem by201 : (Tryd.prog.info? 201).map (·.bytes) = some 16 := by kernel_rfl
theorem zr201 : (Tryd.prog.info? 201).bind (·.zero) = some (.nilIface) := by kernel_rfl
theorem sz202 : (Tryd.prog.info? 202).map (·.size) = some 1 := by kernel_rfl
theorem by202 : (Tryd.prog.info? 202).map (·.bytes) = some 24 := by kernel_rfl
theorem zr202 : (Tryd.prog.info? 202).bind (·.zero) = some (.slice none 0 0) := by kernel_rfl
theorem sz203 : (Tryd.prog.info? 203).map (·.size) = some 1 := by kernel_rfl
theorem by203 : (Tryd.prog.info? 203).map (·.bytes) = some 8 := by kernel_rfl
theorem zr203 : (Tryd.prog.info? 203).bind (·.zero) = some (.nilFunc) := by kernel_rfl
theorem sz204 : (Tryd.prog.info? 204).map (·.size) = some 1 := by kernel_rfl
theorem by204 : (Tryd.prog.info? 204).map (·.bytes) = some 8 := by kernel_rfl
theorem zr204 : (Tryd.prog.info? 204).bind (·.zero) = some (.nilFunc) := by kernel_rfl
theorem sz205 : (Tryd.prog.info? 205).map (·.size) = some 1 := by kernel_rfl
theorem by205 : (Tryd.prog.info? 205).map (·.bytes) = some 8 := by kernel_rfl
theorem zr205 : (Tryd.prog.info? 205).bind (·.zero) = some (.nilFunc) := by kernel_rfl
theorem sz206 : (Tryd.prog.info? 206).map (·.size) = some 16 := by kernel_rfl
theorem by206 : (Tryd.prog.info? 206).map (·.bytes) = some 64 := by kernel_rfl
theorem zr206 : (Tryd.prog.info? 206).bind (·.zero) = some (.agg ⟨[.int .u32 0, .int .u32 0, .int .u32 0, .int .u32 0, .int .u32 0, .int .u32 0, .int .u32 0, .int .u32 0, .int .u32 0, .int .u32 0, .int .u32 0, .int .u32 0, .int .u32 0, .int .u32 0, .int .u32 0, .int .u32 0]⟩) := by kernel_rfl
theorem sz207 : (Tryd.prog.info? 207).map (·.size) = some 1 := by kernel_rfl
theorem by207 : (Tryd.prog.info? 207).map (·.bytes) = some 8 := by kernel_rfl
theorem zr207 : (Tryd.prog.info? 207).bind (·.zero) = some (.nilFunc) := by kernel_rfl
theorem sz208 : (Tryd.prog.info? 208).map (·.size) = some 1 := by kernel_rfl
theorem by208 : (Tryd.prog.info? 208).map (·.bytes) = some 8 := by kernel_rfl
theorem zr208 : (Tryd.prog.info? 208).bind (·.zero) = some (.nilFunc) := by kernel_rfl
theorem sz209 : (Tryd.prog.info? 209).map (·.size) = some 1 := by kernel_rfl
theorem by209 : (Tryd.prog.info? 209).map (·.bytes) = some 8 := by kernel_rfl
theorem zr209 : (Tryd.prog.info? 209).bind (·.zero) = some (.pointer none) := by kernel_rfl
theorem sz210 : (Tryd.prog.info? 210).map (·.size) = some 1 := by kernel_rfl
theorem by210 : (Tryd.prog.info? 210).map (·.bytes) = some 8 := by kernel_rfl
theorem zr210 : (Tryd.prog.info? 210).bind (·.zero) = some (.nilFunc) := by kernel_rfl
theorem sz211 : (Tryd.prog.info? 211).map (·.size) = some 1 := by kernel_rfl
theorem by211 : (Tryd.prog.info? 211).map (·.bytes) = some 24 := by kernel_rfl
theorem zr211 : (Tryd.prog.info? 211).bind (·.zero) = some (.slice none 0 0) := by kernel_rfl
theorem sz212 : (Tryd.prog.info? 212).map (·.size) = some 1 := by kernel_rfl
theorem by212 : (Tryd.prog.info? 212).map (·.bytes) = some 8 := by kernel_rfl
theorem zr212 : (Tryd.prog.info? 212).bind (·.zero) = some (.nilFunc) := by kernel_rfl
theorem sz213 : (Tryd.prog.info? 213).map (·.size) = some 1 := by kernel_rfl
theorem by213 : (Tryd.prog.info? 213).map (·.bytes) = some 24 := by kernel_rfl
theorem zr213 : (Tryd.prog.info? 213).bind (·.zero) = some (.slice none 0 0) := by kernel_rfl
theorem sz214 : (Tryd.prog.info? 214).map (·.size) = some 1 := by kernel_rfl
theorem by214 : (Tryd.prog.info? 214).map (·.bytes) = some 8 := by kernel_rfl
theorem zr214 : (Tryd.prog.info? 214).bind (·.zero) = some (.nilFunc) := by kernel_rfl
theorem sz215 : (Tryd.prog.info? 215).map (·.size) = some 4 := by kernel_rfl
theorem by215 : (Tryd.prog.info? 215).map (·.bytes) = some 32 := by kernel_rfl
theorem zr215 : (Tryd.prog.info? 215).bind (·.zero) = some (.agg ⟨[.int .i64 0, .int .i64 0, .int .i64 0, .int .i64 0]⟩) := by kernel_rfl
theorem sz216 : (Tryd.prog.info? 216).map (·.size) = some 1 := by kernel_rfl
theorem by216 : (Tryd.prog.info? 216).map (·.bytes) = some 8 := by kernel_rfl
theorem zr216 : (Tryd.prog.info? 216).bind (·.zero) = some (.nilFunc) := by kernel_rfl
theorem sz217 : (Tryd.prog.info? 217).map (·.size) = some 1 := by kernel_rfl
theorem by217 : (Tryd.prog.info? 217).map (·.bytes) = some 0 := by kernel_rfl
theorem zr217 : (Tryd.prog.info? 217).bind (·.zero) = some (.tuple ⟨[.int .i32 0, .int .i64 0]⟩) := by kernel_rfl
theorem sz218 : (Tryd.prog.info? 218).map (·.size) = some 1 := by kernel_rfl
theorem by218 : (Tryd.prog.info? 218).map (·.bytes) = some 8 := by kernel_rfl
theorem zr218 : (Tryd.prog.info? 218).bind (·.zero) = some (.nilFunc) := by kernel_rfl
theorem sz219 : (Tryd.prog.info? 219).map (·.size) = some 1 := by kernel_rfl
theorem by219 : (Tryd.prog.info? 219).map (·.bytes) = some 8 := by kernel_rfl
theorem zr219 : (Tryd.prog.info? 219).bind (·.zero) = some (.nilFunc) := by kernel_rfl
theorem sz220 : (Tryd.prog.info? 220).map (·.size) = some 1 := by kernel_rfl
theorem by220 : (Tryd.prog.info? 220).map (·.bytes) = some 8 := by kernel_rfl
theorem zr220 : (Tryd.prog.info? 220).bind (·.zero) = some (.int .i64 0) := by kernel_rfl
theorem sz221 : (Tryd.prog.info? 221).map (·.size) = some 1 := by kernel_rfl
theorem by221 : (Tryd.prog.info? 221).map (·.bytes) = some 0 := by kernel_rfl
theorem zr221 : (Tryd.prog.info? 221).bind (·.zero) = some (.tuple ⟨[.int .i64 0, .nilIface]⟩) := by kernel_rfl
theorem sz222 : (Tryd.prog.info? 222).map (·.size) = some 1 := by kernel_rfl
theorem by222 : (Tryd.prog.info? 222).map (·.bytes) = some 8 := by kernel_rfl
theorem zr222 : (Tryd.prog.info? 222).bind (·.zero) = some (.nilFunc) := by kernel_rfl
theorem sz223 : (Tryd.prog.info? 223).map (·.size) = some 1 := by kernel_rfl
theorem by223 : (Tryd.prog.info? 223).map (·.bytes) = some 8 := by kernel_rfl
theorem zr223 : (Tryd.prog.info? 223).bind (·.zero) = some (.pointer none) := by kernel_rfl
theorem sz224 : (Tryd.prog.info? 224).map (·.size) = some 1 := by kernel_rfl
theorem by224 : (Tryd.prog.info? 224).map (·.bytes) = some 8 := by kernel_rfl
theorem zr224 : (Tryd.prog.info? 224).bind (·.zero) = some (.nilFunc) := by kernel_rfl
theorem sz225 : (Tryd.prog.info? 225).map (·.size) = some 1 := by kernel_rfl
theorem by225 : (Tryd.prog.info? 225).map (·.bytes) = some 8 := by kernel_rfl
theorem zr225 : (Tryd.prog.info? 225).bind (·.zero) = some (.nilFunc) := by kernel_rfl
theorem sz226 : (Tryd.prog.info? 226).map (·.size) = some 1 := by kernel_rfl
theorem by226 : (Tryd.prog.info? 226).map (·.bytes) = some 8 := by kernel_rfl
theorem zr226 : (Tryd.prog.info? 226).bind (·.zero) = some (.nilFunc) := by kernel_rfl
theorem sz227 : (Tryd.prog.info? 227).map (·.size) = some 1 := by kernel_rfl
theorem by227 : (Tryd.prog.info? 227).map (·.bytes) = some 8 := by kernel_rfl
theorem zr227 : (Tryd.prog.info? 227).bind (·.zero) = some (.nilFunc) := by kernel_rfl
theorem sz228 : (Tryd.prog.info? 228).map (·.size) = some 256 := by kernel_rfl
theorem by228 : (Tryd.prog.info? 228).map (·.bytes) = some 256 := by kernel_rfl
theorem zr228 : (Tryd.prog.info? 228).bind (·.zero) = some (.agg ⟨[.bool false, .bool false, .bool false, .bool false, .bool false, .bool false, .bool false, .bool false, .bool false, .bool false, .bool false, .bool false, .bool false, .bool false, .bool false, .bool false, .bool false, .bool false, .bool false, .bool false, .bool false, .bool false, .bool false, .bool false, .bool false, .bool false, .bool false, .bool false, .bool false, .bool false, .bool false, .bool false, .bool false, .bool false, .bool false, .bool false, .bool false, .bool false, .bool false, .bool false, .bool false, .bool false, .bool false, .bool false, .bool false, .bool false, .bool false, .bool false, .bool false, .bool false, .bool false, .bool false, .bool false, .bool false, .bool false, .bool false, .bool false, .bool false, .bool false, .bool false, .bool false, .bool false, .bool false, .bool false, .bool false, .bool false, .bool false, .bool false, .bool false, .bool false, .bool false, .bool false, .bool false, .bool false, .bool false, .bool false, .bool false, .bool false, .bool false, .bool false, .bool false, .bool false, .bool false, .bool false, .bool false, .bool false, .bool false, .bool false, .bool false, .bool false, .bool false, .bool false, .bool false, .bool false, .bool false, .bool false, .bool false, .bool false, .bool false, .bool false, .bool false, .bool false, .bool false, .bool false, .bool false, .bool false, .bool false, .bool false, .bool false, .bool false, .bool false, .bool false, .bool false, .bool false, .bool false, .bool false, .bool false, .bool false, .bool false, .bool false, .bool false, .bool false, .bool false, .bool false, .bool false, .bool false, .bool false, .bool false, .bool false, .bool false, .bool false, .bool false, .bool false, .bool false, .bool false, .bool false, .bool false, .bool false, .bool false, .bool false, .bool false, .bool false, .bool false, .bool false, .bool false, .bool false, .bool false, .bool false, .bool false, .bool false, .bool false, .bool false, .bool false, .bool false, .bool false, .bool false, .bool false, .bool false, .bool false, .bool false, .bool false, .bool false, .bool false, .bool false, .bool false, .bool false, .bool false, .bool false, .bool false, .bool false, .bool false, .bool false, .bool false, .bool false, .bool false, .bool false, .bool false, .bool false, .bool false, .bool false, .bool false, .bool false, .bool false, .bool false, .bool false, .bool false, .bool false, .bool false, .bool false, .bool false, .bool false, .bool false, .bool false, .bool false, .bool false, .bool false, .bool false, .bool false, .bool false, .bool false, .bool false, .bool false, .bool false, .bool false, .bool false, .bool false, .bool false, .bool false, .bool false, .bool false, .bool false, .bool false, .bool false, .bool false, .bool false, .bool false, .bool false, .bool false, .bool false, .bool false, .bool false, .bool false, .bool false, .bool false, .bool false, .bool false, .bool false, .bool false, .bool false, .bool false, .bool false, .bool false, .bool false, .bool false, .bool false, .bool false, .bool false, .bool false, .bool false, .bool false, .bool false, .bool false, .bool false, .bool false, .bool false, .bool false, .bool false, .bool false, .bool false, .bool false, .bool false, .bool false, .bool false, .bool false, .bool false, .bool false]⟩) := by kernel_rfl
theorem sz229 : (Tryd.prog.info? 229).map (·.size) = some 256 := by kernel_rfl
theorem by229 : (Tryd.prog.info? 229).map (·.bytes) = some 256 := by kernel_rfl
theorem zr229 : (Tryd.prog.info? 229).bind (·.zero) = some (.agg ⟨[.bool false, .bool false, .bool false, .bool false, .bool false, .bool false, .bool false, .bool false, .bool false, .bool false, .bool false, .bool false, .bool false, .bool false, .bool false, .bool false, .bool false, .bool false, .bool false, .bool false, .bool false, .bool false, .bool false, .bool false, .bool false, .bool false, .bool false, .bool false, .bool false, .bool false, .bool false, .bool false, .bool false, .bool false, .bool false, .bool false, .bool false, .bool false, .bool false, .bool false, .bool false, .bool false, .bool false, .bool false, .bool false, .bool false, .bool false, .bool false, .bool false, .bool false, .bool false, .bool false, .bool false, .bool false, .bool false, .bool false, .bool false, .bool false, .bool false, .bool false, .bool false, .bool false, .bool false, .bool false, .bool false, .bool false, .bool false, .bool false, .bool false, .bool false, .bool false, .bool false, .bool false, .bool false, .bool false, .bool false, .bool false, .bool false, .bool false, .bool false, .bool false, .bool false, .bool false, .bool false, .bool false, .bool false, .bool false, .bool false, .bool false, .bool false, .bool false, .bool false, .bool false, .bool false, .bool false, .bool false, .bool false, .bool false, .bool false, .bool false, .bool false, .bool false, .bool false, .bool false, .bool false, .bool false, .bool false, .bool false, .bool false, .bool false, .bool false, .bool false, .bool false, .bool false, .bool false, .bool false, .bool false, .bool false, .bool false, .bool false, .bool false, .bool false, .bool false, .bool false, .bool false, .bool false, .bool false, .bool false, .bool false, .bool false, .bool false, .bool false, .bool false, .bool false, .bool false, .bool false, .bool false, .bool false, .bool false, .bool false, .bool false, .bool false, .bool false, .bool false, .bool false, .bool false, .bool false, .bool false, .bool false, .bool false, .bool false, .bool false, .bool false, .bool false, .bool false, .bool false, .bool false, .bool false, .bool false, .bool false, .bool false, .bool false, .bool false, .bool false, .bool false, .bool false, .bool false, .bool false, .bool false, .bool false, .bool false, .bool false, .bool false, .bool false, .bool false, .bool false, .bool false, .bool false, .bool false, .bool false, .bool false, .bool false, .bool false, .bool false, .bool false, .bool false, .bool false, .bool false, .bool false, .bool false, .bool false, .bool false, .bool false, .bool false, .bool false, .bool false, .bool false, .bool false, .bool false, .bool false, .bool false, .bool false, .bool false, .bool false, .bool false, .bool false, .bool false, .bool false, .bool false, .bool false, .bool false, .bool false, .bool false, .bool false, .bool false, .bool false, .bool false, .bool false, .bool false, .bool false, .bool false, .bool false, .bool false, .bool false, .bool false, .bool false, .bool false, .bool false, .bool false, .bool false, .bool false, .bool false, .bool false, .bool false, .bool false, .bool false, .bool false, .bool false, .bool false, .bool false, .bool false, .bool false, .bool false, .bool false, .bool false, .bool false, .bool false, .bool false, .bool false, .bool false, .bool false, .bool false, .bool false, .bool false, .bool false, .bool false]⟩) := by kernel_rfl
theorem sz230 : (Tryd.prog.info? 230).map (·.size) = some 1 := by kernel_rfl
theorem by230 : (Tryd.prog.info? 230).map (·.bytes) = some 0 := by kernel_rfl
theorem zr230 : (Tryd.prog.info? 230).bind (·.zero) = some (.tuple ⟨[.agg ⟨[.bool false, .bool false, .bool false, .bool false, .bool false, .bool false, .bool false, .bool false, .bool false, .bool false, .bool false, .bool false, .bool false, .bool false, .bool false, .bool false, .bool false, .bool false, .bool false, .bool false, .bool false, .bool false, .bool false, .bool false, .bool false, .bool false, .bool false, .bool false, .bool false, .bool false, .bool false, .bool false, .bool false, .bool false, .bool false, .bool false, .bool false, .bool false, .bool false, .bool false, .bool false, .bool false, .bool false, .bool false, .bool false, .bool false, .bool false, .bool false, .bool false, .bool false, .bool false, .bool false, .bool false, .bool false, .bool false, .bool false, .bool false, .bool false, .bool false, .bool false, .bool false, .bool false, .bool false, .bool false, .bool false, .bool false, .bool false, .bool false, .bool false, .bool false, .bool false, .bool false, .bool false, .bool false, .bool false, .bool false, .bool false, .bool false, .bool false, .bool false, .bool false, .bool false, .bool false, .bool false, .bool false, .bool false, .bool false, .bool false, .bool false, .bool false, .bool false, .bool false, .bool false, .bool false, .bool false, .bool false, .bool false, .bool false, .bool false, .bool false, .bool false, .bool false, .bool false, .bool false, .bool false, .bool false, .bool false, .bool false, .bool false, .bool false, .bool false, .bool false, .bool false, .bool false, .bool false, .bool false, .bool false, .bool false, .bool false, .bool false, .bool false, .bool false, .bool false, .bool false, .bool false, .bool false, .bool false, .bool false, .bool false, .bool false, .bool false, .bool false, .bool false, .bool false, .bool false, .bool false, .bool false, .bool false, .bool false, .bool false, .bool false, .bool false, .bool false, .bool false, .bool false, .bool false, .bool false, .bool false, .bool false, .bool false, .bool false, .bool false, .bool false, .bool false, .bool false, .bool false, .bool false, .bool false, .bool false, .bool false, .bool false, .bool false, .bool false, .bool false, .bool false, .bool false, .bool false, .bool false, .bool false, .bool false, .bool false, .bool false, .bool false, .bool false, .bool false, .bool false, .bool false, .bool false, .bool false, .bool false, .bool false, .bool false, .bool false, .bool false, .bool false, .bool false, .bool false, .bool false, .bool false, .bool false, .bool false, .bool false, .bool false, .bool false, .bool false, .bool false, .bool false, .bool false, .bool false, .bool false, .bool false, .bool false, .bool false, .bool false, .bool false, .bool false, .bool false, .bool false, .bool false, .bool false, .bool false, .bool false, .bool false, .bool false, .bool false, .bool false, .bool false, .bool false, .bool false, .bool false, .bool false, .bool false, .bool false, .bool false, .bool false, .bool false, .bool false, .bool false, .bool false, .bool false, .bool false, .bool false, .bool false, .bool false, .bool false, .bool false, .bool false, .bool false, .bool false, .bool false, .bool false, .bool false, .bool false, .bool false, .bool false, .bool false, .bool false, .bool false, .bool false, .bool false, .bool false, .bool false, .bool false, .bool false, .bool false, .bool false]⟩, .bool false]⟩) := by kernel_rfl
theorem sz231 : (Tryd.prog.info? 231).map (·.size) = some 1 := by kernel_rfl
theorem by231 : (Tryd.prog.info? 231).map (·.bytes) = some 8 := by kernel_rfl
theorem zr231 : (Tryd.prog.info? 231).bind (·.zero) = some (.nilFunc) := by kernel_rfl
theorem sz232 : (Tryd.prog.info? 232).map (·.size) = some 1 := by kernel_rfl
theorem by232 : (Tryd.prog.info? 232).map (·.bytes) = some 8 := by kernel_rfl
theorem zr232 : (Tryd.prog.info? 232).bind (·.zero) = some (.nilFunc) := by kernel_rfl
theorem sz233 : (Tryd.prog.info? 233).map (·.size) = some 1 := by kernel_rfl
theorem by233 : (Tryd.prog.info? 233).map (·.bytes) = some 8 := by kernel_rfl
theorem zr233 : (Tryd.prog.info? 233).bind (·.zero) = some (.pointer none) := by kernel_rfl
theorem sz234 : (Tryd.prog.info? 234).map (·.size) = some 1 := by kernel_rfl
theorem by234 : (Tryd.prog.info? 234).map (·.bytes) = some 8 := by kernel_rfl
theorem zr234 : (Tryd.prog.info? 234).bind (·.zero) = some (.nilFunc) := by kernel_rfl
theorem sz235 : (Tryd.prog.info? 235).map (·.size) = some 1 := by kernel_rfl
theorem by235 : (Tryd.prog.info? 235).map (·.bytes) = some 0 := by kernel_rfl
theorem zr235 : (Tryd.prog.info? 235).bind (·.zero) = some (.tuple ⟨[.int .u64 0, .nilIface]⟩) := by kernel_rfl
theorem sz236 : (Tryd.prog.info? 236).map (·.size) = some 1 := by kernel_rfl
theorem by236 : (Tryd.prog.info? 236).map (·.bytes) = some 8 := by kernel_rfl
theorem zr236 : (Tryd.prog.info? 236).bind (·.zero) = some (.nilFunc) := by kernel_rfl
theorem sz237 : (Tryd.prog.info? 237).map (·.size) = some 3 := by kernel_rfl
theorem by237 : (Tryd.prog.info? 237).map (·.bytes) = some 48 := by kernel_rfl
theorem zr237 : (Tryd.prog.info? 237).bind (·.zero) = some (.agg ⟨[.string ⟨⟨[]⟩⟩, .string ⟨⟨[]⟩⟩, .nilIface]⟩) := by kernel_rfl
theorem sz238 : (Tryd.prog.info? 238).map (·.size) = some 3 := by kernel_rfl
theorem by238 : (Tryd.prog.info? 238).map (·.bytes) = some 48 := by kernel_rfl
theorem zr238 : (Tryd.prog.info? 238).bind (·.zero) = some (.agg ⟨[.string ⟨⟨[]⟩⟩, .string ⟨⟨[]⟩⟩, .nilIface]⟩) := by kernel_rfl
theorem sz239 : (Tryd.prog.info? 239).map (·.size) = some 1 := by kernel_rfl
theorem by239 : (Tryd.prog.info? 239).map (·.bytes) = some 8 := by kernel_rfl
theorem zr239 : (Tryd.prog.info? 239).bind (·.zero) = some (.nilFunc) := by kernel_rfl
theorem sz240 : (Tryd.prog.info? 240).map (·.size) = some 24 := by kernel_rfl
theorem by240 : (Tryd.prog.info? 240).map (·.bytes) = some 24 := by kernel_rfl
theorem zr240 : (Tryd.prog.info? 240).bind (·.zero) = some (.agg ⟨[.int .u8 0, .int .u8 0, .int .u8 0, .int .u8 0, .int .u8 0, .int .u8 0, .int .u8 0, .int .u8 0, .int .u8 0, .int .u8 0, .int .u8 0, .int .u8 0, .int .u8 0, .int .u8 0, .int .u8 0, .int .u8 0, .int .u8 0, .int .u8 0, .int .u8 0, .int .u8 0, .int .u8 0, .int .u8 0, .int .u8 0, .int .u8 0]⟩) := by kernel_rfl
theorem sz241 : (Tryd.prog.info? 241).map (·.size) = some 1 := by kernel_rfl
theorem by241 : (Tryd.prog.info? 241).map (·.bytes) = some 8 := by kernel_rfl
theorem zr241 : (Tryd.prog.info? 241).bind (·.zero) = some (.nilFunc) := by kernel_rfl
theorem sz242 : (Tryd.prog.info? 242).map (·.size) = some 1 := by kernel_rfl
theorem by242 : (Tryd.prog.info? 242).map (·.bytes) = some 8 := by kernel_rfl
theorem zr242 : (Tryd.prog.info? 242).bind (·.zero) = some (.nilFunc) := by kernel_rfl
theorem sz243 : (Tryd.prog.info? 243).map (·.size) = some 1 := by kernel_rfl
theorem by243 : (Tryd.prog.info? 243).map (·.bytes) = some 0 := by kernel_rfl
theorem zr243 : (Tryd.prog.info? 243).bind (·.zero) = some (.tuple ⟨[.slice none 0 0, .string ⟨⟨[]⟩⟩]⟩) := by kernel_rfl
theorem sz244 : (Tryd.prog.info? 244).map (·.size) = some 1 := by kernel_rfl
theorem by244 : (Tryd.prog.info? 244).map (·.bytes) = some 8 := by kernel_rfl
theorem zr244 : (Tryd.prog.info? 244).bind (·.zero) = some (.nilFunc) := by kernel_rfl
theorem sz245 : (Tryd.prog.info? 245).map (·.size) = some 1 := by kernel_rfl
theorem by245 : (Tryd.prog.info? 245).map (·.bytes) = some 8 := by kernel_rfl
theorem zr245 : (Tryd.prog.info? 245).bind (·.zero) = some (.nilFunc) := by kernel_rfl
theorem sz246 : (Tryd.prog.info? 246).map (·.size) = some 1 := by kernel_rfl
theorem by246 : (Tryd.prog.info? 246).map (·.bytes) = some 8 := by kernel_rfl
theorem zr246 : (Tryd.prog.info? 246).bind (·.zero) = some (.nilFunc) := by kernel_rfl
theorem sz247 : (Tryd.prog.info? 247).map (·.size) = some 1 := by kernel_rfl
theorem by247 : (Tryd.prog.info? 247).map (·.bytes) = some 8 := by kernel_rfl
theorem zr247 : (Tryd.prog.info? 247).bind (·.zero) = some (.nilFunc) := by kernel_rfl
theorem sz248 : (Tryd.prog.info? 248).map (·.size) = some 256 := by kernel_rfl
theorem by248 : (Tryd.prog.info? 248).map (·.bytes) = some 256 := by kernel_rfl
theorem zr248 : (Tryd.prog.info? 248).bind (·.zero) = some (.agg ⟨[.int .u8 0, .int .u8 0, .int .u8 0, .int .u8 0, .int .u8 0, .int .u8 0, .int .u8 0, .int .u8 0, .int .u8 0, .int .u8 0, .int .u8 0, .int .u8 0, .int .u8 0, .int .u8 0, .int .u8 0, .int .u8 0, .int .u8 0, .int .u8 0, .int .u8 0, .int .u8 0, .int .u8 0, .int .u8 0, .int .u8 0, .int .u8 0, .int .u8 0, .int .u8 0, .int .u8 0, .int .u8 0, .int .u8 0, .int .u8 0, .int .u8 0, .int .u8 0, .int .u8 0, .int .u8 0, .int .u8 0, .int .u8 0, .int .u8 0, .int .u8 0, .int .u8 0, .int .u8 0, .int .u8 0, .int .u8 0, .int .u8 0, .int .u8 0, .int .u8 0, .int .u8 0, .int .u8 0, .int .u8 0, .int .u8 0, .int .u8 0, .int .u8 0, .int .u8 0, .int .u8 0, .int .u8 0, .int .u8 0, .int .u8 0, .int .u8 0, .int .u8 0, .int .u8 0, .int .u8 0, .int .u8 0, .int .u8 0, .int .u8 0, .int .u8 0, .int .u8 0, .int .u8 0, .int .u8 0, .int .u8 0, .int .u8 0, .int .u8 0, .int .u8 0, .int .u8 0, .int .u8 0, .int .u8 0, .int .u8 0, .int .u8 0, .int .u8 0, .int .u8 0, .int .u8 0, .int .u8 0, .int .u8 0, .int .u8 0, .int .u8 0, .int .u8 0, .int .u8 0, .int .u8 0, .int .u8 0, .int .u8 0, .int .u8 0, .int .u8 0, .int .u8 0, .int .u8 0, .int .u8 0, .int .u8 0, .int .u8 0, .int .u8 0, .int .u8 0, .int .u8 0, .int .u8 0, .int .u8 0, .int .u8 0, .int .u8 0, .int .u8 0, .int .u8 0, .int .u8 0, .int .u8 0, .int .u8 0, .int .u8 0, .int .u8 0, .int .u8 0, .int .u8 0, .int .u8 0, .int .u8 0, .int .u8 0, .int .u8 0, .int .u8 0, .int .u8 0, .int .u8 0, .int .u8 0, .int .u8 0, .int .u8 0, .int .u8 0, .int .u8 0, .int .u8 0, .int .u8 0, .int .u8 0, .int .u8 0, .int .u8 0, .int .u8 0, .int .u8 0, .int .u8 0, .int .u8 0, .int .u8 0, .int .u8 0, .int .u8 0, .int .u8 0, .int .u8 0, .int .u8 0, .int .u8 0, .int .u8 0, .int .u8 0, .int .u8 0, .int .u8 0, .int .u8 0, .int .u8 0, .int .u8 0, .int .u8 0, .int .u8 0, .int .u8 0, .int .u8 0, .int .u8 0, .int .u8 0, .int .u8 0, .int .u8 0, .int .u8 0, .int .u8 0, .int .u8 0, .int .u8 0, .int .u8 0, .int .u8 0, .int .u8 0, .int .u8 0, .int .u8 0, .int .u8 0, .int .u8 0, .int .u8 0, .int .u8 0, .int .u8 0, .int .u8 0, .int .u8 0, .int .u8 0, .int .u8 0, .int .u8 0, .int .u8 0, .int .u8 0, .int .u8 0, .int .u8 0, .int .u8 0, .int .u8 0, .int .u8 0, .int .u8 0, .int .u8 0, .int .u8 0, .int .u8 0, .int .u8 0, .int .u8 0, .int .u8 0, .int .u8 0, .int .u8 0, .int .u8 0, .int .u8 0, .int .u8 0, .int .u8 0, .int .u8 0, .int .u8 0, .int .u8 0, .int .u8 0, .int .u8 0, .int .u8 0, .int .u8 0, .int .u8 0, .int .u8 0, .int .u8 0, .int .u8 0, .int .u8 0, .int .u8 0, .int .u8 0, .int .u8 0, .int .u8 0, .int .u8 0, .int .u8 0, .int .u8 0, .int .u8 0, .int .u8 0, .int .u8 0, .int .u8 0, .int .u8 0, .int .u8 0, .int .u8 0, .int .u8 0, .int .u8 0, .int .u8 0, .int .u8 0, .int .u8 0, .int .u8 0, .int .u8 0, .int .u8 0, .int .u8 0, .int .u8 0, .int .u8 0, .int .u8 0, .int .u8 0, .int .u8 0, .int .u8 0, .int .u8 0, .int .u8 0, .int .u8 0, .int .u8 0, .int .u8 0, .int .u8 0, .int .u8 0, .int .u8 0, .int .u8 0, .int .u8 0, .int .u8 0, .int .u8 0, .int .u8 0, .int .u8 0, .int .u8 0, .int .u8 0, .int .u8 0, .int .u8 0, .int .u8 0, .int .u8 0, .int .u8 0, .int .u8 0]⟩) := by kernel_rfl
theorem sz249 : (Tryd.prog.info? 249).map (·.size) = some 2 := by kernel_rfl
theorem by249 : (Tryd.prog.info? 249).map (·.bytes) = some 2 := by kernel_rfl
theorem zr249 : (Tryd.prog.info? 249).bind (·.zero) = some (.agg ⟨[.int .u8 0, .int .u8 0]⟩) := by kernel_rfl
theorem sz250 : (Tryd.prog.info? 250).map (·.size) = some 2 := by kernel_rfl
theorem by250 : (Tryd.prog.info? 250).map (·.bytes) = some 2 := by kernel_rfl
theorem zr250 : (Tryd.prog.info? 250).bind (·.zero) = some (.agg ⟨[.int .u8 0, .int .u8 0]⟩) := by kernel_rfl
theorem sz251 : (Tryd.prog.info? 251).map (·.size) = some 32 := by kernel_rfl
theorem by251 : (Tryd.prog.info? 251).map (·.bytes) = some 32 := by kernel_rfl
theorem zr251 : (Tryd.prog.info? 251).bind (·.zero) = some (.agg ⟨[.int .u8 0, .int .u8 0, .int .u8 0, .int .u8 0, .int .u8 0, .int .u8 0, .int .u8 0, .int .u8 0, .int .u8 0, .int .u8 0, .int .u8 0, .int .u8 0, .int .u8 0, .int .u8 0, .int .u8 0, .int .u8 0, .int .u8 0, .int .u8 0, .int .u8 0, .int .u8 0, .int .u8 0, .int .u8 0, .int .u8 0, .int .u8 0, .int .u8 0, .int .u8 0, .int .u8 0, .int .u8 0, .int .u8 0, .int .u8 0, .int .u8 0, .int .u8 0]⟩) := by kernel_rfl
theorem sz252 : (Tryd.prog.info? 252).map (·.size) = some 1 := by kernel_rfl
theorem by252 : (Tryd.prog.info? 252).map (·.bytes) = some 8 := by kernel_rfl
theorem zr252 : (Tryd.prog.info? 252).bind (·.zero) = some (.nilFunc) := by kernel_rfl
theorem sz253 : (Tryd.prog.info? 253).map (·.size) = some 1 := by kernel_rfl
theorem by253 : (Tryd.prog.info? 253).map (·.bytes) = some 8 := by kernel_rfl
theorem zr253 : (Tryd.prog.info? 253).bind (·.zero) = some (.pointer none) := by kernel_rfl
theorem sz254 : (Tryd.prog.info? 254).map (·.size) = some 1 := by kernel_rfl
theorem by254 : (Tryd.prog.info? 254).map (·.bytes) = some 16 := by kernel_rfl
theorem zr254 : (Tryd.prog.info? 254).bind (·.zero) = some (.agg ⟨[.string ⟨⟨[]⟩⟩]⟩) := by kernel_rfl
theorem sz255 : (Tryd.prog.info? 255).map (·.size) = some 1 := by kernel_rfl
theorem by255 : (Tryd.prog.info? 255).map (·.bytes) = some 16 := by kernel_rfl
theorem zr255 : (Tryd.prog.info? 255).bind (·.zero) = some (.agg ⟨[.string ⟨⟨[]⟩⟩]⟩) := by kernel_rfl
theorem sz256 : (Tryd.prog.info? 256).map (·.size) = some 1 := by kernel_rfl
theorem by256 : (Tryd.prog.info? 256).map (·.bytes) = some 8 := by kernel_rfl
theorem zr256 : (Tryd.prog.info? 256).bind (·.zero) = some (.nilFunc) := by kernel_rfl
theorem sz257 : (Tryd.prog.info? 257).map (·.size) = some 20 := by kernel_rfl
theorem by257 : (Tryd.prog.info? 257).map (·.bytes) = some 160 := by kernel_rfl
theorem zr257 : (Tryd.prog.info? 257).bind (·.zero) = some (.agg ⟨[.int .u64 0, .int .u64 0, .int .u64 0, .int .u64 0, .int .u64 0, .int .u64 0, .int .u64 0, .int .u64 0, .int .u64 0, .int .u64 0, .int .u64 0, .int .u64 0, .int .u64 0, .int .u64 0, .int .u64 0, .int .u64 0, .int .u64 0, .int .u64 0, .int .u64 0, .int .u64 0]⟩) := by kernel_rfl
theorem sz258 : (Tryd.prog.info? 258).map (·.size) = some 65 := by kernel_rfl
theorem by258 : (Tryd.prog.info? 258).map (·.bytes) = some 65 := by kernel_rfl
theorem zr258 : (Tryd.prog.info? 258).bind (·.zero) = some (.agg ⟨[.int .u8 0, .int .u8 0, .int .u8 0, .int .u8 0, .int .u8 0, .int .u8 0, .int .u8 0, .int .u8 0, .int .u8 0, .int .u8 0, .int .u8 0, .int .u8 0, .int .u8 0, .int .u8 0, .int .u8 0, .int .u8 0, .int .u8 0, .int .u8 0, .int .u8 0, .int .u8 0, .int .u8 0, .int .u8 0, .int .u8 0, .int .u8 0, .int .u8 0, .int .u8 0, .int .u8 0, .int .u8 0, .int .u8 0, .int .u8 0, .int .u8 0, .int .u8 0, .int .u8 0, .int .u8 0, .int .u8 0, .int .u8 0, .int .u8 0, .int .u8 0, .int .u8 0, .int .u8 0, .int .u8 0, .int .u8 0, .int .u8 0, .int .u8 0, .int .u8 0, .int .u8 0, .int .u8 0, .int .u8 0, .int .u8 0, .int .u8 0, .int .u8 0, .int .u8 0, .int .u8 0, .int .u8 0, .int .u8 0, .int .u8 0, .int .u8 0, .int .u8 0, .int .u8 0, .int .u8 0, .int .u8 0, .int .u8 0, .int .u8 0, .int .u8 0, .int .u8 0]⟩) := by kernel_rfl
theorem sz259 : (Tryd.prog.info? 259).map (·.size) = some 1 := by kernel_rfl
theorem by259 : (Tryd.prog.info? 259).map (·.bytes) = some 8 := by kernel_rfl
theorem zr259 : (Tryd.prog.info? 259).bind (·.zero) = some (.nilFunc) := by kernel_rfl
theorem sz260 : (Tryd.prog.info? 260).map (·.size) = some 1 := by kernel_rfl
theorem by260 : (Tryd.prog.info? 260).map (·.bytes) = some 8 := by kernel_rfl
theorem zr260 : (Tryd.prog.info? 260).bind (·.zero) = some (.nilFunc) := by kernel_rfl
theorem sz261 : (Tryd.prog.info? 261).map (·.size) = some 1 := by kernel_rfl
theorem by261 : (Tryd.prog.info? 261).map (·.bytes) = some 8 := by kernel_rfl
theorem zr261 : (Tryd.prog.info? 261).bind (·.zero) = some (.nilFunc) := by kernel_rfl
theorem sz262 : (Tryd.prog.info? 262).map (·.size) = some 1 := by kernel_rfl
theorem by262 : (Tryd.prog.info? 262).map (·.bytes) = some 8 := by kernel_rfl
theorem zr262 : (Tryd.prog.info? 262).bind (·.zero) = some (.nilFunc) := by kernel_rfl
theorem sz263 : (Tryd.prog.info? 263).map (·.size) = some 32 := by kernel_rfl
theorem by263 : (Tryd.prog.info? 263).map (·.bytes) = some 32 := by kernel_rfl
theorem zr263 : (Tryd.prog.info? 263).bind (·.zero) = some (.agg ⟨[.int .u8 0, .int .u8 0, .int .u8 0, .int .u8 0, .int .u8 0, .int .u8 0, .int .u8 0, .int .u8 0, .int .u8 0, .int .u8 0, .int .u8 0, .int .u8 0, .int .u8 0, .int .u8 0, .int .u8 0, .int .u8 0, .int .u8 0, .int .u8 0, .int .u8 0, .int .u8 0, .int .u8 0, .int .u8 0, .int .u8 0, .int .u8 0, .int .u8 0, .int .u8 0, .int .u8 0, .int .u8 0, .int .u8 0, .int .u8 0, .int .u8 0, .int .u8 0]⟩) := by kernel_rfl
theorem sz264 : (Tryd.prog.info? 264).map (·.size) = some 64 := by kernel_rfl
theorem by264 : (Tryd.prog.info? 264).map (·.bytes) = some 64 := by kernel_rfl
theorem zr264 : (Tryd.prog.info? 264).bind (·.zero) = some (.agg ⟨[.int .u8 0, .int .u8 0, .int .u8 0, .int .u8 0, .int .u8 0, .int .u8 0, .int .u8 0, .int .u8 0, .int .u8 0, .int .u8 0, .int .u8 0, .int .u8 0, .int .u8 0, .int .u8 0, .int .u8 0, .int .u8 0, .int .u8 0, .int .u8 0, .int .u8 0, .int .u8 0, .int .u8 0, .int .u8 0, .int .u8 0, .int .u8 0, .int .u8 0, .int .u8 0, .int .u8 0, .int .u8 0, .int .u8 0, .int .u8 0, .int .u8 0, .int .u8 0, .int .u8 0, .int .u8 0, .int .u8 0, .int .u8 0, .int .u8 0, .int .u8 0, .int .u8 0, .int .u8 0, .int .u8 0, .int .u8 0, .int .u8 0, .int .u8 0, .int .u8 0, .int .u8 0, .int .u8 0, .int .u8 0, .int .u8 0, .int .u8 0, .int .u8 0, .int .u8 0, .int .u8 0, .int .u8 0, .int .u8 0, .int .u8 0, .int .u8 0, .int .u8 0, .int .u8 0, .int .u8 0, .int .u8 0, .int .u8 0, .int .u8 0, .int .u8 0]⟩) := by kernel_rfl
theorem sz265 : (Tryd.prog.info? 265).map (·.size) = some 4 := by kernel_rfl
theorem by265 : (Tryd.prog.info? 265).map (·.bytes) = some 40 := by kernel_rfl
theorem zr265 : (Tryd.prog.info? 265).bind (·.zero) = some (.agg ⟨[.pointer none, .pointer none, .pointer none, .string ⟨⟨[]⟩⟩]⟩) := by kernel_rfl
theorem sz266 : (Tryd.prog.info? 266).map (·.size) = some 4 := by kernel_rfl
theorem by266 : (Tryd.prog.info? 266).map (·.bytes) = some 40 := by kernel_rfl
theorem zr266 : (Tryd.prog.info? 266).bind (·.zero) = some (.agg ⟨[.pointer none, .pointer none, .pointer none, .string ⟨⟨[]⟩⟩]⟩) := by kernel_rfl
theorem sz267 : (Tryd.prog.info? 267).map (·.size) = some 0 := by kernel_rfl
theorem by267 : (Tryd.prog.info? 267).map (·.bytes) = some 0 := by kernel_rfl
theorem zr267 : (Tryd.prog.info? 267).bind (·.zero) = some (.agg ⟨[]⟩) := by kernel_rfl
theorem sz268 : (Tryd.prog.info? 268).map (·.size) = some 0 := by kernel_rfl
theorem by268 : (Tryd.prog.info? 268).map (·.bytes) = some 0 := by kernel_rfl
theorem zr268 : (Tryd.prog.info? 268).bind (·.zero) = some (.agg ⟨[]⟩) := by kernel_rfl
theorem sz269 : (Tryd.prog.info? 269).map (·.size) = some 0 := by kernel_rfl
theorem by269 : (Tryd.prog.info? 269).map (·.bytes) = some 0 := by kernel_rfl
theorem zr269 : (Tryd.prog.info? 269).bind (·.zero) = some (.agg ⟨[]⟩) := by kernel_rfl
theorem sz270 : (Tryd.prog.info? 270).map (·.size) = some 1 := by kernel_rfl
theorem by270 : (Tryd.prog.info? 270).map (·.bytes) = some 8 := by kernel_rfl
theorem zr270 : (Tryd.prog.info? 270).bind (·.zero) = some (.nilFunc) := by kernel_rfl
theorem sz271 : (Tryd.prog.info? 271).map (·.size) = some 1 := by kernel_rfl
theorem by271 : (Tryd.prog.info? 271).map (·.bytes) = some 1 := by kernel_rfl
theorem zr271 : (Tryd.prog.info? 271).bind (·.zero) = some (.int .u8 0) := by kernel_rfl
theorem sz272 : (Tryd.prog.info? 272).map (·.size) = some 1 := by kernel_rfl
theorem by272 : (Tryd.prog.info? 272).map (·.bytes) = some 8 := by kernel_rfl
theorem zr272 : (Tryd.prog.info? 272).bind (·.zero) = some (.nilFunc) := by kernel_rfl
theorem sz273 : (Tryd.prog.info? 273).map (·.size) = some 1 := by kernel_rfl
theorem by273 : (Tryd.prog.info? 273).map (·.bytes) = some 4 := by kernel_rfl
theorem zr273 : (Tryd.prog.info? 273).bind (·.zero) = some (.int .i32 0) := by kernel_rfl
theorem sz274 : (Tryd.prog.info? 274).map (·.size) = some 1 := by kernel_rfl
theorem by274 : (Tryd.prog.info? 274).map (·.bytes) = some 4 := by kernel_rfl
theorem zr274 : (Tryd.prog.info? 274).bind (·.zero) = some (.int .i32 0) := by kernel_rfl
theorem sz275 : (Tryd.prog.info? 275).map (·.size) = some 11 := by kernel_rfl
theorem by275 : (Tryd.prog.info? 275).map (·.bytes) = some 48 := by kernel_rfl
theorem zr275 : (Tryd.prog.info? 275).bind (·.zero) = some (.agg ⟨[.int .u64 0, .int .u64 0, .int .u32 0, .int .u8 0, .int .u8 0, .int .u8 0, .int .u8 0, .nilFunc, .pointer none, .int .i32 0, .int .i32 0]⟩) := by kernel_rfl
theorem sz276 : (Tryd.prog.info? 276).map (·.size) = some 11 := by kernel_rfl
theorem by276 : (Tryd.prog.info? 276).map (·.bytes) = some 48 := by kernel_rfl
theorem zr276 : (Tryd.prog.info? 276).bind (·.zero) = some (.agg ⟨[.int .u64 0, .int .u64 0, .int .u32 0, .int .u8 0, .int .u8 0, .int .u8 0, .int .u8 0, .nilFunc, .pointer none, .int .i32 0, .int .i32 0]⟩) := by kernel_rfl
theorem sz277 : (Tryd.prog.info? 277).map (·.size) = some 1 := by kernel_rfl
theorem by277 : (Tryd.prog.info? 277).map (·.bytes) = some 8 := by kernel_rfl
theorem zr277 : (Tryd.prog.info? 277).bind (·.zero) = some (.nilFunc) := by kernel_rfl
theorem sz278 : (Tryd.prog.info? 278).map (·.size) = some 1 := by kernel_rfl
theorem by278 : (Tryd.prog.info? 278).map (·.bytes) = some 8 := by kernel_rfl
theorem zr278 : (Tryd.prog.info? 278).bind (·.zero) = some (.nilFunc) := by kernel_rfl
theorem sz279 : (Tryd.prog.info? 279).map (·.size) = some 2 := by kernel_rfl
theorem by279 : (Tryd.prog.info? 279).map (·.bytes) = some 24 := by kernel_rfl
theorem zr279 : (Tryd.prog.info? 279).bind (·.zero) = some (.agg ⟨[.string ⟨⟨[]⟩⟩, .int .u8 0]⟩) := by kernel_rfl
theorem sz280 : (Tryd.prog.info? 280).map (·.size) = some 2 := by kernel_rfl
theorem by280 : (Tryd.prog.info? 280).map (·.bytes) = some 24 := by kernel_rfl
theorem zr280 : (Tryd.prog.info? 280).bind (·.zero) = some (.agg ⟨[.string ⟨⟨[]⟩⟩, .int .u8 0]⟩) := by kernel_rfl
theorem sz281 : (Tryd.prog.info? 281).map (·.size) = some 1 := by kernel_rfl
theorem by281 : (Tryd.prog.info? 281).map (·.bytes) = some 8 := by kernel_rfl
theorem zr281 : (Tryd.prog.info? 281).bind (·.zero) = some (.pointer none) := by kernel_rfl
theorem sz282 : (Tryd.prog.info? 282).map (·.size) = some 1 := by kernel_rfl
theorem by282 : (Tryd.prog.info? 282).map (·.bytes) = some 8 := by kernel_rfl
theorem zr282 : (Tryd.prog.info? 282).bind (·.zero) = some (.nilFunc) := by kernel_rfl
theorem sz283 : (Tryd.prog.info? 283).map (·.size) = some 1 := by kernel_rfl
theorem by283 : (Tryd.prog.info? 283).map (·.bytes) = some 2 := by kernel_rfl
theorem zr283 : (Tryd.prog.info? 283).bind (·.zero) = some (.int .u16 0) := by kernel_rfl
theorem sz284 : (Tryd.prog.info? 284).map (·.size) = some 5 := by kernel_rfl
theorem by284 : (Tryd.prog.info? 284).map (·.bytes) = some 16 := by kernel_rfl
theorem zr284 : (Tryd.prog.info? 284).bind (·.zero) = some (.agg ⟨[.int .i32 0, .int .u16 0, .int .u16 0, .int .u32 0, .int .u32 0]⟩) := by kernel_rfl
theorem sz285 : (Tryd.prog.info? 285).map (·.size) = some 5 := by kernel_rfl
theorem by285 : (Tryd.prog.info? 285).map (·.bytes) = some 16 := by kernel_rfl
theorem zr285 : (Tryd.prog.info? 285).bind (·.zero) = some (.agg ⟨[.int .i32 0, .int .u16 0, .int .u16 0, .int .u32 0, .int .u32 0]⟩) := by kernel_rfl
theorem sz286 : (Tryd.prog.info? 286).map (·.size) = some 1 := by kernel_rfl
theorem by286 : (Tryd.prog.info? 286).map (·.bytes) = some 24 := by kernel_rfl
theorem zr286 : (Tryd.prog.info? 286).bind (·.zero) = some (.slice none 0 0) := by kernel_rfl
theorem sz287 : (Tryd.prog.info? 287).map (·.size) = some 1 := by kernel_rfl
theorem by287 : (Tryd.prog.info? 287).map (·.bytes) = some 4 := by kernel_rfl
theorem zr287 : (Tryd.prog.info? 287).bind (·.zero) = some (.int .i32 0) := by kernel_rfl
theorem sz288 : (Tryd.prog.info? 288).map (·.size) = some 4 := by kernel_rfl
theorem by288 : (Tryd.prog.info? 288).map (·.bytes) = some 16 := by kernel_rfl
theorem zr288 : (Tryd.prog.info? 288).bind (·.zero) = some (.agg ⟨[.int .i32 0, .int .i32 0, .int .i32 0, .int .i32 0]⟩) := by kernel_rfl
theorem sz289 : (Tryd.prog.info? 289).map (·.size) = some 4 := by kernel_rfl
theorem by289 : (Tryd.prog.info? 289).map (·.bytes) = some 16 := by kernel_rfl
theorem zr289 : (Tryd.prog.info? 289).bind (·.zero) = some (.agg ⟨[.int .i32 0, .int .i32 0, .int .i32 0, .int .i32 0]⟩) := by kernel_rfl
theorem sz290 : (Tryd.prog.info? 290).map (·.size) = some 1 := by kernel_rfl
theorem by290 : (Tryd.prog.info? 290).map (·.bytes) = some 8 := by kernel_rfl
theorem zr290 : (Tryd.prog.info? 290).bind (·.zero) = some (.pointer none) := by kernel_rfl
end Go.Proofs.YtkolfgmpmnelmabDoor
