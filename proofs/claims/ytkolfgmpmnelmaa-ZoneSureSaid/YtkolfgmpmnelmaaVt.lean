/-
  Written by program (mkvt.py): of each type, its number of cells, and its zero value.
-/
import Derived.Test.YtkolfgmpmnelmaaProg
import Derived.KernelRfl
namespace Go.Proofs.Ytkolfgmpmnelmaa
open Go Go.Proofs
theorem mixed : Try.prog.follows .mixedOrders = true := by kernel_rfl
theorem sz0 : (Try.prog.info? 0).map (·.size) = some 1 := by kernel_rfl
theorem by0 : (Try.prog.info? 0).map (·.bytes) = some 0 := by kernel_rfl
theorem zr0 : (Try.prog.info? 0).bind (·.zero) = some (.tuple ⟨[]⟩) := by kernel_rfl
theorem sz1 : (Try.prog.info? 1).map (·.size) = some 1 := by kernel_rfl
theorem by1 : (Try.prog.info? 1).map (·.bytes) = some 8 := by kernel_rfl
theorem zr1 : (Try.prog.info? 1).bind (·.zero) = some (.nilFunc) := by kernel_rfl
theorem sz2 : (Try.prog.info? 2).map (·.size) = some 1 := by kernel_rfl
theorem by2 : (Try.prog.info? 2).map (·.bytes) = some 8 := by kernel_rfl
theorem zr2 : (Try.prog.info? 2).bind (·.zero) = some (.int .i64 0) := by kernel_rfl
theorem sz3 : (Try.prog.info? 3).map (·.size) = some 1 := by kernel_rfl
theorem by3 : (Try.prog.info? 3).map (·.bytes) = some 8 := by kernel_rfl
theorem zr3 : (Try.prog.info? 3).bind (·.zero) = some (.int .i64 0) := by kernel_rfl
theorem sz4 : (Try.prog.info? 4).map (·.size) = some 1 := by kernel_rfl
theorem by4 : (Try.prog.info? 4).map (·.bytes) = some 1 := by kernel_rfl
theorem zr4 : (Try.prog.info? 4).bind (·.zero) = some (.bool false) := by kernel_rfl
theorem sz5 : (Try.prog.info? 5).map (·.size) = some 1 := by kernel_rfl
theorem by5 : (Try.prog.info? 5).map (·.bytes) = some 1 := by kernel_rfl
theorem zr5 : (Try.prog.info? 5).bind (·.zero) = some (.int .u8 0) := by kernel_rfl
theorem sz6 : (Try.prog.info? 6).map (·.size) = some 1 := by kernel_rfl
theorem by6 : (Try.prog.info? 6).map (·.bytes) = some 1 := by kernel_rfl
theorem zr6 : (Try.prog.info? 6).bind (·.zero) = some (.int .u8 0) := by kernel_rfl
theorem sz7 : (Try.prog.info? 7).map (·.size) = some 4 := by kernel_rfl
theorem by7 : (Try.prog.info? 7).map (·.bytes) = some 24 := by kernel_rfl
theorem zr7 : (Try.prog.info? 7).bind (·.zero) = some (.agg ⟨[.int .i64 0, .int .i64 0, .bool false, .int .u8 0]⟩) := by kernel_rfl
theorem sz8 : (Try.prog.info? 8).map (·.size) = some 4 := by kernel_rfl
theorem by8 : (Try.prog.info? 8).map (·.bytes) = some 24 := by kernel_rfl
theorem zr8 : (Try.prog.info? 8).bind (·.zero) = some (.agg ⟨[.int .i64 0, .int .i64 0, .bool false, .int .u8 0]⟩) := by kernel_rfl
theorem sz9 : (Try.prog.info? 9).map (·.size) = some 1 := by kernel_rfl
theorem by9 : (Try.prog.info? 9).map (·.bytes) = some 16 := by kernel_rfl
theorem zr9 : (Try.prog.info? 9).bind (·.zero) = some (.string ⟨⟨[]⟩⟩) := by kernel_rfl
theorem sz10 : (Try.prog.info? 10).map (·.size) = some 1 := by kernel_rfl
theorem by10 : (Try.prog.info? 10).map (·.bytes) = some 16 := by kernel_rfl
theorem zr10 : (Try.prog.info? 10).bind (·.zero) = some (.string ⟨⟨[]⟩⟩) := by kernel_rfl
theorem sz11 : (Try.prog.info? 11).map (·.size) = some 1 := by kernel_rfl
theorem by11 : (Try.prog.info? 11).map (·.bytes) = some 16 := by kernel_rfl
theorem zr11 : (Try.prog.info? 11).bind (·.zero) = some (.string ⟨⟨[]⟩⟩) := by kernel_rfl
theorem sz12 : (Try.prog.info? 12).map (·.size) = some 1 := by kernel_rfl
theorem by12 : (Try.prog.info? 12).map (·.bytes) = some 8 := by kernel_rfl
theorem zr12 : (Try.prog.info? 12).bind (·.zero) = some (.int .u64 0) := by kernel_rfl
theorem sz13 : (Try.prog.info? 13).map (·.size) = some 2 := by kernel_rfl
theorem by13 : (Try.prog.info? 13).map (·.bytes) = some 24 := by kernel_rfl
theorem zr13 : (Try.prog.info? 13).bind (·.zero) = some (.agg ⟨[.string ⟨⟨[]⟩⟩, .int .u64 0]⟩) := by kernel_rfl
theorem sz14 : (Try.prog.info? 14).map (·.size) = some 2 := by kernel_rfl
theorem by14 : (Try.prog.info? 14).map (·.bytes) = some 24 := by kernel_rfl
theorem zr14 : (Try.prog.info? 14).bind (·.zero) = some (.agg ⟨[.string ⟨⟨[]⟩⟩, .int .u64 0]⟩) := by kernel_rfl
theorem sz15 : (Try.prog.info? 15).map (·.size) = some 1 := by kernel_rfl
theorem by15 : (Try.prog.info? 15).map (·.bytes) = some 8 := by kernel_rfl
theorem zr15 : (Try.prog.info? 15).bind (·.zero) = some (.pointer none) := by kernel_rfl
theorem sz16 : (Try.prog.info? 16).map (·.size) = some 1 := by kernel_rfl
theorem by16 : (Try.prog.info? 16).map (·.bytes) = some 8 := by kernel_rfl
theorem zr16 : (Try.prog.info? 16).bind (·.zero) = some (.pointer none) := by kernel_rfl
theorem sz17 : (Try.prog.info? 17).map (·.size) = some 1 := by kernel_rfl
theorem by17 : (Try.prog.info? 17).map (·.bytes) = some 8 := by kernel_rfl
theorem zr17 : (Try.prog.info? 17).bind (·.zero) = some (.pointer none) := by kernel_rfl
theorem sz18 : (Try.prog.info? 18).map (·.size) = some 1 := by kernel_rfl
theorem by18 : (Try.prog.info? 18).map (·.bytes) = some 8 := by kernel_rfl
theorem zr18 : (Try.prog.info? 18).bind (·.zero) = some (.agg ⟨[.pointer none]⟩) := by kernel_rfl
theorem sz19 : (Try.prog.info? 19).map (·.size) = some 1 := by kernel_rfl
theorem by19 : (Try.prog.info? 19).map (·.bytes) = some 8 := by kernel_rfl
theorem zr19 : (Try.prog.info? 19).bind (·.zero) = some (.agg ⟨[.pointer none]⟩) := by kernel_rfl
theorem sz20 : (Try.prog.info? 20).map (·.size) = some 1 := by kernel_rfl
theorem by20 : (Try.prog.info? 20).map (·.bytes) = some 16 := by kernel_rfl
theorem zr20 : (Try.prog.info? 20).bind (·.zero) = some (.nilIface) := by kernel_rfl
theorem sz21 : (Try.prog.info? 21).map (·.size) = some 1 := by kernel_rfl
theorem by21 : (Try.prog.info? 21).map (·.bytes) = some 4 := by kernel_rfl
theorem zr21 : (Try.prog.info? 21).bind (·.zero) = some (.int .i32 0) := by kernel_rfl
theorem sz22 : (Try.prog.info? 22).map (·.size) = some 1 := by kernel_rfl
theorem by22 : (Try.prog.info? 22).map (·.bytes) = some 8 := by kernel_rfl
theorem zr22 : (Try.prog.info? 22).bind (·.zero) = some (.nilFunc) := by kernel_rfl
theorem sz23 : (Try.prog.info? 23).map (·.size) = some 1 := by kernel_rfl
theorem by23 : (Try.prog.info? 23).map (·.bytes) = some 16 := by kernel_rfl
theorem zr23 : (Try.prog.info? 23).bind (·.zero) = some (.nilIface) := by kernel_rfl
theorem sz24 : (Try.prog.info? 24).map (·.size) = some 1 := by kernel_rfl
theorem by24 : (Try.prog.info? 24).map (·.bytes) = some 16 := by kernel_rfl
theorem zr24 : (Try.prog.info? 24).bind (·.zero) = some (.nilIface) := by kernel_rfl
theorem sz25 : (Try.prog.info? 25).map (·.size) = some 1 := by kernel_rfl
theorem by25 : (Try.prog.info? 25).map (·.bytes) = some 0 := by kernel_rfl
theorem zr25 : (Try.prog.info? 25).bind (·.zero) = some (.tuple ⟨[.string ⟨⟨[]⟩⟩, .nilIface]⟩) := by kernel_rfl
theorem sz26 : (Try.prog.info? 26).map (·.size) = some 1 := by kernel_rfl
theorem by26 : (Try.prog.info? 26).map (·.bytes) = some 8 := by kernel_rfl
theorem zr26 : (Try.prog.info? 26).bind (·.zero) = some (.nilFunc) := by kernel_rfl
theorem sz27 : (Try.prog.info? 27).map (·.size) = some 1 := by kernel_rfl
theorem by27 : (Try.prog.info? 27).map (·.bytes) = some 8 := by kernel_rfl
theorem zr27 : (Try.prog.info? 27).bind (·.zero) = some (.nilFunc) := by kernel_rfl
theorem sz28 : (Try.prog.info? 28).map (·.size) = some 1 := by kernel_rfl
theorem by28 : (Try.prog.info? 28).map (·.bytes) = some 8 := by kernel_rfl
theorem zr28 : (Try.prog.info? 28).bind (·.zero) = some (.nilFunc) := by kernel_rfl
theorem sz29 : (Try.prog.info? 29).map (·.size) = some 1 := by kernel_rfl
theorem by29 : (Try.prog.info? 29).map (·.bytes) = some 8 := by kernel_rfl
theorem zr29 : (Try.prog.info? 29).bind (·.zero) = some (.nilFunc) := by kernel_rfl
theorem sz30 : (Try.prog.info? 30).map (·.size) = some 1 := by kernel_rfl
theorem by30 : (Try.prog.info? 30).map (·.bytes) = some 8 := by kernel_rfl
theorem zr30 : (Try.prog.info? 30).bind (·.zero) = some (.nilFunc) := by kernel_rfl
theorem sz31 : (Try.prog.info? 31).map (·.size) = some 1 := by kernel_rfl
theorem by31 : (Try.prog.info? 31).map (·.bytes) = some 8 := by kernel_rfl
theorem zr31 : (Try.prog.info? 31).bind (·.zero) = some (.nilFunc) := by kernel_rfl
theorem sz32 : (Try.prog.info? 32).map (·.size) = some 1 := by kernel_rfl
theorem by32 : (Try.prog.info? 32).map (·.bytes) = some 8 := by kernel_rfl
theorem zr32 : (Try.prog.info? 32).bind (·.zero) = some (.nilFunc) := by kernel_rfl
theorem sz33 : (Try.prog.info? 33).map (·.size) = some 1 := by kernel_rfl
theorem by33 : (Try.prog.info? 33).map (·.bytes) = some 24 := by kernel_rfl
theorem zr33 : (Try.prog.info? 33).bind (·.zero) = some (.slice none 0 0) := by kernel_rfl
theorem sz34 : (Try.prog.info? 34).map (·.size) = some 1 := by kernel_rfl
theorem by34 : (Try.prog.info? 34).map (·.bytes) = some 24 := by kernel_rfl
theorem zr34 : (Try.prog.info? 34).bind (·.zero) = some (.slice none 0 0) := by kernel_rfl
theorem sz35 : (Try.prog.info? 35).map (·.size) = some 1 := by kernel_rfl
theorem by35 : (Try.prog.info? 35).map (·.bytes) = some 24 := by kernel_rfl
theorem zr35 : (Try.prog.info? 35).bind (·.zero) = some (.slice none 0 0) := by kernel_rfl
theorem sz36 : (Try.prog.info? 36).map (·.size) = some 1 := by kernel_rfl
theorem by36 : (Try.prog.info? 36).map (·.bytes) = some 8 := by kernel_rfl
theorem zr36 : (Try.prog.info? 36).bind (·.zero) = some (.nilFunc) := by kernel_rfl
theorem sz37 : (Try.prog.info? 37).map (·.size) = some 1 := by kernel_rfl
theorem by37 : (Try.prog.info? 37).map (·.bytes) = some 8 := by kernel_rfl
theorem zr37 : (Try.prog.info? 37).bind (·.zero) = some (.pointer none) := by kernel_rfl
theorem sz38 : (Try.prog.info? 38).map (·.size) = some 1 := by kernel_rfl
theorem by38 : (Try.prog.info? 38).map (·.bytes) = some 8 := by kernel_rfl
theorem zr38 : (Try.prog.info? 38).bind (·.zero) = some (.nilFunc) := by kernel_rfl
theorem sz39 : (Try.prog.info? 39).map (·.size) = some 1 := by kernel_rfl
theorem by39 : (Try.prog.info? 39).map (·.bytes) = some 0 := by kernel_rfl
theorem zr39 : (Try.prog.info? 39).bind (·.zero) = some (.tuple ⟨[.int .i64 0, .nilIface]⟩) := by kernel_rfl
theorem sz40 : (Try.prog.info? 40).map (·.size) = some 1 := by kernel_rfl
theorem by40 : (Try.prog.info? 40).map (·.bytes) = some 8 := by kernel_rfl
theorem zr40 : (Try.prog.info? 40).bind (·.zero) = some (.nilFunc) := by kernel_rfl
theorem sz41 : (Try.prog.info? 41).map (·.size) = some 1 := by kernel_rfl
theorem by41 : (Try.prog.info? 41).map (·.bytes) = some 8 := by kernel_rfl
theorem zr41 : (Try.prog.info? 41).bind (·.zero) = some (.nilFunc) := by kernel_rfl
theorem sz42 : (Try.prog.info? 42).map (·.size) = some 1 := by kernel_rfl
theorem by42 : (Try.prog.info? 42).map (·.bytes) = some 8 := by kernel_rfl
theorem zr42 : (Try.prog.info? 42).bind (·.zero) = some (.nilFunc) := by kernel_rfl
theorem sz43 : (Try.prog.info? 43).map (·.size) = some 1 := by kernel_rfl
theorem by43 : (Try.prog.info? 43).map (·.bytes) = some 8 := by kernel_rfl
theorem zr43 : (Try.prog.info? 43).bind (·.zero) = some (.nilFunc) := by kernel_rfl
theorem sz44 : (Try.prog.info? 44).map (·.size) = some 8 := by kernel_rfl
theorem by44 : (Try.prog.info? 44).map (·.bytes) = some 192 := by kernel_rfl
theorem zr44 : (Try.prog.info? 44).bind (·.zero) = some (.agg ⟨[.slice none 0 0, .slice none 0 0, .slice none 0 0, .slice none 0 0, .slice none 0 0, .slice none 0 0, .slice none 0 0, .slice none 0 0]⟩) := by kernel_rfl
theorem sz45 : (Try.prog.info? 45).map (·.size) = some 2 := by kernel_rfl
theorem by45 : (Try.prog.info? 45).map (·.bytes) = some 32 := by kernel_rfl
theorem zr45 : (Try.prog.info? 45).bind (·.zero) = some (.agg ⟨[.string ⟨⟨[]⟩⟩, .string ⟨⟨[]⟩⟩]⟩) := by kernel_rfl
theorem sz46 : (Try.prog.info? 46).map (·.size) = some 10 := by kernel_rfl
theorem by46 : (Try.prog.info? 46).map (·.bytes) = some 224 := by kernel_rfl
theorem zr46 : (Try.prog.info? 46).bind (·.zero) = some (.agg ⟨[.slice none 0 0, .slice none 0 0, .slice none 0 0, .slice none 0 0, .slice none 0 0, .slice none 0 0, .slice none 0 0, .slice none 0 0, .string ⟨⟨[]⟩⟩, .string ⟨⟨[]⟩⟩]⟩) := by kernel_rfl
theorem sz47 : (Try.prog.info? 47).map (·.size) = some 10 := by kernel_rfl
theorem by47 : (Try.prog.info? 47).map (·.bytes) = some 224 := by kernel_rfl
theorem zr47 : (Try.prog.info? 47).bind (·.zero) = some (.agg ⟨[.slice none 0 0, .slice none 0 0, .slice none 0 0, .slice none 0 0, .slice none 0 0, .slice none 0 0, .slice none 0 0, .slice none 0 0, .string ⟨⟨[]⟩⟩, .string ⟨⟨[]⟩⟩]⟩) := by kernel_rfl
theorem sz48 : (Try.prog.info? 48).map (·.size) = some 1 := by kernel_rfl
theorem by48 : (Try.prog.info? 48).map (·.bytes) = some 8 := by kernel_rfl
theorem zr48 : (Try.prog.info? 48).bind (·.zero) = some (.nilFunc) := by kernel_rfl
theorem sz49 : (Try.prog.info? 49).map (·.size) = some 1 := by kernel_rfl
theorem by49 : (Try.prog.info? 49).map (·.bytes) = some 8 := by kernel_rfl
theorem zr49 : (Try.prog.info? 49).bind (·.zero) = some (.nilFunc) := by kernel_rfl
theorem sz50 : (Try.prog.info? 50).map (·.size) = some 1 := by kernel_rfl
theorem by50 : (Try.prog.info? 50).map (·.bytes) = some 8 := by kernel_rfl
theorem zr50 : (Try.prog.info? 50).bind (·.zero) = some (.nilFunc) := by kernel_rfl
theorem sz51 : (Try.prog.info? 51).map (·.size) = some 1 := by kernel_rfl
theorem by51 : (Try.prog.info? 51).map (·.bytes) = some 24 := by kernel_rfl
theorem zr51 : (Try.prog.info? 51).bind (·.zero) = some (.slice none 0 0) := by kernel_rfl
theorem sz52 : (Try.prog.info? 52).map (·.size) = some 1 := by kernel_rfl
theorem by52 : (Try.prog.info? 52).map (·.bytes) = some 8 := by kernel_rfl
theorem zr52 : (Try.prog.info? 52).bind (·.zero) = some (.nilFunc) := by kernel_rfl
theorem sz53 : (Try.prog.info? 53).map (·.size) = some 1 := by kernel_rfl
theorem by53 : (Try.prog.info? 53).map (·.bytes) = some 8 := by kernel_rfl
theorem zr53 : (Try.prog.info? 53).bind (·.zero) = some (.nilFunc) := by kernel_rfl
theorem sz54 : (Try.prog.info? 54).map (·.size) = some 1 := by kernel_rfl
theorem by54 : (Try.prog.info? 54).map (·.bytes) = some 8 := by kernel_rfl
theorem zr54 : (Try.prog.info? 54).bind (·.zero) = some (.nilFunc) := by kernel_rfl
theorem sz55 : (Try.prog.info? 55).map (·.size) = some 3 := by kernel_rfl
theorem by55 : (Try.prog.info? 55).map (·.bytes) = some 32 := by kernel_rfl
theorem zr55 : (Try.prog.info? 55).bind (·.zero) = some (.agg ⟨[.int .i64 0, .int .i64 0, .string ⟨⟨[]⟩⟩]⟩) := by kernel_rfl
theorem sz56 : (Try.prog.info? 56).map (·.size) = some 3 := by kernel_rfl
theorem by56 : (Try.prog.info? 56).map (·.bytes) = some 32 := by kernel_rfl
theorem zr56 : (Try.prog.info? 56).bind (·.zero) = some (.agg ⟨[.int .i64 0, .int .i64 0, .string ⟨⟨[]⟩⟩]⟩) := by kernel_rfl
theorem sz57 : (Try.prog.info? 57).map (·.size) = some 72 := by kernel_rfl
theorem by57 : (Try.prog.info? 57).map (·.bytes) = some 768 := by kernel_rfl
theorem zr57 : (Try.prog.info? 57).bind (·.zero) = some (.agg ⟨[.int .i64 0, .int .i64 0, .string ⟨⟨[]⟩⟩, .int .i64 0, .int .i64 0, .string ⟨⟨[]⟩⟩, .int .i64 0, .int .i64 0, .string ⟨⟨[]⟩⟩, .int .i64 0, .int .i64 0, .string ⟨⟨[]⟩⟩, .int .i64 0, .int .i64 0, .string ⟨⟨[]⟩⟩, .int .i64 0, .int .i64 0, .string ⟨⟨[]⟩⟩, .int .i64 0, .int .i64 0, .string ⟨⟨[]⟩⟩, .int .i64 0, .int .i64 0, .string ⟨⟨[]⟩⟩, .int .i64 0, .int .i64 0, .string ⟨⟨[]⟩⟩, .int .i64 0, .int .i64 0, .string ⟨⟨[]⟩⟩, .int .i64 0, .int .i64 0, .string ⟨⟨[]⟩⟩, .int .i64 0, .int .i64 0, .string ⟨⟨[]⟩⟩, .int .i64 0, .int .i64 0, .string ⟨⟨[]⟩⟩, .int .i64 0, .int .i64 0, .string ⟨⟨[]⟩⟩, .int .i64 0, .int .i64 0, .string ⟨⟨[]⟩⟩, .int .i64 0, .int .i64 0, .string ⟨⟨[]⟩⟩, .int .i64 0, .int .i64 0, .string ⟨⟨[]⟩⟩, .int .i64 0, .int .i64 0, .string ⟨⟨[]⟩⟩, .int .i64 0, .int .i64 0, .string ⟨⟨[]⟩⟩, .int .i64 0, .int .i64 0, .string ⟨⟨[]⟩⟩, .int .i64 0, .int .i64 0, .string ⟨⟨[]⟩⟩, .int .i64 0, .int .i64 0, .string ⟨⟨[]⟩⟩, .int .i64 0, .int .i64 0, .string ⟨⟨[]⟩⟩, .int .i64 0, .int .i64 0, .string ⟨⟨[]⟩⟩]⟩) := by kernel_rfl
theorem sz58 : (Try.prog.info? 58).map (·.size) = some 73 := by kernel_rfl
theorem by58 : (Try.prog.info? 58).map (·.bytes) = some 776 := by kernel_rfl
theorem zr58 : (Try.prog.info? 58).bind (·.zero) = some (.agg ⟨[.int .i64 0, .int .i64 0, .int .i64 0, .string ⟨⟨[]⟩⟩, .int .i64 0, .int .i64 0, .string ⟨⟨[]⟩⟩, .int .i64 0, .int .i64 0, .string ⟨⟨[]⟩⟩, .int .i64 0, .int .i64 0, .string ⟨⟨[]⟩⟩, .int .i64 0, .int .i64 0, .string ⟨⟨[]⟩⟩, .int .i64 0, .int .i64 0, .string ⟨⟨[]⟩⟩, .int .i64 0, .int .i64 0, .string ⟨⟨[]⟩⟩, .int .i64 0, .int .i64 0, .string ⟨⟨[]⟩⟩, .int .i64 0, .int .i64 0, .string ⟨⟨[]⟩⟩, .int .i64 0, .int .i64 0, .string ⟨⟨[]⟩⟩, .int .i64 0, .int .i64 0, .string ⟨⟨[]⟩⟩, .int .i64 0, .int .i64 0, .string ⟨⟨[]⟩⟩, .int .i64 0, .int .i64 0, .string ⟨⟨[]⟩⟩, .int .i64 0, .int .i64 0, .string ⟨⟨[]⟩⟩, .int .i64 0, .int .i64 0, .string ⟨⟨[]⟩⟩, .int .i64 0, .int .i64 0, .string ⟨⟨[]⟩⟩, .int .i64 0, .int .i64 0, .string ⟨⟨[]⟩⟩, .int .i64 0, .int .i64 0, .string ⟨⟨[]⟩⟩, .int .i64 0, .int .i64 0, .string ⟨⟨[]⟩⟩, .int .i64 0, .int .i64 0, .string ⟨⟨[]⟩⟩, .int .i64 0, .int .i64 0, .string ⟨⟨[]⟩⟩, .int .i64 0, .int .i64 0, .string ⟨⟨[]⟩⟩, .int .i64 0, .int .i64 0, .string ⟨⟨[]⟩⟩, .int .i64 0, .int .i64 0, .string ⟨⟨[]⟩⟩]⟩) := by kernel_rfl
theorem sz59 : (Try.prog.info? 59).map (·.size) = some 73 := by kernel_rfl
theorem by59 : (Try.prog.info? 59).map (·.bytes) = some 776 := by kernel_rfl
theorem zr59 : (Try.prog.info? 59).bind (·.zero) = some (.agg ⟨[.int .i64 0, .int .i64 0, .int .i64 0, .string ⟨⟨[]⟩⟩, .int .i64 0, .int .i64 0, .string ⟨⟨[]⟩⟩, .int .i64 0, .int .i64 0, .string ⟨⟨[]⟩⟩, .int .i64 0, .int .i64 0, .string ⟨⟨[]⟩⟩, .int .i64 0, .int .i64 0, .string ⟨⟨[]⟩⟩, .int .i64 0, .int .i64 0, .string ⟨⟨[]⟩⟩, .int .i64 0, .int .i64 0, .string ⟨⟨[]⟩⟩, .int .i64 0, .int .i64 0, .string ⟨⟨[]⟩⟩, .int .i64 0, .int .i64 0, .string ⟨⟨[]⟩⟩, .int .i64 0, .int .i64 0, .string ⟨⟨[]⟩⟩, .int .i64 0, .int .i64 0, .string ⟨⟨[]⟩⟩, .int .i64 0, .int .i64 0, .string ⟨⟨[]⟩⟩, .int .i64 0, .int .i64 0, .string ⟨⟨[]⟩⟩, .int .i64 0, .int .i64 0, .string ⟨⟨[]⟩⟩, .int .i64 0, .int .i64 0, .string ⟨⟨[]⟩⟩, .int .i64 0, .int .i64 0, .string ⟨⟨[]⟩⟩, .int .i64 0, .int .i64 0, .string ⟨⟨[]⟩⟩, .int .i64 0, .int .i64 0, .string ⟨⟨[]⟩⟩, .int .i64 0, .int .i64 0, .string ⟨⟨[]⟩⟩, .int .i64 0, .int .i64 0, .string ⟨⟨[]⟩⟩, .int .i64 0, .int .i64 0, .string ⟨⟨[]⟩⟩, .int .i64 0, .int .i64 0, .string ⟨⟨[]⟩⟩, .int .i64 0, .int .i64 0, .string ⟨⟨[]⟩⟩, .int .i64 0, .int .i64 0, .string ⟨⟨[]⟩⟩]⟩) := by kernel_rfl
theorem sz60 : (Try.prog.info? 60).map (·.size) = some 1 := by kernel_rfl
theorem by60 : (Try.prog.info? 60).map (·.bytes) = some 8 := by kernel_rfl
theorem zr60 : (Try.prog.info? 60).bind (·.zero) = some (.nilFunc) := by kernel_rfl
theorem sz61 : (Try.prog.info? 61).map (·.size) = some 1 := by kernel_rfl
theorem by61 : (Try.prog.info? 61).map (·.bytes) = some 0 := by kernel_rfl
theorem zr61 : (Try.prog.info? 61).bind (·.zero) = some (.tuple ⟨[.int .i64 0, .bool false]⟩) := by kernel_rfl
theorem sz62 : (Try.prog.info? 62).map (·.size) = some 1 := by kernel_rfl
theorem by62 : (Try.prog.info? 62).map (·.bytes) = some 8 := by kernel_rfl
theorem zr62 : (Try.prog.info? 62).bind (·.zero) = some (.nilFunc) := by kernel_rfl
theorem sz63 : (Try.prog.info? 63).map (·.size) = some 1 := by kernel_rfl
theorem by63 : (Try.prog.info? 63).map (·.bytes) = some 8 := by kernel_rfl
theorem zr63 : (Try.prog.info? 63).bind (·.zero) = some (.nilFunc) := by kernel_rfl
theorem sz64 : (Try.prog.info? 64).map (·.size) = some 1 := by kernel_rfl
theorem by64 : (Try.prog.info? 64).map (·.bytes) = some 8 := by kernel_rfl
theorem zr64 : (Try.prog.info? 64).bind (·.zero) = some (.nilFunc) := by kernel_rfl
theorem sz65 : (Try.prog.info? 65).map (·.size) = some 1 := by kernel_rfl
theorem by65 : (Try.prog.info? 65).map (·.bytes) = some 8 := by kernel_rfl
theorem zr65 : (Try.prog.info? 65).bind (·.zero) = some (.nilFunc) := by kernel_rfl
theorem sz66 : (Try.prog.info? 66).map (·.size) = some 1 := by kernel_rfl
theorem by66 : (Try.prog.info? 66).map (·.bytes) = some 8 := by kernel_rfl
theorem zr66 : (Try.prog.info? 66).bind (·.zero) = some (.nilFunc) := by kernel_rfl
theorem sz67 : (Try.prog.info? 67).map (·.size) = some 1 := by kernel_rfl
theorem by67 : (Try.prog.info? 67).map (·.bytes) = some 8 := by kernel_rfl
theorem zr67 : (Try.prog.info? 67).bind (·.zero) = some (.nilFunc) := by kernel_rfl
theorem sz68 : (Try.prog.info? 68).map (·.size) = some 1 := by kernel_rfl
theorem by68 : (Try.prog.info? 68).map (·.bytes) = some 8 := by kernel_rfl
theorem zr68 : (Try.prog.info? 68).bind (·.zero) = some (.nilFunc) := by kernel_rfl
theorem sz69 : (Try.prog.info? 69).map (·.size) = some 1 := by kernel_rfl
theorem by69 : (Try.prog.info? 69).map (·.bytes) = some 8 := by kernel_rfl
theorem zr69 : (Try.prog.info? 69).bind (·.zero) = some (.nilFunc) := by kernel_rfl
theorem sz70 : (Try.prog.info? 70).map (·.size) = some 1 := by kernel_rfl
theorem by70 : (Try.prog.info? 70).map (·.bytes) = some 8 := by kernel_rfl
theorem zr70 : (Try.prog.info? 70).bind (·.zero) = some (.nilFunc) := by kernel_rfl
theorem sz71 : (Try.prog.info? 71).map (·.size) = some 1 := by kernel_rfl
theorem by71 : (Try.prog.info? 71).map (·.bytes) = some 24 := by kernel_rfl
theorem zr71 : (Try.prog.info? 71).bind (·.zero) = some (.slice none 0 0) := by kernel_rfl
theorem sz72 : (Try.prog.info? 72).map (·.size) = some 1 := by kernel_rfl
theorem by72 : (Try.prog.info? 72).map (·.bytes) = some 8 := by kernel_rfl
theorem zr72 : (Try.prog.info? 72).bind (·.zero) = some (.nilFunc) := by kernel_rfl
theorem sz73 : (Try.prog.info? 73).map (·.size) = some 1 := by kernel_rfl
theorem by73 : (Try.prog.info? 73).map (·.bytes) = some 8 := by kernel_rfl
theorem zr73 : (Try.prog.info? 73).bind (·.zero) = some (.int .i64 0) := by kernel_rfl
theorem sz74 : (Try.prog.info? 74).map (·.size) = some 1 := by kernel_rfl
theorem by74 : (Try.prog.info? 74).map (·.bytes) = some 4 := by kernel_rfl
theorem zr74 : (Try.prog.info? 74).bind (·.zero) = some (.int .u32 0) := by kernel_rfl
theorem sz75 : (Try.prog.info? 75).map (·.size) = some 16 := by kernel_rfl
theorem by75 : (Try.prog.info? 75).map (·.bytes) = some 64 := by kernel_rfl
theorem zr75 : (Try.prog.info? 75).bind (·.zero) = some (.agg ⟨[.int .u32 0, .int .u32 0, .int .u32 0, .int .u32 0, .int .u32 0, .int .u32 0, .int .u32 0, .int .u32 0, .int .u32 0, .int .u32 0, .int .u32 0, .int .u32 0, .int .u32 0, .int .u32 0, .int .u32 0, .int .u32 0]⟩) := by kernel_rfl
theorem sz76 : (Try.prog.info? 76).map (·.size) = some 1 := by kernel_rfl
theorem by76 : (Try.prog.info? 76).map (·.bytes) = some 8 := by kernel_rfl
theorem zr76 : (Try.prog.info? 76).bind (·.zero) = some (.nilFunc) := by kernel_rfl
theorem sz77 : (Try.prog.info? 77).map (·.size) = some 1 := by kernel_rfl
theorem by77 : (Try.prog.info? 77).map (·.bytes) = some 8 := by kernel_rfl
theorem zr77 : (Try.prog.info? 77).bind (·.zero) = some (.nilFunc) := by kernel_rfl
theorem sz78 : (Try.prog.info? 78).map (·.size) = some 1 := by kernel_rfl
theorem by78 : (Try.prog.info? 78).map (·.bytes) = some 8 := by kernel_rfl
theorem zr78 : (Try.prog.info? 78).bind (·.zero) = some (.pointer none) := by kernel_rfl
theorem sz79 : (Try.prog.info? 79).map (·.size) = some 1 := by kernel_rfl
theorem by79 : (Try.prog.info? 79).map (·.bytes) = some 8 := by kernel_rfl
theorem zr79 : (Try.prog.info? 79).bind (·.zero) = some (.int .u64 0) := by kernel_rfl
theorem sz80 : (Try.prog.info? 80).map (·.size) = some 1 := by kernel_rfl
theorem by80 : (Try.prog.info? 80).map (·.bytes) = some 8 := by kernel_rfl
theorem zr80 : (Try.prog.info? 80).bind (·.zero) = some (.nilFunc) := by kernel_rfl
theorem sz81 : (Try.prog.info? 81).map (·.size) = some 1 := by kernel_rfl
theorem by81 : (Try.prog.info? 81).map (·.bytes) = some 8 := by kernel_rfl
theorem zr81 : (Try.prog.info? 81).bind (·.zero) = some (.nilFunc) := by kernel_rfl
theorem sz82 : (Try.prog.info? 82).map (·.size) = some 1 := by kernel_rfl
theorem by82 : (Try.prog.info? 82).map (·.bytes) = some 8 := by kernel_rfl
theorem zr82 : (Try.prog.info? 82).bind (·.zero) = some (.nilFunc) := by kernel_rfl
theorem sz83 : (Try.prog.info? 83).map (·.size) = some 1 := by kernel_rfl
theorem by83 : (Try.prog.info? 83).map (·.bytes) = some 8 := by kernel_rfl
theorem zr83 : (Try.prog.info? 83).bind (·.zero) = some (.nilFunc) := by kernel_rfl
theorem sz84 : (Try.prog.info? 84).map (·.size) = some 1 := by kernel_rfl
theorem by84 : (Try.prog.info? 84).map (·.bytes) = some 8 := by kernel_rfl
theorem zr84 : (Try.prog.info? 84).bind (·.zero) = some (.nilFunc) := by kernel_rfl
theorem sz85 : (Try.prog.info? 85).map (·.size) = some 8 := by kernel_rfl
theorem by85 : (Try.prog.info? 85).map (·.bytes) = some 64 := by kernel_rfl
theorem zr85 : (Try.prog.info? 85).bind (·.zero) = some (.agg ⟨[.int .i64 0, .int .i64 0, .int .i64 0, .int .i64 0, .int .i64 0, .int .i64 0, .int .i64 0, .int .i64 0]⟩) := by kernel_rfl
theorem sz86 : (Try.prog.info? 86).map (·.size) = some 1 := by kernel_rfl
theorem by86 : (Try.prog.info? 86).map (·.bytes) = some 24 := by kernel_rfl
theorem zr86 : (Try.prog.info? 86).bind (·.zero) = some (.slice none 0 0) := by kernel_rfl
theorem sz87 : (Try.prog.info? 87).map (·.size) = some 20 := by kernel_rfl
theorem by87 : (Try.prog.info? 87).map (·.bytes) = some 320 := by kernel_rfl
theorem zr87 : (Try.prog.info? 87).bind (·.zero) = some (.agg ⟨[.slice none 0 0, .slice none 0 0, .slice none 0 0, .slice none 0 0, .slice none 0 0, .slice none 0 0, .slice none 0 0, .slice none 0 0, .int .i64 0, .int .i64 0, .int .i64 0, .int .i64 0, .int .i64 0, .int .i64 0, .int .i64 0, .int .i64 0, .string ⟨⟨[]⟩⟩, .string ⟨⟨[]⟩⟩, .slice none 0 0, .int .i64 0]⟩) := by kernel_rfl
theorem sz88 : (Try.prog.info? 88).map (·.size) = some 20 := by kernel_rfl
theorem by88 : (Try.prog.info? 88).map (·.bytes) = some 320 := by kernel_rfl
theorem zr88 : (Try.prog.info? 88).bind (·.zero) = some (.agg ⟨[.slice none 0 0, .slice none 0 0, .slice none 0 0, .slice none 0 0, .slice none 0 0, .slice none 0 0, .slice none 0 0, .slice none 0 0, .int .i64 0, .int .i64 0, .int .i64 0, .int .i64 0, .int .i64 0, .int .i64 0, .int .i64 0, .int .i64 0, .string ⟨⟨[]⟩⟩, .string ⟨⟨[]⟩⟩, .slice none 0 0, .int .i64 0]⟩) := by kernel_rfl
theorem sz89 : (Try.prog.info? 89).map (·.size) = some 1 := by kernel_rfl
theorem by89 : (Try.prog.info? 89).map (·.bytes) = some 8 := by kernel_rfl
theorem zr89 : (Try.prog.info? 89).bind (·.zero) = some (.nilFunc) := by kernel_rfl
theorem sz90 : (Try.prog.info? 90).map (·.size) = some 1 := by kernel_rfl
theorem by90 : (Try.prog.info? 90).map (·.bytes) = some 8 := by kernel_rfl
theorem zr90 : (Try.prog.info? 90).bind (·.zero) = some (.nilFunc) := by kernel_rfl
theorem sz91 : (Try.prog.info? 91).map (·.size) = some 2 := by kernel_rfl
theorem by91 : (Try.prog.info? 91).map (·.bytes) = some 24 := by kernel_rfl
theorem zr91 : (Try.prog.info? 91).bind (·.zero) = some (.agg ⟨[.int .i64 0, .string ⟨⟨[]⟩⟩]⟩) := by kernel_rfl
theorem sz92 : (Try.prog.info? 92).map (·.size) = some 2 := by kernel_rfl
theorem by92 : (Try.prog.info? 92).map (·.bytes) = some 24 := by kernel_rfl
theorem zr92 : (Try.prog.info? 92).bind (·.zero) = some (.agg ⟨[.int .i64 0, .string ⟨⟨[]⟩⟩]⟩) := by kernel_rfl
theorem sz93 : (Try.prog.info? 93).map (·.size) = some 1 := by kernel_rfl
theorem by93 : (Try.prog.info? 93).map (·.bytes) = some 8 := by kernel_rfl
theorem zr93 : (Try.prog.info? 93).bind (·.zero) = some (.nilFunc) := by kernel_rfl
theorem sz94 : (Try.prog.info? 94).map (·.size) = some 1 := by kernel_rfl
theorem by94 : (Try.prog.info? 94).map (·.bytes) = some 8 := by kernel_rfl
theorem zr94 : (Try.prog.info? 94).bind (·.zero) = some (.nilFunc) := by kernel_rfl
theorem sz95 : (Try.prog.info? 95).map (·.size) = some 1 := by kernel_rfl
theorem by95 : (Try.prog.info? 95).map (·.bytes) = some 8 := by kernel_rfl
theorem zr95 : (Try.prog.info? 95).bind (·.zero) = some (.nilFunc) := by kernel_rfl
theorem sz96 : (Try.prog.info? 96).map (·.size) = some 1 := by kernel_rfl
theorem by96 : (Try.prog.info? 96).map (·.bytes) = some 8 := by kernel_rfl
theorem zr96 : (Try.prog.info? 96).bind (·.zero) = some (.nilFunc) := by kernel_rfl
theorem sz97 : (Try.prog.info? 97).map (·.size) = some 1 := by kernel_rfl
theorem by97 : (Try.prog.info? 97).map (·.bytes) = some 8 := by kernel_rfl
theorem zr97 : (Try.prog.info? 97).bind (·.zero) = some (.nilFunc) := by kernel_rfl
theorem sz98 : (Try.prog.info? 98).map (·.size) = some 1 := by kernel_rfl
theorem by98 : (Try.prog.info? 98).map (·.bytes) = some 8 := by kernel_rfl
theorem zr98 : (Try.prog.info? 98).bind (·.zero) = some (.nilFunc) := by kernel_rfl
theorem sz99 : (Try.prog.info? 99).map (·.size) = some 1 := by kernel_rfl
theorem by99 : (Try.prog.info? 99).map (·.bytes) = some 8 := by kernel_rfl
theorem zr99 : (Try.prog.info? 99).bind (·.zero) = some (.nilFunc) := by kernel_rfl
theorem sz100 : (Try.prog.info? 100).map (·.size) = some 1 := by kernel_rfl
theorem by100 : (Try.prog.info? 100).map (·.bytes) = some 0 := by kernel_rfl
theorem zr100 : (Try.prog.info? 100).bind (·.zero) = some (.tuple ⟨[.int .u64 0, .int .u64 0]⟩) := by kernel_rfl
theorem sz101 : (Try.prog.info? 101).map (·.size) = some 1 := by kernel_rfl
theorem by101 : (Try.prog.info? 101).map (·.bytes) = some 8 := by kernel_rfl
theorem zr101 : (Try.prog.info? 101).bind (·.zero) = some (.nilFunc) := by kernel_rfl
theorem sz102 : (Try.prog.info? 102).map (·.size) = some 1 := by kernel_rfl
theorem by102 : (Try.prog.info? 102).map (·.bytes) = some 8 := by kernel_rfl
theorem zr102 : (Try.prog.info? 102).bind (·.zero) = some (.nilFunc) := by kernel_rfl
theorem sz103 : (Try.prog.info? 103).map (·.size) = some 1 := by kernel_rfl
theorem by103 : (Try.prog.info? 103).map (·.bytes) = some 8 := by kernel_rfl
theorem zr103 : (Try.prog.info? 103).bind (·.zero) = some (.pointer none) := by kernel_rfl
theorem sz104 : (Try.prog.info? 104).map (·.size) = some 2 := by kernel_rfl
theorem by104 : (Try.prog.info? 104).map (·.bytes) = some 32 := by kernel_rfl
theorem zr104 : (Try.prog.info? 104).bind (·.zero) = some (.agg ⟨[.pointer none, .slice none 0 0]⟩) := by kernel_rfl
theorem sz105 : (Try.prog.info? 105).map (·.size) = some 2 := by kernel_rfl
theorem by105 : (Try.prog.info? 105).map (·.bytes) = some 32 := by kernel_rfl
theorem zr105 : (Try.prog.info? 105).bind (·.zero) = some (.agg ⟨[.pointer none, .slice none 0 0]⟩) := by kernel_rfl
theorem sz106 : (Try.prog.info? 106).map (·.size) = some 1 := by kernel_rfl
theorem by106 : (Try.prog.info? 106).map (·.bytes) = some 8 := by kernel_rfl
theorem zr106 : (Try.prog.info? 106).bind (·.zero) = some (.nilFunc) := by kernel_rfl
theorem sz107 : (Try.prog.info? 107).map (·.size) = some 1 := by kernel_rfl
theorem by107 : (Try.prog.info? 107).map (·.bytes) = some 8 := by kernel_rfl
theorem zr107 : (Try.prog.info? 107).bind (·.zero) = some (.nilFunc) := by kernel_rfl
theorem sz108 : (Try.prog.info? 108).map (·.size) = some 1 := by kernel_rfl
theorem by108 : (Try.prog.info? 108).map (·.bytes) = some 8 := by kernel_rfl
theorem zr108 : (Try.prog.info? 108).bind (·.zero) = some (.nilFunc) := by kernel_rfl
theorem sz109 : (Try.prog.info? 109).map (·.size) = some 1 := by kernel_rfl
theorem by109 : (Try.prog.info? 109).map (·.bytes) = some 8 := by kernel_rfl
theorem zr109 : (Try.prog.info? 109).bind (·.zero) = some (.nilFunc) := by kernel_rfl
theorem sz110 : (Try.prog.info? 110).map (·.size) = some 1 := by kernel_rfl
theorem by110 : (Try.prog.info? 110).map (·.bytes) = some 8 := by kernel_rfl
theorem zr110 : (Try.prog.info? 110).bind (·.zero) = some (.nilFunc) := by kernel_rfl
theorem sz111 : (Try.prog.info? 111).map (·.size) = some 1 := by kernel_rfl
theorem by111 : (Try.prog.info? 111).map (·.bytes) = some 8 := by kernel_rfl
theorem zr111 : (Try.prog.info? 111).bind (·.zero) = some (.nilFunc) := by kernel_rfl
theorem sz112 : (Try.prog.info? 112).map (·.size) = some 1 := by kernel_rfl
theorem by112 : (Try.prog.info? 112).map (·.bytes) = some 8 := by kernel_rfl
theorem zr112 : (Try.prog.info? 112).bind (·.zero) = some (.nilFunc) := by kernel_rfl
theorem sz113 : (Try.prog.info? 113).map (·.size) = some 1 := by kernel_rfl
theorem by113 : (Try.prog.info? 113).map (·.bytes) = some 8 := by kernel_rfl
theorem zr113 : (Try.prog.info? 113).bind (·.zero) = some (.nilFunc) := by kernel_rfl
theorem sz114 : (Try.prog.info? 114).map (·.size) = some 1 := by kernel_rfl
theorem by114 : (Try.prog.info? 114).map (·.bytes) = some 0 := by kernel_rfl
theorem zr114 : (Try.prog.info? 114).bind (·.zero) = some (.tuple ⟨[.int .u32 0, .int .u32 0]⟩) := by kernel_rfl
theorem sz115 : (Try.prog.info? 115).map (·.size) = some 1 := by kernel_rfl
theorem by115 : (Try.prog.info? 115).map (·.bytes) = some 8 := by kernel_rfl
theorem zr115 : (Try.prog.info? 115).bind (·.zero) = some (.nilFunc) := by kernel_rfl
theorem sz116 : (Try.prog.info? 116).map (·.size) = some 1 := by kernel_rfl
theorem by116 : (Try.prog.info? 116).map (·.bytes) = some 8 := by kernel_rfl
theorem zr116 : (Try.prog.info? 116).bind (·.zero) = some (.int .u64 0) := by kernel_rfl
theorem sz117 : (Try.prog.info? 117).map (·.size) = some 1 := by kernel_rfl
theorem by117 : (Try.prog.info? 117).map (·.bytes) = some 0 := by kernel_rfl
theorem zr117 : (Try.prog.info? 117).bind (·.zero) = some (.tuple ⟨[.int .u64 0, .int .u64 0]⟩) := by kernel_rfl
theorem sz118 : (Try.prog.info? 118).map (·.size) = some 1 := by kernel_rfl
theorem by118 : (Try.prog.info? 118).map (·.bytes) = some 8 := by kernel_rfl
theorem zr118 : (Try.prog.info? 118).bind (·.zero) = some (.nilFunc) := by kernel_rfl
theorem sz119 : (Try.prog.info? 119).map (·.size) = some 1 := by kernel_rfl
theorem by119 : (Try.prog.info? 119).map (·.bytes) = some 8 := by kernel_rfl
theorem zr119 : (Try.prog.info? 119).bind (·.zero) = some (.pointer none) := by kernel_rfl
theorem sz120 : (Try.prog.info? 120).map (·.size) = some 1 := by kernel_rfl
theorem by120 : (Try.prog.info? 120).map (·.bytes) = some 8 := by kernel_rfl
theorem zr120 : (Try.prog.info? 120).bind (·.zero) = some (.nilFunc) := by kernel_rfl
theorem sz121 : (Try.prog.info? 121).map (·.size) = some 1 := by kernel_rfl
theorem by121 : (Try.prog.info? 121).map (·.bytes) = some 8 := by kernel_rfl
theorem zr121 : (Try.prog.info? 121).bind (·.zero) = some (.int .i64 0) := by kernel_rfl
theorem sz122 : (Try.prog.info? 122).map (·.size) = some 1 := by kernel_rfl
theorem by122 : (Try.prog.info? 122).map (·.bytes) = some 0 := by kernel_rfl
theorem zr122 : (Try.prog.info? 122).bind (·.zero) = some (.tuple ⟨[.int .i64 0, .int .i64 0]⟩) := by kernel_rfl
theorem sz123 : (Try.prog.info? 123).map (·.size) = some 1 := by kernel_rfl
theorem by123 : (Try.prog.info? 123).map (·.bytes) = some 8 := by kernel_rfl
theorem zr123 : (Try.prog.info? 123).bind (·.zero) = some (.nilFunc) := by kernel_rfl
theorem sz124 : (Try.prog.info? 124).map (·.size) = some 1 := by kernel_rfl
theorem by124 : (Try.prog.info? 124).map (·.bytes) = some 8 := by kernel_rfl
theorem zr124 : (Try.prog.info? 124).bind (·.zero) = some (.nilFunc) := by kernel_rfl
theorem sz125 : (Try.prog.info? 125).map (·.size) = some 1 := by kernel_rfl
theorem by125 : (Try.prog.info? 125).map (·.bytes) = some 8 := by kernel_rfl
theorem zr125 : (Try.prog.info? 125).bind (·.zero) = some (.nilFunc) := by kernel_rfl
theorem sz126 : (Try.prog.info? 126).map (·.size) = some 1 := by kernel_rfl
theorem by126 : (Try.prog.info? 126).map (·.bytes) = some 8 := by kernel_rfl
theorem zr126 : (Try.prog.info? 126).bind (·.zero) = some (.nilFunc) := by kernel_rfl
theorem sz127 : (Try.prog.info? 127).map (·.size) = some 1 := by kernel_rfl
theorem by127 : (Try.prog.info? 127).map (·.bytes) = some 8 := by kernel_rfl
theorem zr127 : (Try.prog.info? 127).bind (·.zero) = some (.nilFunc) := by kernel_rfl
theorem sz128 : (Try.prog.info? 128).map (·.size) = some 1 := by kernel_rfl
theorem by128 : (Try.prog.info? 128).map (·.bytes) = some 8 := by kernel_rfl
theorem zr128 : (Try.prog.info? 128).bind (·.zero) = some (.nilFunc) := by kernel_rfl
theorem sz129 : (Try.prog.info? 129).map (·.size) = some 1 := by kernel_rfl
theorem by129 : (Try.prog.info? 129).map (·.bytes) = some 8 := by kernel_rfl
theorem zr129 : (Try.prog.info? 129).bind (·.zero) = some (.pointer none) := by kernel_rfl
theorem sz130 : (Try.prog.info? 130).map (·.size) = some 1 := by kernel_rfl
theorem by130 : (Try.prog.info? 130).map (·.bytes) = some 8 := by kernel_rfl
theorem zr130 : (Try.prog.info? 130).bind (·.zero) = some (.nilFunc) := by kernel_rfl
theorem sz131 : (Try.prog.info? 131).map (·.size) = some 1 := by kernel_rfl
theorem by131 : (Try.prog.info? 131).map (·.bytes) = some 8 := by kernel_rfl
theorem zr131 : (Try.prog.info? 131).bind (·.zero) = some (.nilFunc) := by kernel_rfl
theorem sz132 : (Try.prog.info? 132).map (·.size) = some 1 := by kernel_rfl
theorem by132 : (Try.prog.info? 132).map (·.bytes) = some 8 := by kernel_rfl
theorem zr132 : (Try.prog.info? 132).bind (·.zero) = some (.int .u64 0) := by kernel_rfl
theorem sz133 : (Try.prog.info? 133).map (·.size) = some 1 := by kernel_rfl
theorem by133 : (Try.prog.info? 133).map (·.bytes) = some 8 := by kernel_rfl
theorem zr133 : (Try.prog.info? 133).bind (·.zero) = some (.nilFunc) := by kernel_rfl
theorem sz134 : (Try.prog.info? 134).map (·.size) = some 1 := by kernel_rfl
theorem by134 : (Try.prog.info? 134).map (·.bytes) = some 8 := by kernel_rfl
theorem zr134 : (Try.prog.info? 134).bind (·.zero) = some (.nilFunc) := by kernel_rfl
theorem sz135 : (Try.prog.info? 135).map (·.size) = some 1 := by kernel_rfl
theorem by135 : (Try.prog.info? 135).map (·.bytes) = some 8 := by kernel_rfl
theorem zr135 : (Try.prog.info? 135).bind (·.zero) = some (.nilFunc) := by kernel_rfl
theorem sz136 : (Try.prog.info? 136).map (·.size) = some 1 := by kernel_rfl
theorem by136 : (Try.prog.info? 136).map (·.bytes) = some 8 := by kernel_rfl
theorem zr136 : (Try.prog.info? 136).bind (·.zero) = some (.pointer none) := by kernel_rfl
theorem sz137 : (Try.prog.info? 137).map (·.size) = some 1 := by kernel_rfl
theorem by137 : (Try.prog.info? 137).map (·.bytes) = some 8 := by kernel_rfl
theorem zr137 : (Try.prog.info? 137).bind (·.zero) = some (.nilFunc) := by kernel_rfl
theorem sz138 : (Try.prog.info? 138).map (·.size) = some 1 := by kernel_rfl
theorem by138 : (Try.prog.info? 138).map (·.bytes) = some 8 := by kernel_rfl
theorem zr138 : (Try.prog.info? 138).bind (·.zero) = some (.pointer none) := by kernel_rfl
theorem sz139 : (Try.prog.info? 139).map (·.size) = some 1 := by kernel_rfl
theorem by139 : (Try.prog.info? 139).map (·.bytes) = some 0 := by kernel_rfl
theorem zr139 : (Try.prog.info? 139).bind (·.zero) = some (.tuple ⟨[.int .i64 0, .int .i64 0]⟩) := by kernel_rfl
theorem sz140 : (Try.prog.info? 140).map (·.size) = some 1 := by kernel_rfl
theorem by140 : (Try.prog.info? 140).map (·.bytes) = some 8 := by kernel_rfl
theorem zr140 : (Try.prog.info? 140).bind (·.zero) = some (.nilFunc) := by kernel_rfl
theorem sz141 : (Try.prog.info? 141).map (·.size) = some 4 := by kernel_rfl
theorem by141 : (Try.prog.info? 141).map (·.bytes) = some 40 := by kernel_rfl
theorem zr141 : (Try.prog.info? 141).bind (·.zero) = some (.agg ⟨[.pointer none, .pointer none, .pointer none, .string ⟨⟨[]⟩⟩]⟩) := by kernel_rfl
theorem sz142 : (Try.prog.info? 142).map (·.size) = some 4 := by kernel_rfl
theorem by142 : (Try.prog.info? 142).map (·.bytes) = some 40 := by kernel_rfl
theorem zr142 : (Try.prog.info? 142).bind (·.zero) = some (.agg ⟨[.pointer none, .pointer none, .pointer none, .string ⟨⟨[]⟩⟩]⟩) := by kernel_rfl
theorem sz143 : (Try.prog.info? 143).map (·.size) = some 0 := by kernel_rfl
theorem by143 : (Try.prog.info? 143).map (·.bytes) = some 0 := by kernel_rfl
theorem zr143 : (Try.prog.info? 143).bind (·.zero) = some (.agg ⟨[]⟩) := by kernel_rfl
theorem sz144 : (Try.prog.info? 144).map (·.size) = some 0 := by kernel_rfl
theorem by144 : (Try.prog.info? 144).map (·.bytes) = some 0 := by kernel_rfl
theorem zr144 : (Try.prog.info? 144).bind (·.zero) = some (.agg ⟨[]⟩) := by kernel_rfl
theorem sz145 : (Try.prog.info? 145).map (·.size) = some 0 := by kernel_rfl
theorem by145 : (Try.prog.info? 145).map (·.bytes) = some 0 := by kernel_rfl
theorem zr145 : (Try.prog.info? 145).bind (·.zero) = some (.agg ⟨[]⟩) := by kernel_rfl
theorem sz146 : (Try.prog.info? 146).map (·.size) = some 1 := by kernel_rfl
theorem by146 : (Try.prog.info? 146).map (·.bytes) = some 1 := by kernel_rfl
theorem zr146 : (Try.prog.info? 146).bind (·.zero) = some (.int .u8 0) := by kernel_rfl
theorem sz147 : (Try.prog.info? 147).map (·.size) = some 1 := by kernel_rfl
theorem by147 : (Try.prog.info? 147).map (·.bytes) = some 1 := by kernel_rfl
theorem zr147 : (Try.prog.info? 147).bind (·.zero) = some (.int .u8 0) := by kernel_rfl
theorem sz148 : (Try.prog.info? 148).map (·.size) = some 1 := by kernel_rfl
theorem by148 : (Try.prog.info? 148).map (·.bytes) = some 8 := by kernel_rfl
theorem zr148 : (Try.prog.info? 148).bind (·.zero) = some (.nilFunc) := by kernel_rfl
theorem sz149 : (Try.prog.info? 149).map (·.size) = some 1 := by kernel_rfl
theorem by149 : (Try.prog.info? 149).map (·.bytes) = some 4 := by kernel_rfl
theorem zr149 : (Try.prog.info? 149).bind (·.zero) = some (.int .i32 0) := by kernel_rfl
theorem sz150 : (Try.prog.info? 150).map (·.size) = some 1 := by kernel_rfl
theorem by150 : (Try.prog.info? 150).map (·.bytes) = some 4 := by kernel_rfl
theorem zr150 : (Try.prog.info? 150).bind (·.zero) = some (.int .i32 0) := by kernel_rfl
theorem sz151 : (Try.prog.info? 151).map (·.size) = some 11 := by kernel_rfl
theorem by151 : (Try.prog.info? 151).map (·.bytes) = some 48 := by kernel_rfl
theorem zr151 : (Try.prog.info? 151).bind (·.zero) = some (.agg ⟨[.int .u64 0, .int .u64 0, .int .u32 0, .int .u8 0, .int .u8 0, .int .u8 0, .int .u8 0, .nilFunc, .pointer none, .int .i32 0, .int .i32 0]⟩) := by kernel_rfl
theorem sz152 : (Try.prog.info? 152).map (·.size) = some 11 := by kernel_rfl
theorem by152 : (Try.prog.info? 152).map (·.bytes) = some 48 := by kernel_rfl
theorem zr152 : (Try.prog.info? 152).bind (·.zero) = some (.agg ⟨[.int .u64 0, .int .u64 0, .int .u32 0, .int .u8 0, .int .u8 0, .int .u8 0, .int .u8 0, .nilFunc, .pointer none, .int .i32 0, .int .i32 0]⟩) := by kernel_rfl
end Go.Proofs.Ytkolfgmpmnelmaa
