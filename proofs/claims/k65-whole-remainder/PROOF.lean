import PyProof.Rows.All
import Wide.All
import OpenK.AllK
import Wide.FinOn
import HandS.ForMost
import PySem.Challenge.RW_packetpicture_k65_whole_remainder_finish
import KE.KStateDown
import HandS.Exc
import HandS.Defaults
import HandS.Head0
import HandS.Head1
import HandS.Head2
import HandS.HeadEnd
import HandS.HeadHook1
import HandS.HeadHook2
import HandS.Evl
import HandS.Steps
import HandS.WideBits
import HandS.RevRange
import HandS.Walk
import HandS.Style
import HandS.SetKeys
import HandS.SortKw
import HandS.Zip
import KE.GoesNew
import KE.GoesEnum
import PyProof.StrOps2
import PyProof.ListRange
import HandS.Conv
import HandS.More
import HandS.SortOrd
import HandS.SortInts
import HandS.Text
import HandS.DictTup
import HandS.IsInst
import HandS.TryMany
import HandS.ExcOwn
import HandS.WordsExc
import HandS.ExcField
import HandS.ExcInit
import HandS.HeadNt
set_option Elab.async false
set_option linter.all false
set_option maxRecDepth 100000
set_option maxHeartbeats 4000000
namespace PK
open PySem PySem.Spec PyProof.Rows L2
/-! ### the statements by their places, the scopes -/
def top (i : Nat) : Stmt := PySem.Challenge.pw_packetpicture_k65_whole_remainder_finish.main.body.getD i (.Pass ⟨0, 0, 0, 0⟩)
abbrev s_wall : Stmt := top 0
theorem sc_wall : FnScope ["k"] ["k"] (defScope s_wall) := ⟨rfl, rfl, rfl, by decide +kernel, rfl, by decide +kernel, by decide +kernel⟩
abbrev s_OutOfRange_init : Stmt := inClass (top 3) 0
theorem sc_OutOfRange_init : FnScope ["self", "name"] ["self", "name"] (defScope s_OutOfRange_init) := ⟨rfl, rfl, rfl, by decide +kernel, rfl, by decide +kernel, by decide +kernel⟩
abbrev s_check_width : Stmt := top 13
theorem sc_check_width : FnScope ["width"] ["width"] (defScope s_check_width) := ⟨rfl, rfl, rfl, by decide +kernel, rfl, by decide +kernel, by decide +kernel⟩
abbrev s_check_bits : Stmt := top 14
theorem sc_check_bits : FnScope ["bits"] ["bits"] (defScope s_check_bits) := ⟨rfl, rfl, rfl, by decide +kernel, rfl, by decide +kernel, by decide +kernel⟩
abbrev s_check_code : Stmt := top 15
theorem sc_check_code : FnScope ["code"] ["code"] (defScope s_check_code) := ⟨rfl, rfl, rfl, by decide +kernel, rfl, by decide +kernel, by decide +kernel⟩
abbrev s_context : Stmt := top 16
theorem sc_context : FnScope ["width", "bits", "place", "total", "column"] ["width", "bits", "place"] (defScope s_context) := ⟨rfl, rfl, rfl, by decide +kernel, rfl, by decide +kernel, by decide +kernel⟩
abbrev s_shares : Stmt := top 17
theorem sc_shares : FnScope ["width", "bits", "place", "here", "zeros", "ones", "earlier"] ["width", "bits", "place"] (defScope s_shares) := ⟨rfl, rfl, rfl, by decide +kernel, rfl, by decide +kernel, by decide +kernel⟩
abbrev s_interval : Stmt := top 18
theorem sc_interval : FnScope ["width", "bits", "low", "size", "whole", "zeros", "ones", "place", "bit", "here", "total"] ["width", "bits"] (defScope s_interval) := ⟨rfl, rfl, rfl, by decide +kernel, rfl, by decide +kernel, by decide +kernel⟩
abbrev s_check_count : Stmt := top 20
theorem sc_check_count : FnScope ["count"] ["count"] (defScope s_check_count) := ⟨rfl, rfl, rfl, by decide +kernel, rfl, by decide +kernel, by decide +kernel⟩
abbrev s_digits_value : Stmt := top 21
theorem sc_digits_value : FnScope ["digits", "number", "digit"] ["digits"] (defScope s_digits_value) := ⟨rfl, rfl, rfl, by decide +kernel, rfl, by decide +kernel, by decide +kernel⟩
abbrev s_digits_text : Stmt := top 22
theorem sc_digits_text : FnScope ["number", "many", "place"] ["number", "many"] (defScope s_digits_text) := ⟨rfl, rfl, rfl, by decide +kernel, rfl, by decide +kernel, by decide +kernel⟩
abbrev s_code : Stmt := top 23
theorem sc_code : FnScope ["width", "bits", "low", "size", "whole", "many", "first"] ["width", "bits"] (defScope s_code) := ⟨rfl, rfl, rfl, by decide +kernel, rfl, by decide +kernel, by decide +kernel⟩
abbrev s_encode : Stmt := top 24
theorem sc_encode : FnScope ["width", "bits"] ["width", "bits"] (defScope s_encode) := ⟨rfl, rfl, rfl, by decide +kernel, rfl, by decide +kernel, by decide +kernel⟩
abbrev s_opens : Stmt := top 25
theorem sc_opens : FnScope ["width", "code", "bits"] ["width", "code", "bits"] (defScope s_opens) := ⟨rfl, rfl, rfl, by decide +kernel, rfl, by decide +kernel, by decide +kernel⟩
abbrev s_last_with_zero : Stmt := top 26
theorem sc_last_with_zero : FnScope ["bits", "more"] ["bits", "more"] (defScope s_last_with_zero) := ⟨rfl, rfl, rfl, by decide +kernel, rfl, by decide +kernel, by decide +kernel⟩
abbrev s_first_with_one : Stmt := top 27
theorem sc_first_with_one : FnScope ["bits", "more"] ["bits", "more"] (defScope s_first_with_one) := ⟨rfl, rfl, rfl, by decide +kernel, rfl, by decide +kernel, by decide +kernel⟩
abbrev s_next_bit : Stmt := top 28
theorem sc_next_bit : FnScope ["width", "count", "code", "bits", "low", "size", "whole", "zeros", "ones", "border", "number", "more", "low_is_possible", "high_is_possible"] ["width", "count", "code", "bits"] (defScope s_next_bit) := ⟨rfl, rfl, rfl, by decide +kernel, rfl, by decide +kernel, by decide +kernel⟩
abbrev s_find_prefix : Stmt := top 29
theorem sc_find_prefix : FnScope ["width", "count", "code", "bits", "_", "bit"] ["width", "count", "code"] (defScope s_find_prefix) := ⟨rfl, rfl, rfl, by decide +kernel, rfl, by decide +kernel, by decide +kernel⟩
abbrev s_known_prefix : Stmt := top 30
theorem sc_known_prefix : FnScope ["width", "count", "code"] ["width", "count", "code"] (defScope s_known_prefix) := ⟨rfl, rfl, rfl, by decide +kernel, rfl, by decide +kernel, by decide +kernel⟩
abbrev s_known : Stmt := top 31
theorem sc_known : FnScope ["width", "count", "code", "bits"] ["width", "count", "code"] (defScope s_known) := ⟨rfl, rfl, rfl, by decide +kernel, rfl, by decide +kernel, by decide +kernel⟩
abbrev s_check_shape : Stmt := top 37
theorem sc_check_shape : FnScope ["width", "height", "depth", "channels"] ["width", "height", "depth", "channels"] (defScope s_check_shape) := ⟨rfl, rfl, rfl, by decide +kernel, rfl, by decide +kernel, by decide +kernel⟩
abbrev s_check_size : Stmt := top 38
theorem sc_check_size : FnScope ["width", "height", "channels"] ["width", "height", "channels"] (defScope s_check_size) := ⟨rfl, rfl, rfl, by decide +kernel, rfl, by decide +kernel, by decide +kernel⟩
abbrev s_Frame_init : Stmt := inClass (top 39) 0
theorem sc_Frame_init : FnScope ["self", "width", "height", "depth", "channels", "tile"] ["self", "width", "height", "depth", "channels", "tile"] (defScope s_Frame_init) := ⟨rfl, rfl, rfl, by decide +kernel, rfl, by decide +kernel, by decide +kernel⟩
abbrev s_Frame_across : Stmt := inClass (top 39) 1
theorem sc_Frame_across : FnScope ["self"] ["self"] (defScope s_Frame_across) := ⟨rfl, rfl, rfl, by decide +kernel, rfl, by decide +kernel, by decide +kernel⟩
abbrev s_Frame_down : Stmt := inClass (top 39) 2
theorem sc_Frame_down : FnScope ["self"] ["self"] (defScope s_Frame_down) := ⟨rfl, rfl, rfl, by decide +kernel, rfl, by decide +kernel, by decide +kernel⟩
abbrev s_Frame_tiles : Stmt := inClass (top 39) 3
theorem sc_Frame_tiles : FnScope ["self"] ["self"] (defScope s_Frame_tiles) := ⟨rfl, rfl, rfl, by decide +kernel, rfl, by decide +kernel, by decide +kernel⟩
abbrev s_Frame_pixels : Stmt := inClass (top 39) 4
theorem sc_Frame_pixels : FnScope ["self"] ["self"] (defScope s_Frame_pixels) := ⟨rfl, rfl, rfl, by decide +kernel, rfl, by decide +kernel, by decide +kernel⟩
abbrev s_Frame_packets : Stmt := inClass (top 39) 5
theorem sc_Frame_packets : FnScope ["self"] ["self"] (defScope s_Frame_packets) := ⟨rfl, rfl, rfl, by decide +kernel, rfl, by decide +kernel, by decide +kernel⟩
abbrev s_Frame_same : Stmt := inClass (top 39) 6
theorem sc_Frame_same : FnScope ["self", "other"] ["self", "other"] (defScope s_Frame_same) := ⟨rfl, rfl, rfl, by decide +kernel, rfl, by decide +kernel, by decide +kernel⟩
abbrev s_tile_corner : Stmt := top 40
theorem sc_tile_corner : FnScope ["frame", "tile", "row", "column"] ["frame", "tile"] (defScope s_tile_corner) := ⟨rfl, rfl, rfl, by decide +kernel, rfl, by decide +kernel, by decide +kernel⟩
abbrev s_tile_size : Stmt := top 41
theorem sc_tile_size : FnScope ["frame", "tile", "left", "top"] ["frame", "tile"] (defScope s_tile_size) := ⟨rfl, rfl, rfl, by decide +kernel, rfl, by decide +kernel, by decide +kernel⟩
abbrev s_tile_pixels : Stmt := top 42
theorem sc_tile_pixels : FnScope ["frame", "tile", "left", "top", "width", "height", "y", "x"] ["frame", "tile"] (defScope s_tile_pixels) := ⟨rfl, rfl, rfl, by decide +kernel, rfl, by decide +kernel, by decide +kernel⟩
abbrev s_all_keys : Stmt := top 43
theorem sc_all_keys : FnScope ["frame", "tiles", "planes", "plane", "channel", "tile"] ["frame"] (defScope s_all_keys) := ⟨rfl, rfl, rfl, by decide +kernel, rfl, by decide +kernel, by decide +kernel⟩
abbrev s_check_key : Stmt := top 44
theorem sc_check_key : FnScope ["frame", "key", "channel", "tile", "plane"] ["frame", "key"] (defScope s_check_key) := ⟨rfl, rfl, rfl, by decide +kernel, rfl, by decide +kernel, by decide +kernel⟩
abbrev s_Arrived_init : Stmt := inClass (top 48) 0
theorem sc_Arrived_init : FnScope ["self", "frame"] ["self", "frame"] (defScope s_Arrived_init) := ⟨rfl, rfl, rfl, by decide +kernel, rfl, by decide +kernel, by decide +kernel⟩
abbrev s_Arrived_digits : Stmt := inClass (top 48) 1
theorem sc_Arrived_digits : FnScope ["self", "key"] ["self", "key"] (defScope s_Arrived_digits) := ⟨rfl, rfl, rfl, by decide +kernel, rfl, by decide +kernel, by decide +kernel⟩
abbrev s_Arrived_accept : Stmt := inClass (top 48) 2
theorem sc_Arrived_accept : FnScope ["self", "key", "start", "bits", "there", "rest", "longer", "width", "height"] ["self", "key", "start", "bits"] (defScope s_Arrived_accept) := ⟨rfl, rfl, rfl, by decide +kernel, rfl, by decide +kernel, by decide +kernel⟩
abbrev s_Arrived_packets : Stmt := inClass (top 48) 3
theorem sc_Arrived_packets : FnScope ["self", "key"] ["self"] (defScope s_Arrived_packets) := ⟨rfl, rfl, rfl, by decide +kernel, rfl, by decide +kernel, by decide +kernel⟩
abbrev s_Arrived_digit_count : Stmt := inClass (top 48) 4
theorem sc_Arrived_digit_count : FnScope ["self"] ["self"] (defScope s_Arrived_digit_count) := ⟨rfl, rfl, rfl, by decide +kernel, rfl, by decide +kernel, by decide +kernel⟩
abbrev s_Arrived_duplicate : Stmt := inClass (top 48) 5
theorem sc_Arrived_duplicate : FnScope ["self"] ["self"] (defScope s_Arrived_duplicate) := ⟨rfl, rfl, rfl, by decide +kernel, rfl, by decide +kernel, by decide +kernel⟩
abbrev s_Arrived_same : Stmt := inClass (top 48) 6
theorem sc_Arrived_same : FnScope ["self", "other"] ["self", "other"] (defScope s_Arrived_same) := ⟨rfl, rfl, rfl, by decide +kernel, rfl, by decide +kernel, by decide +kernel⟩
abbrev s_known_text : Stmt := top 49
theorem sc_known_text : FnScope ["arrived", "key", "digits", "width", "height"] ["arrived", "key"] (defScope s_known_text) := ⟨rfl, rfl, rfl, by decide +kernel, rfl, by decide +kernel, by decide +kernel⟩
abbrev s_many_low : Stmt := top 51
theorem sc_many_low : FnScope ["width", "code", "bits", "more", "total", "left"] ["width", "code", "bits", "more"] (defScope s_many_low) := ⟨rfl, rfl, rfl, by decide +kernel, rfl, by decide +kernel, by decide +kernel⟩
abbrev s_many_high : Stmt := top 52
theorem sc_many_high : FnScope ["width", "code", "bits", "more", "total", "left"] ["width", "code", "bits", "more"] (defScope s_many_high) := ⟨rfl, rfl, rfl, by decide +kernel, rfl, by decide +kernel, by decide +kernel⟩
abbrev s_count_possible : Stmt := top 53
theorem sc_count_possible : FnScope ["width", "count", "code", "bits", "more"] ["width", "count", "code"] (defScope s_count_possible) := ⟨rfl, rfl, rfl, by decide +kernel, rfl, by decide +kernel, by decide +kernel⟩
abbrev s_first_possible : Stmt := top 54
theorem sc_first_possible : FnScope ["width", "count", "code", "bits", "left"] ["width", "count", "code"] (defScope s_first_possible) := ⟨rfl, rfl, rfl, by decide +kernel, rfl, by decide +kernel, by decide +kernel⟩
abbrev s_binary_value : Stmt := top 55
theorem sc_binary_value : FnScope ["bits"] ["bits"] (defScope s_binary_value) := ⟨rfl, rfl, rfl, by decide +kernel, rfl, by decide +kernel, by decide +kernel⟩
abbrev s_binary : Stmt := top 56
theorem sc_binary : FnScope ["value", "count"] ["value", "count"] (defScope s_binary) := ⟨rfl, rfl, rfl, by decide +kernel, rfl, by decide +kernel, by decide +kernel⟩
abbrev s_rank_among : Stmt := top 57
theorem sc_rank_among : FnScope ["width", "code", "bits"] ["width", "code", "bits"] (defScope s_rank_among) := ⟨rfl, rfl, rfl, by decide +kernel, rfl, by decide +kernel, by decide +kernel⟩
abbrev s_possible_at : Stmt := top 58
theorem sc_possible_at : FnScope ["width", "count", "code", "number"] ["width", "count", "code", "number"] (defScope s_possible_at) := ⟨rfl, rfl, rfl, by decide +kernel, rfl, by decide +kernel, by decide +kernel⟩
abbrev s_are_values : Stmt := top 60
theorem sc_are_values : FnScope ["pixels", "depth", "channels", "values", "beyond", "row", "value"] ["pixels", "depth", "channels", "values"] (defScope s_are_values) := ⟨rfl, rfl, rfl, by decide +kernel, rfl, by decide +kernel, by decide +kernel⟩
abbrev s_Picture_init : Stmt := inClass (top 61) 0
theorem sc_Picture_init : FnScope ["self", "width", "height", "depth", "channels", "values", "row"] ["self", "width", "height", "depth", "channels", "values"] (defScope s_Picture_init) := ⟨rfl, rfl, rfl, by decide +kernel, rfl, by decide +kernel, by decide +kernel⟩
abbrev s_Picture_value : Stmt := inClass (top 61) 1
theorem sc_Picture_value : FnScope ["self", "channel", "pixel"] ["self", "channel", "pixel"] (defScope s_Picture_value) := ⟨rfl, rfl, rfl, by decide +kernel, rfl, by decide +kernel, by decide +kernel⟩
abbrev s_Picture_row : Stmt := inClass (top 61) 2
theorem sc_Picture_row : FnScope ["self", "channel"] ["self", "channel"] (defScope s_Picture_row) := ⟨rfl, rfl, rfl, by decide +kernel, rfl, by decide +kernel, by decide +kernel⟩
abbrev s_Picture_rows : Stmt := inClass (top 61) 3
theorem sc_Picture_rows : FnScope ["self", "row"] ["self"] (defScope s_Picture_rows) := ⟨rfl, rfl, rfl, by decide +kernel, rfl, by decide +kernel, by decide +kernel⟩
abbrev s_Picture_same : Stmt := inClass (top 61) 4
theorem sc_Picture_same : FnScope ["self", "other"] ["self", "other"] (defScope s_Picture_same) := ⟨rfl, rfl, rfl, by decide +kernel, rfl, by decide +kernel, by decide +kernel⟩
abbrev s_Picture_with_value : Stmt := inClass (top 61) 5
theorem sc_Picture_with_value : FnScope ["self", "channel", "pixel", "value"] ["self", "channel", "pixel", "value"] (defScope s_Picture_with_value) := ⟨rfl, rfl, rfl, by decide +kernel, rfl, by decide +kernel, by decide +kernel⟩
abbrev s_Picture_framed : Stmt := inClass (top 61) 6
theorem sc_Picture_framed : FnScope ["self", "tile"] ["self", "tile"] (defScope s_Picture_framed) := ⟨rfl, rfl, rfl, by decide +kernel, rfl, by decide +kernel, by decide +kernel⟩
abbrev s_fits_frame : Stmt := top 62
theorem sc_fits_frame : FnScope ["frame", "picture"] ["frame", "picture"] (defScope s_fits_frame) := ⟨rfl, rfl, rfl, by decide +kernel, rfl, by decide +kernel, by decide +kernel⟩
abbrev s_gray_bit : Stmt := top 64
theorem sc_gray_bit : FnScope ["value", "plane"] ["value", "plane"] (defScope s_gray_bit) := ⟨rfl, rfl, rfl, by decide +kernel, rfl, by decide +kernel, by decide +kernel⟩
abbrev s_value_of : Stmt := top 65
theorem sc_value_of : FnScope ["grays", "value", "bit", "gray"] ["grays"] (defScope s_value_of) := ⟨rfl, rfl, rfl, by decide +kernel, rfl, by decide +kernel, by decide +kernel⟩
abbrev s_stored_bit : Stmt := top 66
theorem sc_stored_bit : FnScope ["picture", "channel", "pixel", "plane", "middle", "side"] ["picture", "channel", "pixel", "plane"] (defScope s_stored_bit) := ⟨rfl, rfl, rfl, by decide +kernel, rfl, by decide +kernel, by decide +kernel⟩
abbrev s_packet_bits : Stmt := top 67
theorem sc_packet_bits : FnScope ["frame", "picture", "key", "channel", "tile", "plane", "pixel"] ["frame", "picture", "key"] (defScope s_packet_bits) := ⟨rfl, rfl, rfl, by decide +kernel, rfl, by decide +kernel, by decide +kernel⟩
abbrev s_stored : Stmt := top 68
theorem sc_stored : FnScope ["frame", "packets", "table", "channel", "plane", "key", "tile", "row", "pixel", "sign"] ["frame", "packets"] (defScope s_stored) := ⟨rfl, rfl, rfl, by decide +kernel, rfl, by decide +kernel, by decide +kernel⟩
abbrev s_values : Stmt := top 69
theorem sc_values : FnScope ["frame", "table", "channel", "planes", "plane", "pixel", "other", "found"] ["frame", "table", "channel"] (defScope s_values) := ⟨rfl, rfl, rfl, by decide +kernel, rfl, by decide +kernel, by decide +kernel⟩
abbrev s_picture_of : Stmt := top 70
theorem sc_picture_of : FnScope ["frame", "packets", "table", "values", "channel"] ["frame", "packets"] (defScope s_picture_of) := ⟨rfl, rfl, rfl, by decide +kernel, rfl, by decide +kernel, by decide +kernel⟩
abbrev s_packet_code : Stmt := top 72
theorem sc_packet_code : FnScope ["frame", "picture", "key", "bits"] ["frame", "picture", "key"] (defScope s_packet_code) := ⟨rfl, rfl, rfl, by decide +kernel, rfl, by decide +kernel, by decide +kernel⟩
abbrev s_choices : Stmt := top 74
theorem sc_choices : FnScope ["arrived", "key", "width", "height"] ["arrived", "key"] (defScope s_choices) := ⟨rfl, rfl, rfl, by decide +kernel, rfl, by decide +kernel, by decide +kernel⟩
abbrev s_count_pictures : Stmt := top 75
theorem sc_count_pictures : FnScope ["arrived", "number", "key"] ["arrived"] (defScope s_count_pictures) := ⟨rfl, rfl, rfl, by decide +kernel, rfl, by decide +kernel, by decide +kernel⟩
abbrev s_agrees : Stmt := top 76
theorem sc_agrees : FnScope ["arrived", "picture", "key", "digits"] ["arrived", "picture"] (defScope s_agrees) := ⟨rfl, rfl, rfl, by decide +kernel, rfl, by decide +kernel, by decide +kernel⟩
abbrev s_number_of : Stmt := top 77
theorem sc_number_of : FnScope ["arrived", "picture", "number", "key", "width", "bits"] ["arrived", "picture"] (defScope s_number_of) := ⟨rfl, rfl, rfl, by decide +kernel, rfl, by decide +kernel, by decide +kernel⟩
abbrev s_picture_at : Stmt := top 78
theorem sc_picture_at : FnScope ["arrived", "number", "packets", "key", "rank", "width", "height"] ["arrived", "number"] (defScope s_picture_at) := ⟨rfl, rfl, rfl, by decide +kernel, rfl, by decide +kernel, by decide +kernel⟩
abbrev s_is_rectangle : Stmt := top 82
theorem sc_is_rectangle : FnScope ["left", "top", "width", "height"] ["left", "top", "width", "height"] (defScope s_is_rectangle) := ⟨rfl, rfl, rfl, by decide +kernel, rfl, by decide +kernel, by decide +kernel⟩
abbrev s_check_regions : Stmt := top 83
theorem sc_check_regions : FnScope ["regions", "left", "top", "width", "height", "ahead"] ["regions"] (defScope s_check_regions) := ⟨rfl, rfl, rfl, by decide +kernel, rfl, by decide +kernel, by decide +kernel⟩
abbrev s_touches : Stmt := top 84
theorem sc_touches : FnScope ["frame", "rectangle", "tile", "left", "top", "width", "height", "tile_left", "tile_top", "tile_width", "tile_height"] ["frame", "rectangle", "tile"] (defScope s_touches) := ⟨rfl, rfl, rfl, by decide +kernel, rfl, by decide +kernel, by decide +kernel⟩
abbrev s_boost : Stmt := top 85
theorem sc_boost : FnScope ["frame", "regions", "tile", "most", "left", "top", "width", "height", "ahead"] ["frame", "regions", "tile"] (defScope s_boost) := ⟨rfl, rfl, rfl, by decide +kernel, rfl, by decide +kernel, by decide +kernel⟩
abbrev s_plan : Stmt := top 86
theorem sc_plan : FnScope ["frame", "regions", "ahead", "tile", "rows", "key", "place"] ["frame", "regions"] (defScope s_plan) := ⟨rfl, rfl, rfl, by decide +kernel, rfl, by decide +kernel, by decide +kernel⟩
abbrev s_is_open : Stmt := top 88
theorem sc_is_open : FnScope ["arrived", "key"] ["arrived", "key"] (defScope s_is_open) := ⟨rfl, rfl, rfl, by decide +kernel, rfl, by decide +kernel, by decide +kernel⟩
abbrev s_request : Stmt := top 89
theorem sc_request : FnScope ["arrived", "regions", "keys", "key"] ["arrived", "regions"] (defScope s_request) := ⟨rfl, rfl, rfl, by decide +kernel, rfl, by decide +kernel, by decide +kernel⟩
abbrev s_check_requests : Stmt := top 90
theorem sc_check_requests : FnScope ["frame", "requests", "seen", "key", "start"] ["frame", "requests"] (defScope s_check_requests) := ⟨rfl, rfl, rfl, by decide +kernel, rfl, by decide +kernel, by decide +kernel⟩
abbrev s_check_asked : Stmt := top 91
theorem sc_check_asked : FnScope ["frame", "picture", "requests"] ["frame", "picture", "requests"] (defScope s_check_asked) := ⟨rfl, rfl, rfl, by decide +kernel, rfl, by decide +kernel, by decide +kernel⟩
abbrev s_bits_needed : Stmt := top 93
theorem sc_bits_needed : FnScope ["number"] ["number"] (defScope s_bits_needed) := ⟨rfl, rfl, rfl, by decide +kernel, rfl, by decide +kernel, by decide +kernel⟩
abbrev s_remainder_length : Stmt := top 94
theorem sc_remainder_length : FnScope ["arrived"] ["arrived"] (defScope s_remainder_length) := ⟨rfl, rfl, rfl, by decide +kernel, rfl, by decide +kernel, by decide +kernel⟩
abbrev s_concluded : Stmt := top 95
theorem sc_concluded : FnScope ["frame", "picture", "requests", "starts", "key", "start", "arrived", "code"] ["frame", "picture", "requests"] (defScope s_concluded) := ⟨rfl, rfl, rfl, by decide +kernel, rfl, by decide +kernel, by decide +kernel⟩
abbrev s_remainder : Stmt := top 96
theorem sc_remainder : FnScope ["frame", "picture", "requests", "arrived"] ["frame", "picture", "requests"] (defScope s_remainder) := ⟨rfl, rfl, rfl, by decide +kernel, rfl, by decide +kernel, by decide +kernel⟩
abbrev s_finish : Stmt := top 97
theorem sc_finish : FnScope ["arrived", "digits"] ["arrived", "digits"] (defScope s_finish) := ⟨rfl, rfl, rfl, by decide +kernel, rfl, by decide +kernel, by decide +kernel⟩
abbrev s_l_cell : Stmt := top 99
theorem sc_l_cell : FnScope ["_law_script", "_law_k"] ["_law_script", "_law_k"] (defScope s_l_cell) := ⟨rfl, rfl, rfl, by decide +kernel, rfl, by decide +kernel, by decide +kernel⟩
abbrev s_l_mixed : Stmt := top 100
theorem sc_l_mixed : FnScope ["_law_number", "_law_k", "_law_limit", "_law_one", "_law_two"] ["_law_number", "_law_k", "_law_limit"] (defScope s_l_mixed) := ⟨rfl, rfl, rfl, by decide +kernel, rfl, by decide +kernel, by decide +kernel⟩
abbrev s_l_numbers : Stmt := top 101
theorem sc_l_numbers : FnScope ["_law_cell_here", "_law_count", "_law_limit", "_law_rest", "_law_large", "_law_numbers_here", "_law_k"] ["_law_cell_here", "_law_count", "_law_limit"] (defScope s_l_numbers) := ⟨rfl, rfl, rfl, by decide +kernel, rfl, by decide +kernel, by decide +kernel⟩
abbrev s_l_tiny : Stmt := top 102
theorem sc_l_tiny : FnScope ["_law_cell_here", "_law_row", "_law_channels", "_law_depth"] ["_law_cell_here"] (defScope s_l_tiny) := ⟨rfl, rfl, rfl, by decide +kernel, rfl, by decide +kernel, by decide +kernel⟩
abbrev s_l_values : Stmt := top 103
theorem sc_l_values : FnScope ["_law_cell_here", "_law_sizes", "_law_pixels", "_law_row", "_law_k"] ["_law_cell_here", "_law_sizes"] (defScope s_l_values) := ⟨rfl, rfl, rfl, by decide +kernel, rfl, by decide +kernel, by decide +kernel⟩
abbrev s_l_tiles : Stmt := top 104
theorem sc_l_tiles : FnScope ["_law_sizes"] ["_law_sizes"] (defScope s_l_tiles) := ⟨rfl, rfl, rfl, by decide +kernel, rfl, by decide +kernel, by decide +kernel⟩
abbrev s_l_order : Stmt := top 105
theorem sc_l_order : FnScope ["_law_sizes", "_law_tiles_here", "_law_keys", "_law_down", "_law_channel", "_law_tile"] ["_law_sizes", "_law_tiles_here"] (defScope s_l_order) := ⟨rfl, rfl, rfl, by decide +kernel, rfl, by decide +kernel, by decide +kernel⟩
abbrev s_l_regions : Stmt := top 106
theorem sc_l_regions : FnScope ["_law_cell_here", "_law_sizes", "_law_picks", "_law_regions_here", "_law_k", "_law_left", "_law_top", "_law_size", "_law_wide", "_law_high"] ["_law_cell_here", "_law_sizes"] (defScope s_l_regions) := ⟨rfl, rfl, rfl, by decide +kernel, rfl, by decide +kernel, by decide +kernel⟩
abbrev s_l_picture : Stmt := top 107
theorem sc_l_picture : FnScope ["_law_sizes", "_law_values_here"] ["_law_sizes", "_law_values_here"] (defScope s_l_picture) := ⟨rfl, rfl, rfl, by decide +kernel, rfl, by decide +kernel, by decide +kernel⟩
abbrev s_l_frame : Stmt := top 108
theorem sc_l_frame : FnScope ["_law_sizes"] ["_law_sizes"] (defScope s_l_frame) := ⟨rfl, rfl, rfl, by decide +kernel, rfl, by decide +kernel, by decide +kernel⟩
abbrev s_l_cut : Stmt := top 109
theorem sc_l_cut : FnScope ["_law_frame_here", "_law_picture_here", "_law_keys", "_law_picks", "_law_arrived", "_law_k", "_law_code", "_law_part"] ["_law_frame_here", "_law_picture_here", "_law_keys", "_law_picks"] (defScope s_l_cut) := ⟨rfl, rfl, rfl, by decide +kernel, rfl, by decide +kernel, by decide +kernel⟩
abbrev s_l_refused : Stmt := top 110
theorem sc_l_refused : FnScope ["_law_frame_here", "_law_picture_here", "_law_entries", "e"] ["_law_frame_here", "_law_picture_here", "_law_entries"] (defScope s_l_refused) := ⟨rfl, rfl, rfl, by decide +kernel, rfl, by decide +kernel, by decide +kernel⟩
abbrev s_law : Stmt := top 111
theorem sc_law : FnScope ["_law_script", "_law_sizes", "_law_frame_here", "_law_values_here", "_law_picture_here", "_law_keys", "_law_arrived", "_law_asked", "_law_passed", "_law_digits", "_law_sign", "_law_there", "_law_back", "_law_beyond", "_law_key"] ["_law_script"] (defScope s_law) := ⟨rfl, rfl, rfl, by decide +kernel, rfl, by decide +kernel, by decide +kernel⟩
end PK

set_option maxHeartbeats 0
namespace PK
open PySem PySem.Spec PyProof.Rows L2
/-! ### the head: each def as a datum, facts, the run -/
def d_OutOfRange_init : He.DefD := ⟨("OutOfRange", some "__init__"), "__init__", "OutOfRange.__init__", defArgs s_OutOfRange_init, defBody s_OutOfRange_init, defScope s_OutOfRange_init, [], []⟩
def d_check_width : He.DefD := ⟨("check_width", none), "check_width", "check_width", defArgs s_check_width, defBody s_check_width, defScope s_check_width, [], []⟩
def d_check_bits : He.DefD := ⟨("check_bits", none), "check_bits", "check_bits", defArgs s_check_bits, defBody s_check_bits, defScope s_check_bits, [], []⟩
def d_check_code : He.DefD := ⟨("check_code", none), "check_code", "check_code", defArgs s_check_code, defBody s_check_code, defScope s_check_code, [], []⟩
def d_context : He.DefD := ⟨("context", none), "context", "context", defArgs s_context, defBody s_context, defScope s_context, [], []⟩
def d_shares : He.DefD := ⟨("shares", none), "shares", "shares", defArgs s_shares, defBody s_shares, defScope s_shares, [], []⟩
def d_interval : He.DefD := ⟨("interval", none), "interval", "interval", defArgs s_interval, defBody s_interval, defScope s_interval, [], []⟩
def d_check_count : He.DefD := ⟨("check_count", none), "check_count", "check_count", defArgs s_check_count, defBody s_check_count, defScope s_check_count, [], []⟩
def d_digits_value : He.DefD := ⟨("digits_value", none), "digits_value", "digits_value", defArgs s_digits_value, defBody s_digits_value, defScope s_digits_value, [], []⟩
def d_digits_text : He.DefD := ⟨("digits_text", none), "digits_text", "digits_text", defArgs s_digits_text, defBody s_digits_text, defScope s_digits_text, [], []⟩
def d_code : He.DefD := ⟨("_code", none), "_code", "_code", defArgs s_code, defBody s_code, defScope s_code, [], []⟩
def d_encode : He.DefD := ⟨("encode", none), "encode", "encode", defArgs s_encode, defBody s_encode, defScope s_encode, [], []⟩
def d_opens : He.DefD := ⟨("opens", none), "opens", "opens", defArgs s_opens, defBody s_opens, defScope s_opens, [], []⟩
def d_last_with_zero : He.DefD := ⟨("last_with_zero", none), "last_with_zero", "last_with_zero", defArgs s_last_with_zero, defBody s_last_with_zero, defScope s_last_with_zero, [], []⟩
def d_first_with_one : He.DefD := ⟨("first_with_one", none), "first_with_one", "first_with_one", defArgs s_first_with_one, defBody s_first_with_one, defScope s_first_with_one, [], []⟩
def d_next_bit : He.DefD := ⟨("_next_bit", none), "_next_bit", "_next_bit", defArgs s_next_bit, defBody s_next_bit, defScope s_next_bit, [], []⟩
def d_find_prefix : He.DefD := ⟨("find_prefix", none), "find_prefix", "find_prefix", defArgs s_find_prefix, defBody s_find_prefix, defScope s_find_prefix, [], []⟩
def d_known_prefix : He.DefD := ⟨("known_prefix", none), "known_prefix", "known_prefix", defArgs s_known_prefix, defBody s_known_prefix, defScope s_known_prefix, [], []⟩
def d_known : He.DefD := ⟨("known", none), "known", "known", defArgs s_known, defBody s_known, defScope s_known, [], []⟩
def d_check_shape : He.DefD := ⟨("check_shape", none), "check_shape", "check_shape", defArgs s_check_shape, defBody s_check_shape, defScope s_check_shape, [], []⟩
def d_check_size : He.DefD := ⟨("check_size", none), "check_size", "check_size", defArgs s_check_size, defBody s_check_size, defScope s_check_size, [], []⟩
def d_Frame_init : He.DefD := ⟨("Frame", some "__init__"), "__init__", "Frame.__init__", defArgs s_Frame_init, defBody s_Frame_init, defScope s_Frame_init, [], []⟩
def d_Frame_across : He.DefD := ⟨("Frame", some "across"), "across", "Frame.across", defArgs s_Frame_across, defBody s_Frame_across, defScope s_Frame_across, [], []⟩
def d_Frame_down : He.DefD := ⟨("Frame", some "down"), "down", "Frame.down", defArgs s_Frame_down, defBody s_Frame_down, defScope s_Frame_down, [], []⟩
def d_Frame_tiles : He.DefD := ⟨("Frame", some "tiles"), "tiles", "Frame.tiles", defArgs s_Frame_tiles, defBody s_Frame_tiles, defScope s_Frame_tiles, [], []⟩
def d_Frame_pixels : He.DefD := ⟨("Frame", some "pixels"), "pixels", "Frame.pixels", defArgs s_Frame_pixels, defBody s_Frame_pixels, defScope s_Frame_pixels, [], []⟩
def d_tile_corner : He.DefD := ⟨("tile_corner", none), "tile_corner", "tile_corner", defArgs s_tile_corner, defBody s_tile_corner, defScope s_tile_corner, [], []⟩
def d_tile_size : He.DefD := ⟨("tile_size", none), "tile_size", "tile_size", defArgs s_tile_size, defBody s_tile_size, defScope s_tile_size, [], []⟩
def d_tile_pixels : He.DefD := ⟨("tile_pixels", none), "tile_pixels", "tile_pixels", defArgs s_tile_pixels, defBody s_tile_pixels, defScope s_tile_pixels, [], []⟩
def d_all_keys : He.DefD := ⟨("all_keys", none), "all_keys", "all_keys", defArgs s_all_keys, defBody s_all_keys, defScope s_all_keys, [], []⟩
def d_check_key : He.DefD := ⟨("check_key", none), "check_key", "check_key", defArgs s_check_key, defBody s_check_key, defScope s_check_key, [], []⟩
def d_Arrived_init : He.DefD := ⟨("Arrived", some "__init__"), "__init__", "Arrived.__init__", defArgs s_Arrived_init, defBody s_Arrived_init, defScope s_Arrived_init, [], []⟩
def d_Arrived_digits : He.DefD := ⟨("Arrived", some "digits"), "digits", "Arrived.digits", defArgs s_Arrived_digits, defBody s_Arrived_digits, defScope s_Arrived_digits, [], []⟩
def d_Arrived_accept : He.DefD := ⟨("Arrived", some "accept"), "accept", "Arrived.accept", defArgs s_Arrived_accept, defBody s_Arrived_accept, defScope s_Arrived_accept, [], []⟩
def d_Arrived_packets : He.DefD := ⟨("Arrived", some "packets"), "packets", "Arrived.packets", defArgs s_Arrived_packets, defBody s_Arrived_packets, defScope s_Arrived_packets, [], []⟩
def d_known_text : He.DefD := ⟨("known_text", none), "known_text", "known_text", defArgs s_known_text, defBody s_known_text, defScope s_known_text, [], []⟩
def d_many_low : He.DefD := ⟨("_many_low", none), "_many_low", "_many_low", defArgs s_many_low, defBody s_many_low, defScope s_many_low, [], []⟩
def d_many_high : He.DefD := ⟨("_many_high", none), "_many_high", "_many_high", defArgs s_many_high, defBody s_many_high, defScope s_many_high, [], []⟩
def d_count_possible : He.DefD := ⟨("count_possible", none), "count_possible", "count_possible", defArgs s_count_possible, defBody s_count_possible, defScope s_count_possible, [], []⟩
def d_first_possible : He.DefD := ⟨("first_possible", none), "first_possible", "first_possible", defArgs s_first_possible, defBody s_first_possible, defScope s_first_possible, [], []⟩
def d_binary_value : He.DefD := ⟨("binary_value", none), "binary_value", "binary_value", defArgs s_binary_value, defBody s_binary_value, defScope s_binary_value, [], []⟩
def d_binary : He.DefD := ⟨("binary", none), "binary", "binary", defArgs s_binary, defBody s_binary, defScope s_binary, [], []⟩
def d_rank_among : He.DefD := ⟨("rank_among", none), "rank_among", "rank_among", defArgs s_rank_among, defBody s_rank_among, defScope s_rank_among, [], []⟩
def d_possible_at : He.DefD := ⟨("possible_at", none), "possible_at", "possible_at", defArgs s_possible_at, defBody s_possible_at, defScope s_possible_at, [], []⟩
def d_are_values : He.DefD := ⟨("_are_values", none), "_are_values", "_are_values", defArgs s_are_values, defBody s_are_values, defScope s_are_values, [], []⟩
def d_Picture_init : He.DefD := ⟨("Picture", some "__init__"), "__init__", "Picture.__init__", defArgs s_Picture_init, defBody s_Picture_init, defScope s_Picture_init, [], []⟩
def d_Picture_value : He.DefD := ⟨("Picture", some "value"), "value", "Picture.value", defArgs s_Picture_value, defBody s_Picture_value, defScope s_Picture_value, [], []⟩
def d_Picture_rows : He.DefD := ⟨("Picture", some "rows"), "rows", "Picture.rows", defArgs s_Picture_rows, defBody s_Picture_rows, defScope s_Picture_rows, [], []⟩
def d_Picture_same : He.DefD := ⟨("Picture", some "same"), "same", "Picture.same", defArgs s_Picture_same, defBody s_Picture_same, defScope s_Picture_same, [], []⟩
def d_fits_frame : He.DefD := ⟨("fits_frame", none), "fits_frame", "fits_frame", defArgs s_fits_frame, defBody s_fits_frame, defScope s_fits_frame, [], []⟩
def d_gray_bit : He.DefD := ⟨("gray_bit", none), "gray_bit", "gray_bit", defArgs s_gray_bit, defBody s_gray_bit, defScope s_gray_bit, [], []⟩
def d_value_of : He.DefD := ⟨("value_of", none), "value_of", "value_of", defArgs s_value_of, defBody s_value_of, defScope s_value_of, [], []⟩
def d_stored_bit : He.DefD := ⟨("stored_bit", none), "stored_bit", "stored_bit", defArgs s_stored_bit, defBody s_stored_bit, defScope s_stored_bit, [], []⟩
def d_packet_bits : He.DefD := ⟨("packet_bits", none), "packet_bits", "packet_bits", defArgs s_packet_bits, defBody s_packet_bits, defScope s_packet_bits, [], []⟩
def d_stored : He.DefD := ⟨("_stored", none), "_stored", "_stored", defArgs s_stored, defBody s_stored, defScope s_stored, [], []⟩
def d_values : He.DefD := ⟨("_values", none), "_values", "_values", defArgs s_values, defBody s_values, defScope s_values, [], []⟩
def d_picture_of : He.DefD := ⟨("picture_of", none), "picture_of", "picture_of", defArgs s_picture_of, defBody s_picture_of, defScope s_picture_of, [], []⟩
def d_packet_code : He.DefD := ⟨("packet_code", none), "packet_code", "packet_code", defArgs s_packet_code, defBody s_packet_code, defScope s_packet_code, [], []⟩
def d_choices : He.DefD := ⟨("_choices", none), "_choices", "_choices", defArgs s_choices, defBody s_choices, defScope s_choices, [], []⟩
def d_count_pictures : He.DefD := ⟨("count_pictures", none), "count_pictures", "count_pictures", defArgs s_count_pictures, defBody s_count_pictures, defScope s_count_pictures, [], []⟩
def d_agrees : He.DefD := ⟨("agrees", none), "agrees", "agrees", defArgs s_agrees, defBody s_agrees, defScope s_agrees, [], []⟩
def d_number_of : He.DefD := ⟨("number_of", none), "number_of", "number_of", defArgs s_number_of, defBody s_number_of, defScope s_number_of, [], []⟩
def d_picture_at : He.DefD := ⟨("picture_at", none), "picture_at", "picture_at", defArgs s_picture_at, defBody s_picture_at, defScope s_picture_at, [], []⟩
def d_is_rectangle : He.DefD := ⟨("_is_rectangle", none), "_is_rectangle", "_is_rectangle", defArgs s_is_rectangle, defBody s_is_rectangle, defScope s_is_rectangle, [], []⟩
def d_check_regions : He.DefD := ⟨("check_regions", none), "check_regions", "check_regions", defArgs s_check_regions, defBody s_check_regions, defScope s_check_regions, [], []⟩
def d_touches : He.DefD := ⟨("touches", none), "touches", "touches", defArgs s_touches, defBody s_touches, defScope s_touches, [], []⟩
def d_boost : He.DefD := ⟨("boost", none), "boost", "boost", defArgs s_boost, defBody s_boost, defScope s_boost, [], []⟩
def d_plan : He.DefD := ⟨("plan", none), "plan", "plan", defArgs s_plan, defBody s_plan, defScope s_plan, [], []⟩
def d_is_open : He.DefD := ⟨("is_open", none), "is_open", "is_open", defArgs s_is_open, defBody s_is_open, defScope s_is_open, [], []⟩
def d_request : He.DefD := ⟨("request", none), "request", "request", defArgs s_request, defBody s_request, defScope s_request, [], []⟩
def d_check_requests : He.DefD := ⟨("check_requests", none), "check_requests", "check_requests", defArgs s_check_requests, defBody s_check_requests, defScope s_check_requests, [], []⟩
def d_check_asked : He.DefD := ⟨("check_asked", none), "check_asked", "check_asked", defArgs s_check_asked, defBody s_check_asked, defScope s_check_asked, [], []⟩
def d_bits_needed : He.DefD := ⟨("bits_needed", none), "bits_needed", "bits_needed", defArgs s_bits_needed, defBody s_bits_needed, defScope s_bits_needed, [], []⟩
def d_remainder_length : He.DefD := ⟨("remainder_length", none), "remainder_length", "remainder_length", defArgs s_remainder_length, defBody s_remainder_length, defScope s_remainder_length, [], []⟩
def d_concluded : He.DefD := ⟨("_concluded", none), "_concluded", "_concluded", defArgs s_concluded, defBody s_concluded, defScope s_concluded, [], []⟩
def d_remainder : He.DefD := ⟨("remainder", none), "remainder", "remainder", defArgs s_remainder, defBody s_remainder, defScope s_remainder, [], []⟩
def d_finish : He.DefD := ⟨("finish", none), "finish", "finish", defArgs s_finish, defBody s_finish, defScope s_finish, [], []⟩
def d_l_cell : He.DefD := ⟨("_law_cell", none), "_law_cell", "_law_cell", defArgs s_l_cell, defBody s_l_cell, defScope s_l_cell, [], []⟩
def d_l_mixed : He.DefD := ⟨("_law_mixed", none), "_law_mixed", "_law_mixed", defArgs s_l_mixed, defBody s_l_mixed, defScope s_l_mixed, [], []⟩
def d_l_numbers : He.DefD := ⟨("_law_numbers", none), "_law_numbers", "_law_numbers", defArgs s_l_numbers, defBody s_l_numbers, defScope s_l_numbers, [], []⟩
def d_l_tiny : He.DefD := ⟨("_law_tiny", none), "_law_tiny", "_law_tiny", defArgs s_l_tiny, defBody s_l_tiny, defScope s_l_tiny, [], []⟩
def d_l_values : He.DefD := ⟨("_law_values", none), "_law_values", "_law_values", defArgs s_l_values, defBody s_l_values, defScope s_l_values, [], []⟩
def d_l_tiles : He.DefD := ⟨("_law_tiles", none), "_law_tiles", "_law_tiles", defArgs s_l_tiles, defBody s_l_tiles, defScope s_l_tiles, [], []⟩
def d_l_order : He.DefD := ⟨("_law_order", none), "_law_order", "_law_order", defArgs s_l_order, defBody s_l_order, defScope s_l_order, [], []⟩
def d_l_regions : He.DefD := ⟨("_law_regions", none), "_law_regions", "_law_regions", defArgs s_l_regions, defBody s_l_regions, defScope s_l_regions, [], []⟩
def d_l_picture : He.DefD := ⟨("_law_picture", none), "_law_picture", "_law_picture", defArgs s_l_picture, defBody s_l_picture, defScope s_l_picture, [], []⟩
def d_l_frame : He.DefD := ⟨("_law_frame", none), "_law_frame", "_law_frame", defArgs s_l_frame, defBody s_l_frame, defScope s_l_frame, [], []⟩
def d_l_cut : He.DefD := ⟨("_law_cut", none), "_law_cut", "_law_cut", defArgs s_l_cut, defBody s_l_cut, defScope s_l_cut, [], []⟩
def d_l_refused : He.DefD := ⟨("_law_refused", none), "_law_refused", "_law_refused", defArgs s_l_refused, defBody s_l_refused, defScope s_l_refused, [], []⟩
def d_law : He.DefD := ⟨("law", none), "law", "law", defArgs s_law, defBody s_law, defScope s_law, [], []⟩
def fnL0 : List He.DefD := [d_OutOfRange_init, d_check_width, d_check_bits, d_check_code, d_context, d_shares, d_interval, d_check_count, d_digits_value, d_digits_text, d_code, d_encode, d_opens, d_last_with_zero, d_first_with_one, d_next_bit, d_find_prefix, d_known_prefix, d_known, d_check_shape, d_check_size, d_Frame_init, d_Frame_across, d_Frame_down, d_Frame_tiles, d_Frame_pixels, d_tile_corner, d_tile_size, d_tile_pixels, d_all_keys, d_check_key, d_Arrived_init, d_Arrived_digits, d_Arrived_accept, d_Arrived_packets]
def fnL1 : List He.DefD := [d_known_text, d_many_low, d_many_high, d_count_possible, d_first_possible, d_binary_value, d_binary, d_rank_among, d_possible_at, d_are_values, d_Picture_init, d_Picture_value, d_Picture_rows, d_Picture_same, d_fits_frame, d_gray_bit, d_value_of, d_stored_bit, d_packet_bits, d_stored, d_values, d_picture_of, d_packet_code, d_choices, d_count_pictures, d_agrees, d_number_of, d_picture_at, d_is_rectangle, d_check_regions, d_touches, d_boost, d_plan, d_is_open, d_request]
def fnL2 : List He.DefD := [d_check_requests, d_check_asked, d_bits_needed, d_remainder_length, d_concluded, d_remainder, d_finish, d_l_cell, d_l_mixed, d_l_numbers, d_l_tiny, d_l_values, d_l_tiles, d_l_order, d_l_regions, d_l_picture, d_l_frame, d_l_cut, d_l_refused, d_law]
def fnL : List He.DefD := fnL0 ++ fnL1 ++ fnL2
def faL0 : List He.Fa := [.glo "check_width", .glo "check_bits", .glo "check_code", .glo "context", .glo "shares", .glo "interval", .glo "check_count", .glo "digits_value", .glo "digits_text", .glo "_code", .glo "encode", .glo "opens", .glo "last_with_zero", .glo "first_with_one", .glo "_next_bit", .glo "find_prefix", .glo "known_prefix", .glo "known", .glo "check_shape", .glo "check_size", .glo "tile_corner", .glo "tile_size", .glo "tile_pixels", .glo "all_keys", .glo "check_key", .glo "known_text", .glo "_many_low", .glo "_many_high", .glo "count_possible", .glo "first_possible", .glo "binary_value", .glo "binary", .glo "rank_among", .glo "possible_at", .glo "_are_values"]
def faL1 : List He.Fa := [.glo "fits_frame", .glo "gray_bit", .glo "value_of", .glo "stored_bit", .glo "packet_bits", .glo "_stored", .glo "_values", .glo "picture_of", .glo "packet_code", .glo "_choices", .glo "count_pictures", .glo "agrees", .glo "number_of", .glo "picture_at", .glo "_is_rectangle", .glo "check_regions", .glo "touches", .glo "boost", .glo "plan", .glo "is_open", .glo "request", .glo "check_requests", .glo "check_asked", .glo "bits_needed", .glo "remainder_length", .glo "_concluded", .glo "remainder", .glo "finish", .glo "_law_cell", .glo "_law_mixed", .glo "_law_numbers", .glo "_law_tiny", .glo "_law_values", .glo "_law_tiles", .glo "_law_order"]
def faL2 : List He.Fa := [.glo "_law_regions", .glo "_law_picture", .glo "_law_frame", .glo "_law_cut", .glo "_law_refused", .glo "law", .glo "Frame", .glo "Picture", .glo "Arrived", .glo "OutOfRange", .glo "OtherKind", .int "BITS_MOST" 256, .int "WIDTH_MOST" 16, .int "CODE_MOST" 400, .int "SIDE_MOST" 64, .int "VALUES_MOST" 3072, .int "DEPTH_MOST" 8, .int "TILE_MOST" 16, .int "START_MOST" 65535, .int "DIGITS_MOST" 65535, .int "REGIONS_MOST" 16, .int "BOOST_MOST" 16, .free "range", .free "reversed", .free "len", .free "min", .free "max", .free "list", .free "divmod", .free "sorted", .free "zip", .free "enumerate", .free "abs", .free "int", .free "isinstance"]
def faL3 : List He.Fa := [.free "str", .cls "Frame", .noat "Frame" "width", .noat "Frame" "height", .noat "Frame" "depth", .noat "Frame" "channels", .noat "Frame" "tile", .meth "Frame" "across", .meth "Frame" "down", .meth "Frame" "tiles", .meth "Frame" "pixels", .mkr "Frame", .cls "Picture", .noat "Picture" "width", .noat "Picture" "height", .noat "Picture" "depth", .noat "Picture" "channels", .noat "Picture" "_rows", .meth "Picture" "value", .meth "Picture" "rows", .meth "Picture" "same", .mkr "Picture", .cls "Arrived", .noat "Arrived" "frame", .noat "Arrived" "_texts", .meth "Arrived" "digits", .meth "Arrived" "accept", .meth "Arrived" "packets", .mkr "Arrived", .exc "OtherKind", .exm "OutOfRange" "OutOfRange" true, .exm "OutOfRange" "OtherKind" false, .exm "OtherKind" "OtherKind" true, .noat "OutOfRange" "name", .keep "OutOfRange"]
def faL : List He.Fa := faL0 ++ faL1 ++ faL2 ++ faL3
def looseL0 : List Str := [("_wall" : Str), ("PictureError" : Str), ("OutOfRange" : Str), ("BitsAhead" : Str), ("Contradiction" : Str), ("NoSuchPacket" : Str), ("OtherKind" : Str), ("PacketTwice" : Str), ("BITS_MOST" : Str), ("WIDTH_MOST" : Str), ("CODE_MOST" : Str), ("check_width" : Str), ("check_bits" : Str), ("check_code" : Str), ("context" : Str), ("shares" : Str), ("interval" : Str), ("check_count" : Str), ("digits_value" : Str), ("digits_text" : Str), ("_code" : Str), ("encode" : Str), ("opens" : Str), ("last_with_zero" : Str), ("first_with_one" : Str), ("_next_bit" : Str), ("find_prefix" : Str), ("known_prefix" : Str), ("known" : Str), ("SIDE_MOST" : Str), ("VALUES_MOST" : Str), ("DEPTH_MOST" : Str), ("TILE_MOST" : Str), ("check_shape" : Str), ("check_size" : Str)]
def looseL1 : List Str := [("Frame" : Str), ("tile_corner" : Str), ("tile_size" : Str), ("tile_pixels" : Str), ("all_keys" : Str), ("check_key" : Str), ("START_MOST" : Str), ("DIGITS_MOST" : Str), ("Arrived" : Str), ("known_text" : Str), ("_many_low" : Str), ("_many_high" : Str), ("count_possible" : Str), ("first_possible" : Str), ("binary_value" : Str), ("binary" : Str), ("rank_among" : Str), ("possible_at" : Str), ("_are_values" : Str), ("Picture" : Str), ("fits_frame" : Str), ("gray_bit" : Str), ("value_of" : Str), ("stored_bit" : Str), ("packet_bits" : Str), ("_stored" : Str), ("_values" : Str), ("picture_of" : Str), ("packet_code" : Str), ("_choices" : Str), ("count_pictures" : Str), ("agrees" : Str), ("number_of" : Str), ("picture_at" : Str), ("REGIONS_MOST" : Str)]
def looseL2 : List Str := [("BOOST_MOST" : Str), ("_is_rectangle" : Str), ("check_regions" : Str), ("touches" : Str), ("boost" : Str), ("plan" : Str), ("is_open" : Str), ("request" : Str), ("check_requests" : Str), ("check_asked" : Str), ("bits_needed" : Str), ("remainder_length" : Str), ("_concluded" : Str), ("remainder" : Str), ("finish" : Str), ("_law_cell" : Str), ("_law_mixed" : Str), ("_law_numbers" : Str), ("_law_tiny" : Str), ("_law_values" : Str), ("_law_tiles" : Str), ("_law_order" : Str), ("_law_regions" : Str), ("_law_picture" : Str), ("_law_frame" : Str), ("_law_cut" : Str), ("_law_refused" : Str)]
def looseL : List Str := looseL0 ++ looseL1 ++ looseL2
abbrev RW : PySem.W.OpenRow := PySem.W.OpenLaw.row PySem.Challenge.rw_packetpicture_k65_whole_remainder_finish
def exB (K : PySem.W.Frag) : Bool :=
  (match K.lookup (He.ga K "OutOfRange") with
    | some ⟨.type "type", _, .cls cd, sl⟩ => (match cd.mro, sl.toList with
      | .ref C' :: bm, [_, _, _, _, some (.builtin n), _] => C' == He.ga K "OutOfRange" && n == "ValueError.__new__" && !cd.hasDel && cd.hasDict && PySem.HandSPX.refsVE bm
      | _, _ => false)
    | _ => false)
  && decide (PySem.W.findIn K (.ref (He.ga K "OutOfRange")) "__setattr__" = some (some (.builtin "object.__setattr__")))
  && decide (PySem.W.subIn K (.ref (He.ga K "OutOfRange")) (.type "BaseException") = some true)
  && decide (PySem.W.typeIn K (.ref (He.ga K "OutOfRange")) = some (.type "type"))
  && decide (PySem.W.findIn K (.ref (He.ga K "OutOfRange")) "__init__" = some (some (.ref (He.ma K (He.ga K "OutOfRange") "__init__"))))
  && decide (PySem.W.typeIn K (.ref (He.ma K (He.ga K "OutOfRange") "__init__")) = some (.type "function"))
  && decide (PySem.W.findIn K (.ref (He.ga K "OutOfRange")) "__getattribute__" = some (some (.builtin "BaseException.__getattribute__")))
  && decide (PySem.W.findIn K (.ref (He.ga K "OutOfRange")) "__getattr__" = some none)
  && PySem.W.hasDictIn K (He.ga K "OutOfRange")
def asL : List Addr := [3, 6, 4, 21, 31, 51, 63, 75, 87, 99, 111, 120, 127, 134, 141, 148, 155, 162, 169, 174, 181, 188, 195, 202, 209, 216, 223, 230, 237, 244, 251, 310, 321, 328, 333, 338, 345, 402, 413, 420, 427, 434, 441, 448, 455, 462, 469, 476, 531, 542, 549, 556, 563, 568, 575, 580, 585, 592, 599, 606, 613, 620, 627, 634, 641, 648, 655, 660, 667, 672, 679, 686, 693, 700, 707, 714, 721, 728, 735, 742, 749, 754, 761, 768, 775, 782, 789, 796, 803, 808, 0, 20, 30, 50, 62, 74, 86, 98, 110, 119, 126, 133, 140, 147, 154, 161, 168, 173, 180, 187, 194, 201, 208, 215, 222, 229, 236, 243, 250, 309, 320, 327, 332, 337, 344, 401, 412, 419, 426, 433, 440, 447, 454, 461, 468, 475, 530, 541, 548, 555, 562, 567, 574, 579, 584, 591, 598, 605, 612, 619, 626, 633, 640, 647, 654, 659, 666, 671, 678, 685, 692, 699, 706, 713, 720, 727, 734, 741, 748, 753, 760, 767, 774, 781, 788, 795, 802, 807, 48, 265, 272, 279, 286, 293, 300, 307, 359, 366, 373, 378, 385, 392, 399, 488, 495, 502, 507, 514, 521, 528, 47, 264, 271, 278, 285, 292, 299, 306, 358, 365, 372, 377, 384, 391, 398, 487, 494, 501, 506, 513, 520, 527]
def obK (K : PySem.W.Frag) : He.AlD × Bool := (He.obsD faL fnL K, exB K)
def obM (g : Addr → Option Obj) : He.AlD × Bool := obK (He.frG g asL)
def hkM : PySem.W.Hook where
  α := He.AlD × Bool
  obs := fun s => obM s.heap.get?
  val := fun _ => (He.valD fnL, true)
  says := fun _ h => ∃ K : PySem.W.Frag, K.In h ∧ He.SaysD faL fnL K ∧ exB K = true
  of := fun _ _ e => ⟨_, He.frG_in, congrArg Prod.fst e, congrArg Prod.snd e⟩
  keeps := fun _ _ _ ⟨K, hK, c⟩ k => ⟨K, PySem.W.Frag.In.keeps hK k, c⟩
def obT (s : PySem.W.SharedT) : He.AlD × Bool := obM (HandSHeadRun.getT s)
theorem obT_eq (s : PySem.W.SharedT) : obT s = hkM.obs s.abs := by
  have e : HandSHeadRun.getT s = s.abs.heap.get? := funext fun a => HandSHeadRun.getT_eq s a
  unfold obT
  rw [e] <;> rfl
theorem run (w : World) : HandSHeadRun.RunEq RW (PySem.W.view RW.prog [111]) hkM obT 20000 looseL w := by
  intro os
  kernel_rfl
end PK

set_option maxHeartbeats 4000000
namespace PK
open PySem PySem.Spec PyProof.Rows L2 Evl
/-! ### a def that stands behind the top; a def that keeps a promise -/
structure DefAt (K : PySem.W.Frag) (mg : Str → Option Value) (x : Str) (st : Stmt) (ps : List Str) : Prop where
  ex : ∃ f fd, Fun K x x st f fd ∧ mg x = some (.ref f) ∧ Binds K fd ps []
structure Has (P : Program) (w : World) (K : PySem.W.Frag) (mg : Str → Option Value) (base : Heap) (CX : CXT) (k : Nat) (x : Str) (ps : List Str) (sp : Sp) : Prop where
  ex : ∃ f fd, mg x = some (.ref f) ∧ PySem.W.keepIn K (.ref f) = true ∧ Binds K fd ps [] ∧ FnOk P w K mg base CX k f fd ps sp
section
variable {P : Program} {w : World} {K : PySem.W.Frag} {mg : Str → Option Value} {base : Heap}
theorem has0 {x : Str} {st : Stmt} {N ps : List Str} {sp : Sp} {k : Nat} (D : DefAt K mg x st ps) (S : FnScope N ps (defScope st)) (len : ∀ vs H Q E, sp vs H Q E → vs.length = ps.length)
    (hb : ∀ (f : Addr) (cdv : Value) (A : Around) (outer : List Env) (s : Shared) (H : Hp) (vs : List V) (Q : VK) (E : XK), Room k (A.deeper (envOfC x (defScope st) s.heap.objs.size f cdv)) → sp vs H Q E →
      ∃ t, PSs (cxOf CX0 P w K mg base N x (defScope st) f cdv A outer s H E).nox (defBody st) t ∧ t { nx := fun _ H' => Q .non H', rt := Q } (start N vs) H) : Has P w K mg base CX0 (k + 1) x ps sp := by
  obtain ⟨f, fd, F, m, b⟩ := D.ex
  exact ⟨f, fd, m, F.kp, b, F.ok S len (hb f)⟩
theorem Has.mono {CX : CXT} {j k : Nat} {x : Str} {ps : List Str} {sp : Sp} (G : Has P w K mg base CX j x ps sp) (h : j ≤ k) : Has P w K mg base CX k x ps sp := by
  obtain ⟨f, fd, m, kp, b, F⟩ := G.ex
  exact ⟨f, fd, m, kp, b, F.mono h⟩
end
section
variable {X : Cx} {CX : CXT} {k : Nat} {x : Str} {ps : List Str} {sp : Sp} {E : XK} {p pos : Pos} {e : Expr} {es : List Expr} {t : TA}
def tHas (sp : Sp) (E : XK) (t : TA) : TE := fun σ H Q => t σ H fun vs H1 => sp vs H1 Q E
/-- a call of a def by its promise -/
theorem pe_has (G : Has X.prog X.w X.K X.mg X.base CX0 k x ps sp) (hr : Room k X.A) (ha : PA X (e :: es) t) (hg : Gl X x := by rfl) (hdb : (x == ("__debug__" : Str)) = false := by decide)
    (he : starEach (e :: es) X.env = (false, eval e X.env) :: starEach es X.env := by rfl) (hpl : (backTo pos (starEach es X.env)).any (·.1) = false := by rfl) :
    PE X (.Call (.Name x p) (e :: es) [] pos) (tHas sp E0 t) := by
  obtain ⟨f, fd, m, kp, b, F⟩ := G.ex
  have q := pe_call (E := E0) F hr hg m kp b .nil pass0 ha hdb he hpl (pos := pos) (p := p)
  have e : tCall sp [] E0 t = tHas sp E0 t := by
    funext σ H Q
    show (t σ H fun vs H1 => sp (vs ++ []) H1 Q E0) = _
    simp only [List.append_nil] <;> rfl
  rw [← e]
  exact q
/-- a module's int -/
theorem pe_gint {i : Int} (h : ∃ t, X.mg x = some (.int i t)) (hg : Gl X x := by rfl) (hd : (x == ("__debug__" : Str)) = false := by decide) : PE X (.Name x pos) (tC (.int i)) := by
  obtain ⟨t, h⟩ := h
  exact pe_glob hg h ⟨t, rfl⟩ hd
end
/-! ### texts of bits -/
def b1 (b : Bool) : Str := ⟨#[if b then 49 else 48]⟩
def bs (l : List Bool) : Str := ⟨(l.map fun b => if b then 49 else 48).toArray⟩
theorem bs_nil : bs [] = Str.ofString "" := by decide +kernel
theorem b1_one : b1 true = Str.ofString "1" := by decide +kernel
theorem b1_zero : b1 false = Str.ofString "0" := by decide +kernel
theorem bs_one (b : Bool) : bs [b] = b1 b := rfl
theorem bs_length (l : List Bool) : (bs l).length = l.length := by simp [bs, Str.length]
theorem bs_append (l m : List Bool) : bs l ++ bs m = bs (l ++ m) := by
  show (⟨(bs l).cps ++ (bs m).cps⟩ : Str) = _
  simp [bs]
theorem bs_inj {l m : List Bool} (h : bs l = bs m) : l = m := by
  have e : ((l.map fun b => if b = true then 49 else 48).toArray : Array Nat) = (m.map fun b => if b = true then 49 else 48).toArray := congrArg Str.cps h
  have e2 : l.map (fun b => if b = true then 49 else 48) = m.map fun b => if b = true then 49 else 48 := by simpa using congrArg Array.toList e
  clear h e
  induction l generalizing m with
  | nil => cases m with
    | nil => rfl
    | cons b r => simp at e2
  | cons a r ih => cases m with
    | nil => simp at e2
    | cons b q =>
      simp only [List.map_cons, List.cons.injEq] at e2
      rw [ih e2.2]
      congr 1
      cases a <;> cases b <;> simp_all
theorem bs_at {l : List Bool} {j : Nat} {b : Bool} (h : l[j]? = some b) : atI (bs l).cps.toList (j : Int) = some (if b then 49 else 48) := by
  refine atI_nat ?_
  show ((l.map fun b => if b then 49 else 48).toArray.toList : List Nat)[j]? = _
  simp [h]
theorem eq_one (b : Bool) : decide (V.str (b1 b) = V.str (Str.ofString "1")) = b := by cases b <;> decide +kernel
theorem eq_ones (l : List Bool) (h : l.length = 1) : decide (V.str (bs l) = V.str (Str.ofString "1")) = l.getD 0 false := by
  match l, h with
  | [b], _ => exact eq_one b
/-- bits[i] of a text of bits -/
theorem ix_bs {l : List Bool} {j : Nat} {i : Int} {b : Bool} {H : Hp} {Q : VK} (e : i = (j : Int)) (h : l[j]? = some b) (hl : l.length ≤ 100000) (q : Q (.str (b1 b)) H) : rIxS (.str (bs l)) (.int i) H Q :=
  ⟨bs l, i, _, rfl, rfl, by rw [bs_length]; exact sz_of hl, by rw [e]; exact bs_at h, q⟩
/-! ### readings, computed -/
local macro_rules | `(tactic| walk_at "rd") => `(tactic| simp only [tSeq, tAsg, tRet, tIfS, tTest, tOp, tUn, tVar, tC, tCons, tNil, tCB, tHas, gName, rI0, rI, rU, tNext, tNot, tAnd, tOr, tChain, tIf, tB,
  L2.start, List.map_cons, List.map_nil, List.length_cons, List.length_nil, List.replicate, List.cons_append, List.nil_append, List.getElem?_cons_zero, List.getElem?_cons_succ, List.set_cons_zero, List.set_cons_succ,
  Option.some.injEq, V.int.injEq, V.bl.injEq, V.str.injEq, V.ref.injEq, exists_eq_left', exists_eq_left, exists_and_left, List.cons.injEq, and_true, true_and, eq_self_iff_true, Nat.reduceAdd, Nat.reduceSub, Nat.zero_add])
end PK
namespace PK
open PySem PySem.Spec PyProof.Rows L2 Evl
/-! ### methods, constructors -/
structure MethAt (K : PySem.W.Frag) (C : Addr) (m qual : Str) (st : Stmt) (ps : List Str) : Prop where
  ex : ∃ f fd, Fun K m qual st f fd ∧ Meth K C m f ∧ Binds K fd ps []
structure InitAt (K : PySem.W.Frag) (C : Addr) (qual : Str) (st : Stmt) (ps : List Str) : Prop where
  ex : ∃ f fd, Fun K "__init__" qual st f fd ∧ Mk K C f ∧ Binds K fd ps []
structure HasM (P : Program) (w : World) (K : PySem.W.Frag) (mg : Str → Option Value) (base : Heap) (CX : CXT) (k : Nat) (C : Addr) (m : Str) (ps : List Str) (sp : Sp) : Prop where
  ex : ∃ f fd, Meth K C m f ∧ Binds K fd ps [] ∧ FnOk P w K mg base CX k f fd ps sp
structure HasI (P : Program) (w : World) (K : PySem.W.Frag) (mg : Str → Option Value) (base : Heap) (CX : CXT) (k : Nat) (C : Addr) (ps : List Str) (sp : Sp) : Prop where
  ex : ∃ f fd, Mk K C f ∧ Binds K fd ps [] ∧ FnOk P w K mg base CX k f fd ps sp
section
variable {P : Program} {w : World} {K : PySem.W.Frag} {mg : Str → Option Value} {base : Heap} {C : Addr}
theorem hasM0 {m qual : Str} {st : Stmt} {N ps : List Str} {sp : Sp} {k : Nat} (D : MethAt K C m qual st ps) (S : FnScope N ps (defScope st)) (len : ∀ vs H Q E, sp vs H Q E → vs.length = ps.length)
    (hb : ∀ (f : Addr) (cdv : Value) (A : Around) (outer : List Env) (s : Shared) (H : Hp) (vs : List V) (Q : VK) (E : XK), Room k (A.deeper (envOfC qual (defScope st) s.heap.objs.size f cdv)) → sp vs H Q E →
      ∃ t, PSs (cxOf CX0 P w K mg base N qual (defScope st) f cdv A outer s H E).nox (defBody st) t ∧ t { nx := fun _ H' => Q .non H', rt := Q } (L2.start N vs) H) : HasM P w K mg base CX0 (k + 1) C m ps sp := by
  obtain ⟨f, fd, F, m, b⟩ := D.ex
  exact ⟨f, fd, m, b, F.ok S len (hb f)⟩
theorem hasI0 {qual : Str} {st : Stmt} {N ps : List Str} {sp : Sp} {k : Nat} (D : InitAt K C qual st ps) (S : FnScope N ps (defScope st)) (len : ∀ vs H Q E, sp vs H Q E → vs.length = ps.length)
    (hb : ∀ (f : Addr) (cdv : Value) (A : Around) (outer : List Env) (s : Shared) (H : Hp) (vs : List V) (Q : VK) (E : XK), Room k (A.deeper (envOfC qual (defScope st) s.heap.objs.size f cdv)) → sp vs H Q E →
      ∃ t, PSs (cxOf CX0 P w K mg base N qual (defScope st) f cdv A outer s H E).nox (defBody st) t ∧ t { nx := fun _ H' => Q .non H', rt := Q } (L2.start N vs) H) : HasI P w K mg base CX0 (k + 1) C ps sp := by
  obtain ⟨f, fd, F, m, b⟩ := D.ex
  exact ⟨f, fd, m, b, F.ok S len (hb f)⟩
end
end PK

set_option maxHeartbeats 4000000
namespace PK
open PySem PySem.Spec PyProof.Rows L2 Evl
/-! ### for i, c in enumerate(a text) -/
def IteS (x : Str) : It := ⟨fun i _ => i < x.cps.size, fun i H v H' => ∃ T c, v = .ref T ∧ H T = none ∧ H' = upd H T (.tup [.int (i : Nat), .str ⟨#[c]⟩]) ∧ x.cps[i]? = some c, fun i _ => i = x.cps.size⟩
theorem turn_enumS {P : Program} {w : World} {K : PySem.W.Frag} {elts : List Expr} {kk : Nat} {tpos : Pos} {x : Str} {t : Tok} {e it : Addr} (hne : e ≠ it) :
    Turn P w K (.Tuple elts kk tpos) (IteS x) [e, it] e (fun i h => (∃ old, IsEnum h e it (0 + ((i : Nat) : Int)) old) ∧ h.IsStrIter it (strIterType x) x t i) where
  mem := by simp
  obj := fun i h st b hb => by
    obtain ⟨⟨old, he⟩, o, ho, hc, hd⟩ := st
    rcases (show b = e ∨ b = it by simpa using hb) with rfl | rfl
    · exact ⟨_, he, fun v q => nomatch q⟩
    · exact ⟨o, ho, fun v q => by rw [hd] at q; cases q⟩
  keep := fun i h h' st k => by
    obtain ⟨⟨old, he⟩, o, ho, hc, hd⟩ := st
    exact ⟨⟨old, k e (by simp) _ he⟩, o, k it (by simp) o ho, hc, hd⟩
  item := by
    intro X hP hw hK hc i pins s σ H E I hf st hg
    cases hP; cases hw; cases hK
    have hh : X.A.in1.handled = none := I.ok.hd hc
    have G : GoesN X.prog X.w X.A (.Tuple elts kk tpos) e [e, it] [e, it] x.cps.size (fun i h₀ v h => ∃ T t' y, v = .ref T ∧ h₀.objs.size ≤ T ∧ (∃ c u, x.cps[i]? = some c ∧ y = .str ⟨#[c]⟩ u) ∧ h.IsTuple T #[.int (0 + (i : Int)) t', y])
        (fun i h => (∃ old, IsEnum h e it (0 + (i : Int)) old) ∧ h.IsStrIter it (strIterType x) x t i) :=
      GoesN.enumFrom 0 (Draws.text hh it x t) e hne (by simpa using hne) (by simp)
    refine wpAny_mono (G.goes i s (fun v s2 => ∃ y H', Inv X pins σ H' s2 ∧ RelV y v ∧ (IteS x).yld i H y H' ∧ ((∃ old, IsEnum s2.heap e it (0 + ((i + 1 : Nat) : Int)) old) ∧ s2.heap.IsStrIter it (strIterType x) x t (i + 1)) ∧ ∀ b ∈ [e, it], H' b = none) E hg st fun v h' tk hY st' hk htk => ?_) (fun r s1 q => q) fun _ _ q => q
    obtain ⟨T, t', y, rfl, hT, ⟨c, u, hx, rfl⟩, o, ho, hoc, n, hod⟩ := hY
    have hfr : H T = none := I.hok.fresh hT
    have new : ObjOk X.prog X.w (upd H T (.tup [.int (i : Nat), .str ⟨#[c]⟩])) h' T (.tup [.int (i : Nat), .str ⟨#[c]⟩]) :=
      ⟨by show 2 ≤ sizeLine; decide, [.int (0 + (i : Int)) t', .str ⟨#[c]⟩ u], .cons ⟨t', by rw [Int.zero_add]⟩ (.cons ⟨u, rfl⟩ .nil), ⟨o, ho, hoc, n, hod⟩⟩
    refine ⟨.ref T, _, I.turnedNew (t' := tk) (ch := [e, it]) hk hf hT new, rfl, ⟨T, c, rfl, hfr, rfl, hx⟩, st', fun b hb => ?_⟩
    have hlt : b < s.heap.objs.size := by
      obtain ⟨⟨old, he⟩, o2, ho2, _⟩ := st
      rcases (show b = e ∨ b = it by simpa using hb) with z | z
      · rw [z]; exact Heap.lt_size he
      · rw [z]; exact Heap.lt_size ho2
    rw [upd_ne (Nat.ne_of_lt (Nat.lt_of_lt_of_le hlt hT))]
    exact (hf b hb).1
  done := by
    intro X hP hw hK hc i pins s σ H E I hf st hg
    cases hP; cases hw; cases hK
    have hh : X.A.in1.handled = none := I.ok.hd hc
    have hi : i = x.cps.size := hg
    subst hi
    have G : GoesN X.prog X.w X.A (.Tuple elts kk tpos) e [e, it] [e, it] x.cps.size (fun i h₀ v h => ∃ T t' y, v = .ref T ∧ h₀.objs.size ≤ T ∧ (∃ c u, x.cps[i]? = some c ∧ y = .str ⟨#[c]⟩ u) ∧ h.IsTuple T #[.int (0 + (i : Int)) t', y])
        (fun i h => (∃ old, IsEnum h e it (0 + (i : Int)) old) ∧ h.IsStrIter it (strIterType x) x t i) :=
      GoesN.enumFrom 0 (Draws.text hh it x t) e hne (by simpa using hne) (by simp)
    exact G.stops s _ E st fun h' tk hk _ => I.turnedL (t' := tk) hk hf
  self := fun A i s Q E st h => let ⟨⟨_, he⟩, _⟩ := st; wpAny_pyIter_enum he h
def iEnumS (ta : TA) : TI := fun σ H R => ta σ H fun vs H1 => ∃ x, vs = [.str x] ∧ R (IteS x) H1
theorem pi_enumS {X : Cx} {e : Expr} {ta : TA} {p pos tpos : Pos} {elts : List Expr} {kk : Nat} (hm : X.mg "enumerate" = none) (ha : PA X [e] ta) (hg : Gl X "enumerate" := by rfl) (hs : starEach [e] X.env = [(false, eval e X.env)] := by rfl) :
    PI X (.Tuple elts kk tpos) (.Call (.Name "enumerate" p) [e] [] pos) (iEnumS ta) := by
  refine ⟨fun pins s σ H R I h => ?_⟩
  refine Call_ (ld_blt I hg hm boot_enumerate (PyProof.Rows.callWith_type1 (thn (ha.run pos pins s σ H _ I h) fun us s1 ⟨vs, H1, I1, r1, q1⟩ => ?_) hs rfl))
  obtain ⟨x, ex, q⟩ := q1
  subst ex
  cases r1 with
  | cons r rr =>
    cases rr
    obtain ⟨t, rfl⟩ := r
    refine call_enumerate_str fun h' he hit hsz hk => wpAny_pyIter_enum he ?_
    have I2 : Inv X pins σ H1 { s1 with heap := h' } := I1.kept (t' := s1.toks) hk
    refine ⟨s1.heap.objs.size + 1, [s1.heap.objs.size + 1, s1.heap.objs.size], _, _, H1, rfl, I2, turn_enumS (x := x) (t := t) (Nat.succ_ne_self _), ⟨⟨.none, he⟩, hit⟩, fun b hb => ?_, q⟩
    have hle : s1.heap.objs.size ≤ b := by
      rcases (show b = s1.heap.objs.size + 1 ∨ b = s1.heap.objs.size by simpa using hb) with z | z
      · rw [z]; exact Nat.le_add_right _ _
      · rw [z]; exact Nat.le_refl _
    exact I1.fpOk hle (I1.hok.fresh hle)
theorem walk_enumS {x : Str} : Walk (IteS x) x.cps.size (fun _ => True) (YPair (fun i => some (.int (i : Nat))) (fun i => x.cps[i]?.map fun c => .str ⟨#[c]⟩)) := by
  refine ⟨fun i _ hi _ => hi, fun _ _ => rfl, fun i H v H' _ _ y => ?_⟩
  obtain ⟨T, c, h1, h2, h3, h4⟩ := y
  exact ⟨T, _, _, h1, h2, h3, rfl, by show x.cps[i]?.map _ = _; rw [h4] <;> rfl⟩
/-! ### for a, c in zip(a list, a text) -/
def ItzS (K : PySem.W.Frag) (a : Addr) (x : Str) : It :=
  ⟨fun i H => (∃ xs v, SqL K H a xs ∧ xs[i]? = some v) ∧ i < x.cps.size, fun i H v H' => ∃ T y c, v = .ref T ∧ H T = none ∧ H' = upd H T (.tup [y, .str ⟨#[c]⟩]) ∧ x.cps[i]? = some c ∧ ∀ xs, SqL K H a xs → xs[i]? = some y,
    fun i H => ∃ xs : List V, SqL K H a xs ∧ i = min xs.length x.cps.size⟩
theorem turn_zipS {P : Program} {w : World} {K : PySem.W.Frag} {elts : List Expr} {kk : Nat} {tpos : Pos} {x : Str} {t : Tok} {a z TI TO i1 i2 : Addr} (S : ZipSep2 z TI TO i1 i2 [i1, a] [i2]) (ane : a ≠ i1) :
    Turn P w K (.Tuple elts kk tpos) (ItzS K a x) [z, TI, TO, i1, i2] z (fun i h => IsZip h z TI TO .none ∧ IsTupOf2 h TI (.ref i1) (.ref i2) ∧ (∃ a1 a2, IsTupOf2 h TO a1 a2) ∧ h.IsListIter i1 a i ∧ h.IsStrIter i2 (strIterType x) x t i) where
  mem := by simp
  obj := fun i h st c hc => by
    obtain ⟨hz, hTI, ⟨x0, y0, hTO⟩, ⟨o1, e1, _, d1⟩, o2, e2, _, d2⟩ := st
    rcases (show c = z ∨ c = TI ∨ c = TO ∨ c = i1 ∨ c = i2 by simpa using hc) with rfl | rfl | rfl | rfl | rfl
    · exact ⟨_, hz, fun v q => nomatch q⟩
    · exact ⟨_, hTI, fun v q => nomatch q⟩
    · exact ⟨_, hTO, fun v q => nomatch q⟩
    · exact ⟨o1, e1, fun v q => by rw [d1] at q; cases q⟩
    · exact ⟨o2, e2, fun v q => by rw [d2] at q; cases q⟩
  keep := fun i h h' st k => by
    obtain ⟨hz, hTI, ⟨x0, y0, hTO⟩, h1, o2, e2, c2, d2⟩ := st
    exact ⟨k z (by simp) _ hz, k TI (by simp) _ hTI, ⟨x0, y0, k TO (by simp) _ hTO⟩, h1.at fun o q => k i1 (by simp) o q, o2, k i2 (by simp) _ e2, c2, d2⟩
  item := by
    intro X hP hw hK hc i pins s σ H E I hf st hg
    cases hP; cases hw; cases hK
    have hh : X.A.in1.handled = none := I.ok.hd hc
    obtain ⟨⟨xs, y, hq, hy⟩, hx⟩ := hg
    obtain ⟨its, rv, p, hz0⟩ := I.list hq
    obtain ⟨u, hu, ru⟩ := rv.get hy
    have hin : i < min its.toArray.size x.cps.size := by
      have h1 : i < its.length := (List.getElem?_eq_some_iff.mp hu).1
      simp only [List.size_toArray]
      exact Nat.lt_min.mpr ⟨h1, hx⟩
    have ne1 : a ≠ i1 := ane
    have G := GoesN.zip2 (A := X.A) (elts := elts) (x1 := kk) (pos := tpos) S (Draws.list (prog := X.prog) (w := X.w) hh i1 a ne1 its.toArray) (Draws.text (prog := X.prog) (w := X.w) hh i2 x t)
    obtain ⟨hz, hTI, hTO, h1, h2⟩ := st
    refine wpAny_mono (G.goes i s (fun v s2 => ∃ y H', Inv X pins σ H' s2 ∧ RelV y v ∧ (ItzS X.K a x).yld i H y H' ∧ (IsZip s2.heap z TI TO .none ∧ IsTupOf2 s2.heap TI (.ref i1) (.ref i2) ∧ (∃ a1 a2, IsTupOf2 s2.heap TO a1 a2) ∧ s2.heap.IsListIter i1 a (i + 1) ∧ s2.heap.IsStrIter i2 (strIterType x) x t (i + 1)) ∧ ∀ b ∈ [z, TI, TO, i1, i2], H' b = none) E hin ⟨hz, hTI, hTO, ⟨h1, p.isList⟩, h2⟩ fun v h' tk hY st' hk htk => ?_) (fun r s1 q => q) fun _ _ q => q
    obtain ⟨T, y1, y2, rfl, hT, hx1, ⟨c, u2, hx2, rfl⟩, o, ho, hoc, n, hod⟩ := hY
    have hfr : H T = none := I.hok.fresh hT
    have e1 : y1 = u := by
      rw [List.getElem?_toArray, hu] at hx1
      exact (Option.some.inj hx1).symm
    subst e1
    have new : ObjOk X.prog X.w (upd H T (.tup [y, .str ⟨#[c]⟩])) h' T (.tup [y, .str ⟨#[c]⟩]) :=
      ⟨by show 2 ≤ sizeLine; decide, [y1, .str ⟨#[c]⟩ u2], .cons ru (.cons ⟨u2, rfl⟩ .nil), ⟨o, ho, hoc, n, hod⟩⟩
    obtain ⟨z1, z2, z3, ⟨z4, _⟩, z5⟩ := st'
    have hk' : ∀ b o, b ∉ [z, TI, TO, i1, i2] → s.heap.get? b = some o → h'.get? b = some o := fun b o hb q => hk b o (fun m => hb (by
      rcases (show b = z ∨ b = TO ∨ b = i1 ∨ b = i2 by simpa using m) with r | r | r | r <;> simp [r])) q
    refine ⟨.ref T, _, I.turnedNew (t' := tk) (ch := [z, TI, TO, i1, i2]) hk' hf hT new, rfl, ⟨T, y, c, rfl, hfr, rfl, hx2, fun l hl => by rw [I.list_inj hl hq]; exact hy⟩, ⟨z1, z2, z3, z4, z5⟩, fun b hb => ?_⟩
    have hlt : b < s.heap.objs.size := by
      obtain ⟨x0, y0, hTO⟩ := hTO
      obtain ⟨o1, e1, _⟩ := h1
      obtain ⟨o2, e2, _⟩ := h2
      rcases (show b = z ∨ b = TI ∨ b = TO ∨ b = i1 ∨ b = i2 by simpa using hb) with r | r | r | r | r
      · rw [r]; exact Heap.lt_size hz
      · rw [r]; exact Heap.lt_size hTI
      · rw [r]; exact Heap.lt_size hTO
      · rw [r]; exact Heap.lt_size e1
      · rw [r]; exact Heap.lt_size e2
    rw [upd_ne (Nat.ne_of_lt (Nat.lt_of_lt_of_le hlt hT))]
    exact (hf b hb).1
  done := by
    intro X hP hw hK hc i pins s σ H E I hf st hg
    cases hP; cases hw; cases hK
    have hh : X.A.in1.handled = none := I.ok.hd hc
    obtain ⟨xs, hq, hi⟩ := hg
    obtain ⟨its, rv, p, hz0⟩ := I.list hq
    have hl := rv.length
    have ne1 : a ≠ i1 := ane
    have G := GoesN.zip2 (A := X.A) (elts := elts) (x1 := kk) (pos := tpos) S (Draws.list (prog := X.prog) (w := X.w) hh i1 a ne1 its.toArray) (Draws.text (prog := X.prog) (w := X.w) hh i2 x t)
    obtain ⟨hz, hTI, hTO, h1, h2⟩ := st
    have en : min its.toArray.size x.cps.size = i := by rw [hi]; simp [hl]
    rw [en] at G
    exact G.stops s _ E ⟨hz, hTI, hTO, ⟨h1, p.isList⟩, h2⟩ fun h' tk hk _ => I.turnedL (t' := tk) (ch := [z, TI, TO, i1, i2]) (fun b o hb q => hk b o (fun m => hb (by
      rcases (show b = z ∨ b = TO ∨ b = i1 ∨ b = i2 by simpa using m) with r | r | r | r <;> simp [r])) q) hf
  self := fun A i s Q E st h => wpAny_pyIter_zip st.1 h
def iZipS (K : PySem.W.Frag) (ta : TA) : TI := fun σ H R => ta σ H fun vs H1 => ∃ a xs x, vs = [.ref a, .str x] ∧ SqL K H1 a xs ∧ R (ItzS K a x) H1
theorem pi_zipS {X : Cx} {e e2 : Expr} {ta : TA} {p pos tpos : Pos} {elts : List Expr} {kk : Nat} (hm : X.mg "zip" = none) (ha : PA X [e, e2] ta) (hg : Gl X "zip" := by rfl)
    (hs : starEach [e, e2] X.env = (false, eval e X.env) :: starEach [e2] X.env := by rfl) (hpl : (backTo pos (starEach [e2] X.env)).any (·.1) = false := by rfl) :
    PI X (.Tuple elts kk tpos) (.Call (.Name "zip" p) [e, e2] [] pos) (iZipS X.K ta) := by
  refine ⟨fun pins s σ H R I h => ?_⟩
  refine Call_ (ld_blt I hg hm PyProof.Rows.boot_zip (PyProof.Rows.callWith_type1 (thn (ha.run pos pins s σ H _ I h) fun us s1 ⟨vs, H1, I1, r1, q1⟩ => ?_) hs hpl))
  obtain ⟨a, xs, x, ex, hq, q⟩ := q1
  subst ex
  cases r1 with
  | cons r rr =>
    cases rr with
    | cons r' rr =>
      cases rr
      cases r
      obtain ⟨t, rfl⟩ := r'
      obtain ⟨its, rv, p1, _⟩ := I1.list hq
      have la : a < s1.heap.objs.size := p1.lt
      refine zip_begins2 (begins_list a its.toArray) (begins_text x t) p1.isList trivial fun h' hz hTI hTO h1 h2 hsz hk => wpAny_pyIter_zip hz ?_
      have I2 : Inv X pins σ H1 { s1 with heap := h' } := I1.kept (t' := s1.toks) hk
      refine ⟨s1.heap.objs.size + 4, [s1.heap.objs.size + 4, s1.heap.objs.size + 2, s1.heap.objs.size + 3, s1.heap.objs.size, s1.heap.objs.size + 1], _, _, H1, rfl, I2,
        turn_zipS (x := x) (t := t) (zip_sep2 (fp1 := [a]) (fp2 := []) (by simpa using la) (by simp)) (Nat.ne_of_lt la), ⟨hz, hTI, ⟨_, _, hTO⟩, ⟨_, h1, rfl, rfl⟩, ⟨_, h2, rfl, rfl⟩⟩, fun c hcm => ?_, q⟩
      have hle : s1.heap.objs.size ≤ c := by
        rcases (show c = s1.heap.objs.size + 4 ∨ c = s1.heap.objs.size + 2 ∨ c = s1.heap.objs.size + 3 ∨ c = s1.heap.objs.size ∨ c = s1.heap.objs.size + 1 by simpa using hcm) with z | z | z | z | z
        · rw [z]; exact Nat.le_add_right _ _
        · rw [z]; exact Nat.le_add_right _ _
        · rw [z]; exact Nat.le_add_right _ _
        · rw [z]; exact Nat.le_refl _
        · rw [z]; exact Nat.le_add_right _ _
      exact I1.fpOk hle (I1.hok.fresh hle)
theorem walk_zipS {K : PySem.W.Frag} {a : Addr} {xs : List V} {x : Str} {n : Nat} (hn : n = min xs.length x.cps.size) : Walk (ItzS K a x) n (fun H => SqL K H a xs) (YPair (fun i => xs[i]?) (fun i => x.cps[i]?.map fun c => .str ⟨#[c]⟩)) := by
  subst hn
  refine ⟨fun i _ hi q => ⟨⟨xs, xs[i]'(by omega), q, by simp⟩, by omega⟩, fun _ q => ⟨xs, q, rfl⟩, fun i H v H' _ q y => ?_⟩
  obtain ⟨T, w, c, h1, h2, h3, h4, h5⟩ := y
  exact ⟨T, _, _, h1, h2, h3, h5 xs q, by show x.cps[i]?.map _ = _; rw [h4] <;> rfl⟩
end PK

set_option maxHeartbeats 4000000
namespace PK
open PySem PySem.Spec PyProof.Rows L2 Evl
/-! ### one sign, n times -/
def rMulS : R2 := fun x y H Q => ∃ (c n : Nat), x = .str ⟨#[c]⟩ ∧ y = .int (n : Int) ∧ n ≤ 1000 ∧ Q (.str ⟨(List.replicate n c).toArray⟩) H
theorem fold_one (c : Nat) : ∀ (n : Nat) (a : Array Nat), (List.replicate n #[c]).foldl (· ++ ·) a = a ++ (List.replicate n c).toArray
  | 0, a => by simp
  | n + 1, a => by
    rw [List.replicate_succ, List.foldl_cons, fold_one c n, List.replicate_succ]
    apply Array.toList_inj.mp
    simp
theorem op_mulS {X : Cx} : OpR X (binaryOp .Mult) rMulS := by
  intro pins s σ H x y v u Q I rx ry h
  obtain ⟨c, n, rfl, rfl, hn, q⟩ := h
  obtain ⟨t, rfl⟩ := rx
  obtain ⟨t', rfl⟩ := ry
  have hr : (decide ((n : Int) < -(2 ^ 63 : Int)) || decide ((n : Int) ≥ 2 ^ 63)) = false := by
    rw [decide_eq_false (by omega), decide_eq_false (by omega)]; rfl
  refine PySem.P.mul_str hr (fun h1 _ => ?_) (fun _ _ => ?_) ?_
  · show ¬ ((1 : Int) > (2 ^ 63 - 1) / (n : Int))
    have h2 : (0 : Int) < n := by omega
    have h3 : (1 : Int) ≤ (2 ^ 63 - 1) / (n : Int) := (Int.le_ediv_iff_mul_le h2).mpr (by omega)
    omega
  · show Builtin.Str.tooLong (1 * (n : Int).toNat) = false
    unfold Builtin.Str.tooLong
    have := sizeLine_eq
    simp
    omega
  · by_cases h0 : (n : Int) < 1
    · rw [if_pos h0]
      have e : n = 0 := by omega
      subst e
      exact ⟨by decide, .str _, H, I.tok _, ⟨_, rfl⟩, q⟩
    · rw [if_neg h0]
      by_cases h1 : ((n : Int) == 1 || (⟨#[c]⟩ : Str).length == 0) = true
      · rw [if_pos h1]
        have e : n = 1 := by
          rcases Bool.or_eq_true_iff.mp h1 with z | z
          · have := beq_iff_eq.mp z
            omega
          · exact absurd z (by simp [Str.length])
        subst e
        exact ⟨.str _, H, I, ⟨_, rfl⟩, q⟩
      · rw [if_neg h1]
        rw [show (List.replicate (n : Int).toNat (⟨#[c]⟩ : Str).cps).foldl (· ++ ·) #[] = (List.replicate n c).toArray from by
          rw [Int.toNat_natCast]
          exact (fold_one c n #[]).trans (by simp)]
        refine ⟨?_, .str _, H, I.tok _, ⟨_, rfl⟩, q⟩
        show ((List.replicate n c).toArray).size ≤ sizeLine
        rw [List.size_toArray, List.length_replicate, sizeLine_eq]
        omega
end PK
namespace PK
open PySem PySem.Spec PyProof.Rows L2 Evl
/-! ### list(reversed(range(..))) -/
theorem rit_no_len : typeLookup (.type "range_iterator") "__len__" = pure none := by rw [typeLookup_type, builtinLookup_eq_fast]; kernel_rfl
section
variable {prog : Program} {w : World} {A : Around} {E : Value → Shared → Prop} {s : Shared}
theorem rit_hint {r : Addr} {a l c : Int} {n : Nat} {Q : Bool → Shared → Prop} (hr : IsRangeIter s.heap r a l c) (hl : l = n) (hn : n ≤ 1000) (h : ∀ tk, Q false { s with toks := tk }) : wpAny (model prog w) A (Builtin.List.listLengthHint (.ref r)) Q E s := by
  have hT : s.TypeIs (.ref r) "range_iterator" := ⟨_, hr, rfl⟩
  unfold Builtin.List.listLengthHint
  refine wpAny_bind (wpAny_specialOf hT rit_no_len ?_)
  show wpAny _ A (specialOf (Value.ref r) (Str.ofString "__length_hint__") >>= _) _ _ _
  refine wpAny_bind (wpAny_specialOf hT F.slot_range_iterator_length_hint.lookup ?_)
  generalize hid : ("range_iterator.__length_hint__" : String) = id0
  wp_delta
  rw [show splitId id0 = some ("range_iterator", "__length_hint__") from by subst hid; decide +kernel]
  subst hid
  refine wpAny_bind (wpAny_isInstance (T := "range_iterator") (b := true) hT (by rw [isSubtype_type]; kernel_rfl) ?_)
  refine wpAny_ite_split (fun hab => absurd hab (by decide)) (fun _ => ?_)
  refine wpAny_ite_split (fun _ => ?_) (fun hab => absurd (by decide +kernel) hab)
  refine wpAny_ite_split (fun _ => ?_) (fun hab => absurd (by decide +kernel) hab)
  have hl2 : l.toNat ≤ 1000 := by omega
  refine wpAny_bind (wpAny_call_entry F.slot_range_iterator_length_hint hT F.entry_range_iterator_length_hint ?_ (F.args_range_iterator_length_hint_1 _))
  obtain ⟨hp, g, d, tk, os⟩ := s
  wp_walk using wpAny_loadPart' hr
  refine ⟨_, rfl, ?_⟩
  refine wpAny_bind (m := asInt? _) (wpAny_pure ?_)
  have htl : Builtin.List.listTooLong l.toNat = false := by
    have := sizeLine_eq
    simp [Builtin.List.listTooLong]
    omega
  exact wpAny_ite_split (fun hab => absurd hab (by rw [htl]; decide)) (fun _ => wpAny_pure (h _))
/-- the iterator's items in a new list -/
theorem rit_extend {R : Result → Shared → Prop} {r : Addr} {a c : Int} {n : Nat} (hh : A.handled = none) (hr : IsRangeIter s.heap r a (n : Int) c) (hlen : n ≤ 1000) (S : Addr) (hSr : S ≠ r) (res : Value) (c0 : Nat) (hS : s.heap.get? S = some { cls := .type "list", data := .seq #[] c0 })
    (hR : ∀ h' tk acc c1, (∀ b o, b ≠ S → b ≠ r → s.heap.get? b = some o → h'.get? b = some o) → h'.get? S = some { cls := .type "list", dict := none, data := .seq acc c1, slots := #[] } → ItemsOf (fun i v => ∃ t, v = .int (a + i * c) t) acc n → R (.ok (.ret res)) { s with heap := h', toks := tk }) :
    wpAny (model prog w) A.in1 (Builtin.List.listExtendWith (.ref S) (.ref r) res)
      (fun fin s' => match fin with | .done f => R (.ok f) s' | .again c' => c'.quiet = true ∧ codeAny (model prog w) A c' R s') (fun e s' => R (.error e) s') s := by
  have hr0 : IsRangeIter s.heap r (a + ((0 : Nat) : Int) * c) ((n : Int) - ((0 : Nat) : Int)) c := by simpa using hr
  have W := (Walks.range (prog := prog) (w := w) (A := A.in1) hh r a c n).toS
  unfold Builtin.List.listExtendWith
  refine wpAny_bind (wpAny_typeOf (T := "range_iterator") ⟨_, hr, rfl⟩ ?_)
  simp only [show Builtin.List.listSameRef (.ref S) (.ref r) = false from by simp [Builtin.List.listSameRef, hSr], show (Value.type "range_iterator" == Value.type "list") = false from by decide, show (Value.type "range_iterator" == Value.type "tuple") = false from by decide, Bool.or_false, Bool.false_eq_true, if_false]
  refine wpAny_bind (wpAny_pyIter_rangeiter hr ?_)
  refine wpAny_bind (wpAny_holding (rit_hint hr rfl hlen fun tk => ?_))
  refine wpAny_ite_split (fun hab => absurd hab (by decide +kernel)) (fun _ => ?_)
  refine wpAny_pure ⟨plainId_quiet F.plain_extend_loop _, codeAny_extend_loopS W (by rw [sizeLine_eq]; omega) S (by simpa using hSr) res n 0 _ #[] c0 rfl (Nat.zero_le _) hr0 hS (ItemsOf.nil _) fun s2 acc c1 hm hS2 hacc => ?_⟩
  rw [Moved.eq_with hm]
  exact hR s2.heap s2.toks acc c1 (fun b o hb hbr e => hm.heap b o (by simp [hb, hbr]) e) hS2 hacc
theorem rit_init {R : Result → Shared → Prop} {r : Addr} {a c : Int} {n : Nat} (hh : A.handled = none) (hr : IsRangeIter s.heap r a (n : Int) c) (hlen : n ≤ 1000) (S : Addr) (hSr : S ≠ r) (hS : s.heap.get? S = some { cls := .type "list", data := .seq #[] })
    (hR : ∀ h' tk acc c1, (∀ b o, b ≠ S → b ≠ r → s.heap.get? b = some o → h'.get? b = some o) → h'.get? S = some { cls := .type "list", dict := none, data := .seq acc c1, slots := #[] } → ItemsOf (fun i v => ∃ t, v = .int (a + i * c) t) acc n → R (.ok (.ret .none)) { s with heap := h', toks := tk }) :
    wpAny (model prog w) A.in1 (Builtin.«list.__init__» ⟨[.ref S, .ref r], []⟩)
      (fun fin s' => match fin with | .done f => R (.ok f) s' | .again c' => c'.quiet = true ∧ codeAny (model prog w) A c' R s') (fun e s' => R (.error e) s') s := by
  show wpAny _ _ (Builtin.List.listItems (.ref S) >>= fun old => Builtin.List.listUpdate (.ref S) (fun _ => #[]) >>= fun _ => letGo old.toList.reverse >>= fun _ => Builtin.List.listExtendWith (.ref S) (.ref r) .none) _ _ s
  refine wpAny_bind ?_
  unfold Builtin.List.listItems
  refine wpAny_bind (wpAny_seqItems hS rfl (wpAny_pure ?_))
  show wpAny _ _ (updateSeq S (fun _ => #[]) >>= fun _ => letGo (#[] : Array Value).toList.reverse >>= fun _ => Builtin.List.listExtendWith (.ref S) (.ref r) .none) _ _ s
  refine wpAny_bind (wpAny_updateSeq hS rfl ?_)
  have hS2 := Heap.get?_update_self (Obj.mapSeq (fun _ => (#[] : Array Value))) hS rfl
  have oth : ∀ b o, b ≠ S → s.heap.get? b = some o → (s.heap.update S (Obj.mapSeq (fun _ => (#[] : Array Value)))).get? b = some o := fun b o hb e => (Heap.get?_update_other _ _ (Ne.symm hb)).trans e
  refine wpAny_bind (wpAny_letGo ?_)
  exact rit_extend hh (oth r _ (Ne.symm hSr) hr) hlen S hSr .none _ hS2 fun h' tk acc c1 hk hS3 hacc => hR h' tk acc c1 (fun b o hb hbr e => hk b o hb hbr (oth b o hb e)) hS3 hacc
theorem call_list_rit {Q : Value → Shared → Prop} {r : Addr} {a c : Int} {n : Nat} (hh : A.handled = none) (hr : IsRangeIter s.heap r a (n : Int) c) (hlen : n ≤ 1000)
    (hQ : ∀ h' tk acc c1, (∀ b o, b ≠ r → s.heap.get? b = some o → h'.get? b = some o) → h'.get? s.heap.objs.size = some { cls := .type "list", dict := none, data := .seq acc c1, slots := #[] } → ItemsOf (fun i v => ∃ t, v = .int (a + i * c) t) acc n → Q (.ref s.heap.objs.size) { s with heap := h', toks := tk }) :
    wpAny (model prog w) A (call (.type "list") [.ref r]) Q E s := by
  refine callType_codes (Q₁ := fun obj s₁ => obj = .ref s.heap.objs.size ∧ s₁ = { s with heap := s.heap.push { cls := .type "list", data := .seq #[] } }) F.called_list (F.typeCall_list_1 _) F.entry_list_init (code_list_new _ ⟨rfl, rfl⟩) fun obj s₁ h₁ => ?_
  obtain ⟨rfl, rfl⟩ := h₁
  have hS : (s.heap.push { cls := .type "list", data := .seq #[] }).get? s.heap.objs.size = some { cls := .type "list", data := .seq #[] } := Heap.get?_push_size _ rfl
  have hlt : r < s.heap.objs.size := Heap.lt_size hr
  refine ⟨⟨_, hS, rfl⟩, F.args_list_init_2 _ _, rit_init (A := A.in1) hh (Heap.get?_push_of_some _ hr) hlen _ (Nat.ne_of_gt hlt) hS (fun h' tk acc c1 hk hS2 hacc => ?_)⟩
  exact ⟨rfl, hQ h' tk acc c1 (fun b o hbr e => hk b o (Nat.ne_of_lt (Heap.lt_size e)) hbr (Heap.get?_push_of_some _ e)) hS2 hacc⟩
end
end PK
namespace PK
open PySem PySem.Spec PyProof.Rows L2 Evl
def dnV (n : Nat) : List V := (List.range n).map fun i : Nat => V.int ((n : Int) - 1 - (i : Int))
def tListRevR (te : L2.St → Hp → (Int → Int → Hp → Prop) → Prop) : TE := fun σ H Q => te σ H fun a b H1 => ∃ n : Nat, a = 0 ∧ b = (n : Int) ∧ n ≤ 1000 ∧ ∀ q, H1 q = none → Q (.ref q) (upd H1 q (.lst (dnV n)))
theorem pe_listRevR {X : Cx} {e : Expr} {te : L2.St → Hp → (Int → Int → Hp → Prop) → Prop} {p1 p2 q1 q2 : Pos} (hL : X.mg "list" = none) (hR : X.mg "reversed" = none) (ha : PRg X e te) (hc : X.calm = true := by rfl) (gL : Gl X "list" := by rfl) (gR : Gl X "reversed" := by rfl)
    (na2 : starEach [e] X.env = (false, eval e X.env) :: starEach [] X.env := by rfl)
    (na3 : starEach [.Call (.Name "reversed" p2) [e] [] q2] X.env = (false, eval (.Call (.Name "reversed" p2) [e] [] q2) X.env) :: starEach [] X.env := by rfl) :
    PE X (.Call (.Name "list" p1) [.Call (.Name "reversed" p2) [e] [] q2] [] q1) (tListRevR te) := by
  refine ⟨fun pins s σ H Q I h => ?_⟩
  refine Call_ (ld_blt I gL hL PyProof.Rows.boot_list (PyProof.Rows.callWith_type1 (args_cons (Call_ (ld_blt I gR hR PyProof.Rows.boot_reversed (PyProof.Rows.callWith_type1 (args_cons (thn (ha pins s σ H _ I h) fun u s1 hx => args_nil ?_) na2) na2 rfl))) na3) na3 rfl))
  · obtain ⟨r, a, b, t, w1, v, H1, eu, hr, I1, n, rfl, rfl, hn, q⟩ := hx
    subst eu
    have en : Builtin.Range.rangeSize 0 (n : Int) 1 = (n : Int) := by rw [rangeSize_nat]; simp
    refine call_reversed_range hr (smallRev_one (by omega) (by omega) (by omega) (by omega)) (args_nil ?_)
    have hit : IsRangeIter (s1.heap.push (rngRevObj 0 (n : Int) 1)) s1.heap.objs.size ((n : Int) - 1) (n : Int) (-1) := by
      have e0 : (n : Int) - 1 = 0 + ((n : Int) - 1) * 1 := by omega
      have z := Heap.get?_push_size s1.heap (o := rngRevObj 0 (n : Int) 1) rfl
      rw [e0]
      show (s1.heap.push (rngRevObj 0 (n : Int) 1)).get? s1.heap.objs.size = some { cls := .type "range_iterator", data := .fields #[rawInt (0 + ((n : Int) - 1) * 1), rawInt (n : Int), rawInt (-1)] }
      rw [z]
      unfold rngRevObj
      rw [en]
    refine call_list_rit (s := { s1 with heap := s1.heap.push (rngRevObj 0 (n : Int) 1) }) (I1.ok.hd hc) hit hn fun h' tk acc c1 hk hD hi => ?_
    have hsz : (s1.heap.push (rngRevObj 0 (n : Int) 1)).objs.size = s1.heap.objs.size + 1 := Heap.size_push ..
    have hv : Vals (dnV n) acc.toList := by
      have e : acc.toList.length = n := by rw [Array.length_toList]; exact hi.1
      unfold dnV
      rw [show List.range n = List.range acc.toList.length from by rw [e]]
      refine vals_of_get acc.toList _ fun j u hj => ?_
      obtain ⟨t, rfl⟩ := hi.2 j u (by rw [← hj, Array.getElem?_toList])
      exact ⟨t, by rw [show (n : Int) - 1 + (j : Int) * (-1) = (n : Int) - 1 - (j : Int) from by omega]⟩
    have kk : ∀ b o, s1.heap.get? b = some o → h'.get? b = some o := fun b o e => hk b o (Nat.ne_of_lt (Heap.lt_size e)) (Heap.get?_push_of_some _ e)
    refine ⟨.ref _, upd H1 _ (.lst (dnV n)), I1.laid (t' := tk) kk (by show s1.heap.objs.size ≤ (s1.heap.push _).objs.size; rw [hsz]; exact Nat.le_succ _) (show ObjOk X.prog X.w _ _ _ (.lst (dnV n)) from ⟨?_, acc.toList, c1, hv, by rw [Array.toArray_toList]; exact hD⟩), rfl, q _ (I1.hok.fresh (by show s1.heap.objs.size ≤ (s1.heap.push _).objs.size; rw [hsz]; exact Nat.le_succ _))⟩
    unfold dnV
    rw [List.length_map, List.length_range, sizeLine_eq]
    omega
end PK

set_option maxHeartbeats 4000000
namespace PK
open PySem PySem.Spec PyProof.Rows L2 Evl
/-! ### a list comprehension of three clauses -/
abbrev lc3N (e t0 i0 t1 i1 t2 i2 : Expr) (f0 f1 f2 : List Expr) (sc : Scope) (p : Pos) : Expr := .ListComp e [⟨t0, i0, f0, 0⟩, ⟨t1, i1, f1, 0⟩, ⟨t2, i2, f2, 0⟩] sc p
section
variable {prog : Program} {w : World} {A : Around} {R : Result → Shared → Prop} {s : Shared} {e t0 i0 t1 i1 t2 i2 : Expr} {f0 f1 f2 : List Expr} {sc : Scope} {p : Pos} {it acc : Value} {env : Env}
theorem turn3_a : compTurn (lc3N e t0 i0 t1 i1 t2 i2 f0 f1 f2 sc p) 0 it acc env = (do
      standAt i0.pos
      match ← pyNext it with
      | none => pure (.done .next)
      | some v =>
        letOwnedTupleGo t0 it v
        assign t0 env v
        let mut ok := true
        for c in f0 do
          if ok then ok ← isTrue c env (eval c env)
        if ok then
          let x ← eval i1 env
          standAt i1.pos
          let x ← foldedSetIterable i1 env x
          let _ ← runOwn (.compStart (lc3N e t0 i0 t1 i1 t2 i2 f0 f1 f2 sc p) 1 (← holding [x] (pyIter x)) acc env) env
        again (.compLoop (lc3N e t0 i0 t1 i1 t2 i2 f0 f1 f2 sc p) 0 it acc env)) := by rfl
theorem turn3_b : compTurn (lc3N e t0 i0 t1 i1 t2 i2 f0 f1 f2 sc p) 1 it acc env = (do
      standAt i1.pos
      match ← pyNext it with
      | none => pure (.done .next)
      | some v =>
        letOwnedTupleGo t1 it v
        assign t1 env v
        let mut ok := true
        for c in f1 do
          if ok then ok ← isTrue c env (eval c env)
        if ok then
          let x ← eval i2 env
          standAt i2.pos
          let x ← foldedSetIterable i2 env x
          let _ ← runOwn (.compStart (lc3N e t0 i0 t1 i1 t2 i2 f0 f1 f2 sc p) 2 (← holding [x] (pyIter x)) acc env) env
        again (.compLoop (lc3N e t0 i0 t1 i1 t2 i2 f0 f1 f2 sc p) 1 it acc env)) := by rfl
theorem turn3_c : compTurn (lc3N e t0 i0 t1 i1 t2 i2 f0 f1 f2 sc p) 2 it acc env = (do
      standAt i2.pos
      match ← pyNext it with
      | none => pure (.done .next)
      | some v =>
        letOwnedTupleGo t2 it v
        assign t2 env v
        let mut ok := true
        for c in f2 do
          if ok then ok ← isTrue c env (eval c env)
        if ok then
          (do let _ ← call (.builtin "list.append") [acc, ← eval e env])
        again (.compLoop (lc3N e t0 i0 t1 i1 t2 i2 f0 f1 f2 sc p) 2 it acc env)) := by rfl
/-- what an outer turn asks: store, tests, the next source, its loop -/
def OutT (prog : Program) (w : World) (A : Around) (R : Result → Shared → Prop) (env : Env) (node tg nx : Expr) (fs : List Expr) (k : Nat) (it acc : Value) (I : Nat → Shared → Prop) (n : Nat) (s : Shared) : Prop :=
  let E : Value → Shared → Prop := notedBy (model prog w) A env fun e s' => R (.error e) s'
  wpAny (model prog w) A (pyNext it) (fun r s1 => match r with
    | none => R (.ok .next) s1
    | some v => wpAny (model prog w) A (letOwnedTupleGo tg it v) (fun _ s2 => wpAny (model prog w) A (assign tg env v) (fun _ s3 =>
        wpAny (model prog w) A (forIn fs true fun c r => if r = true then do let ok ← isTrue c env (eval c env); pure (ForInStep.yield ok) else pure (ForInStep.yield r)) (fun ok s4 =>
          if ok = true then wpAny (model prog w) A (eval nx env) (fun x s5 => wpAny (model prog w) A (pyIter x) (fun it1 s6 =>
            codeAny (model prog w) A (.compStart node k it1 acc env) (fun r s' => match r with
              | .ok _ => ∃ m, m < n ∧ I m s'
              | .error _ => False) s6) E s5) E s4
          else ∃ m, m < n ∧ I m s4) E s3) E s2) E s1) E s
theorem loop3_a (hs : ∀ x, foldedSetIterable i1 env x = pure x) (I : Nat → Shared → Prop) (turn : ∀ n s, I n s → OutT prog w A R env (lc3N e t0 i0 t1 i1 t2 i2 f0 f1 f2 sc p) t0 i1 f0 1 it acc I n s) (n : Nat) (h : I n s) :
    codeAny (model prog w) A (.compLoop (lc3N e t0 i0 t1 i1 t2 i2 f0 f1 f2 sc p) 0 it acc env) R s := by
  refine codeAny_loop rfl I (fun n s hI => ?_) n h
  show wpAny _ A ((compTurn (lc3N e t0 i0 t1 i1 t2 i2 f0 f1 f2 sc p) 0 it acc env).onRaise (fun x => do noteFrame x env; theTreesLotGoes x)) _ _ s
  refine wpAny_noted ?_
  rw [turn3_a]
  refine wpAny_bind (wpAny_standAt (wpAny_bind (wpAny_mono (turn n s hI) (fun r s1 g1 => ?_) fun _ _ z => z)))
  cases r with
  | none => exact wpAny_pure g1
  | some v =>
    refine wpAny_bind (wpAny_mono g1 (fun _ s2 g2 => ?_) fun _ _ z => z)
    refine wpAny_bind (wpAny_mono g2 (fun _ s3 g3 => wpAny_bind (wpAny_mono g3 (fun ok s4 g4 => ?_) fun _ _ z => z)) fun _ _ z => z)
    cases ok with
    | false => exact wpAny_pure ⟨rfl, g4⟩
    | true =>
      refine wpAny_bind (wpAny_mono g4 (fun x s5 g5 => ?_) fun _ _ z => z)
      refine wpAny_bind (wpAny_standAt (wpAny_bind (wpAny_of_eq (hs x) (wpAny_bind (wpAny_holding (wpAny_mono g5 (fun it1 s6 g6 => ?_) fun _ _ z => z))))))
      refine wpAny_bind (wpAny_runOwn ?_)
      rw [Around.mark_none]
      refine codeAny_mono g6 fun r s' hr => ?_
      cases r with
      | ok f => first | exact wpAny_pure ⟨rfl, hr⟩ | exact wpAny_bind (wpAny_pure (wpAny_pure ⟨rfl, hr⟩))
      | error e => exact hr.elim
theorem loop3_b (hs : ∀ x, foldedSetIterable i2 env x = pure x) (I : Nat → Shared → Prop) (turn : ∀ n s, I n s → OutT prog w A R env (lc3N e t0 i0 t1 i1 t2 i2 f0 f1 f2 sc p) t1 i2 f1 2 it acc I n s) (n : Nat) (h : I n s) :
    codeAny (model prog w) A (.compLoop (lc3N e t0 i0 t1 i1 t2 i2 f0 f1 f2 sc p) 1 it acc env) R s := by
  refine codeAny_loop rfl I (fun n s hI => ?_) n h
  show wpAny _ A ((compTurn (lc3N e t0 i0 t1 i1 t2 i2 f0 f1 f2 sc p) 1 it acc env).onRaise (fun x => do noteFrame x env; theTreesLotGoes x)) _ _ s
  refine wpAny_noted ?_
  rw [turn3_b]
  refine wpAny_bind (wpAny_standAt (wpAny_bind (wpAny_mono (turn n s hI) (fun r s1 g1 => ?_) fun _ _ z => z)))
  cases r with
  | none => exact wpAny_pure g1
  | some v =>
    refine wpAny_bind (wpAny_mono g1 (fun _ s2 g2 => ?_) fun _ _ z => z)
    refine wpAny_bind (wpAny_mono g2 (fun _ s3 g3 => wpAny_bind (wpAny_mono g3 (fun ok s4 g4 => ?_) fun _ _ z => z)) fun _ _ z => z)
    cases ok with
    | false => exact wpAny_pure ⟨rfl, g4⟩
    | true =>
      refine wpAny_bind (wpAny_mono g4 (fun x s5 g5 => ?_) fun _ _ z => z)
      refine wpAny_bind (wpAny_standAt (wpAny_bind (wpAny_of_eq (hs x) (wpAny_bind (wpAny_holding (wpAny_mono g5 (fun it1 s6 g6 => ?_) fun _ _ z => z))))))
      refine wpAny_bind (wpAny_runOwn ?_)
      rw [Around.mark_none]
      refine codeAny_mono g6 fun r s' hr => ?_
      cases r with
      | ok f => first | exact wpAny_pure ⟨rfl, hr⟩ | exact wpAny_bind (wpAny_pure (wpAny_pure ⟨rfl, hr⟩))
      | error e => exact hr.elim
/-- what the last loop's turn asks -/
def InT (prog : Program) (w : World) (A : Around) (R : Result → Shared → Prop) (env : Env) (elt tg : Expr) (fs : List Expr) (it acc : Value) (I : Nat → Shared → Prop) (n : Nat) (s : Shared) : Prop :=
  let E : Value → Shared → Prop := notedBy (model prog w) A env fun e s' => R (.error e) s'
  wpAny (model prog w) A (pyNext it) (fun r s1 => match r with
    | none => R (.ok .next) s1
    | some v => wpAny (model prog w) A (letOwnedTupleGo tg it v) (fun _ s2 => wpAny (model prog w) A (assign tg env v) (fun _ s3 =>
        wpAny (model prog w) A (forIn fs true fun c r => if r = true then do let ok ← isTrue c env (eval c env); pure (ForInStep.yield ok) else pure (ForInStep.yield r)) (fun ok s4 =>
          if ok = true then wpAny (model prog w) A (eval elt env) (fun x s5 => wpAny (model prog w) A (call (.builtin "list.append") [acc, x]) (fun _ s6 => ∃ m, m < n ∧ I m s6) E s5) E s4
          else ∃ m, m < n ∧ I m s4) E s3) E s2) E s1) E s
theorem loop3_c (I : Nat → Shared → Prop) (turn : ∀ n s, I n s → InT prog w A R env e t2 f2 it acc I n s) (n : Nat) (h : I n s) :
    codeAny (model prog w) A (.compLoop (lc3N e t0 i0 t1 i1 t2 i2 f0 f1 f2 sc p) 2 it acc env) R s := by
  refine codeAny_loop rfl I (fun n s hI => ?_) n h
  show wpAny _ A ((compTurn (lc3N e t0 i0 t1 i1 t2 i2 f0 f1 f2 sc p) 2 it acc env).onRaise (fun x => do noteFrame x env; theTreesLotGoes x)) _ _ s
  refine wpAny_noted ?_
  rw [turn3_c]
  refine wpAny_bind (wpAny_standAt (wpAny_bind (wpAny_mono (turn n s hI) (fun r s1 g1 => ?_) fun _ _ z => z)))
  cases r with
  | none => exact wpAny_pure g1
  | some v =>
    refine wpAny_bind (wpAny_mono g1 (fun _ s2 g2 => ?_) fun _ _ z => z)
    refine wpAny_bind (wpAny_mono g2 (fun _ s3 g3 => wpAny_bind (wpAny_mono g3 (fun ok s4 g4 => ?_) fun _ _ z => z)) fun _ _ z => z)
    cases ok with
    | false => exact wpAny_pure ⟨rfl, g4⟩
    | true => exact wpAny_bind (wpAny_bind (wpAny_mono g4 (fun x s5 g5 => wpAny_bind (wpAny_mono g5 (fun _ s6 g6 => wpAny_pure (wpAny_pure ⟨rfl, g6⟩)) fun _ _ z => z)) fun _ _ z => z))
/-- a later clause's start -/
theorem start3 {k : Nat} (hk : k = 1 ∨ k = 2) (h0 : codeAny (model prog w) A (.compLoop (lc3N e t0 i0 t1 i1 t2 i2 f0 f1 f2 sc p) k it acc env) R s)
    (h : wpAny (model prog w) A (pyIter it) (fun it' s' => codeAny (model prog w) A (.compLoop (lc3N e t0 i0 t1 i1 t2 i2 f0 f1 f2 sc p) k it' acc env) R s') (notedBy (model prog w) A env fun x s' => R (.error x) s') s) :
    codeAny (model prog w) A (.compStart (lc3N e t0 i0 t1 i1 t2 i2 f0 f1 f2 sc p) k it acc env) R s := by
  rcases hk with rfl | rfl
  all_goals
    refine codeAny_of_tree ?_
    show wpAny _ _ ((compStart (lc3N e t0 i0 t1 i1 t2 i2 f0 f1 f2 sc p) _ it acc env).onRaise (fun x => do noteFrame x env; standAt theWindowsPlace)) _ _ s
    refine wpAny_notedAt ?_
    unfold compStart
    show wpAny _ _ (ask >>= _) _ _ s
    refine wpAny_bind (wpAny_askSetting (wpAny_ite ?_))
    split
    · first
        | exact wpAny_bind (wpAny_pure (wpAny_pure (And.intro rfl h0)))
        | exact wpAny_pure (And.intro rfl h0)
    · first
        | exact wpAny_bind (wpAny_rule (wpAny_bind (wpAny_standAt (wpAny_bind (wpAny_mono h (fun it' s' h' => wpAny_pure (And.intro rfl h')) fun _ _ x => x)))))
        | (refine wpAny_bind (wpAny_rule ?_); show wpAny _ _ (standAt i1.pos >>= _) _ _ s; exact wpAny_bind (wpAny_standAt (wpAny_bind (wpAny_mono h (fun it' s' h' => wpAny_pure (And.intro rfl h')) fun _ _ x => x))))
        | (refine wpAny_bind (wpAny_rule ?_); show wpAny _ _ (standAt i2.pos >>= _) _ _ s; exact wpAny_bind (wpAny_standAt (wpAny_bind (wpAny_mono h (fun it' s' h' => wpAny_pure (And.intro rfl h')) fun _ _ x => x))))
end

/-! ### readings of the clauses -/
abbrev TH := L2.St → Hp → (Hp → Prop) → Prop
def tClause (wi : TI) (g : TG) (tt : TT) (vs : List Nat) (body : TH) : TH := fun σ H Nx => wi σ H fun J H1 => ∃ W : Nat → Nat → Hp → Prop, (∃ m, W 0 m H1) ∧ ∀ i m H, W i m H →
  (J.stop i H ∧ Nx H) ∨ (J.go i H ∧ ∃ N1 : Hp → Prop, (∀ H', N1 H' → ∃ m', m' < m ∧ W (i + 1) m' H') ∧ ∀ x H', J.yld i H x H' → g x (wipe σ vs) H' fun σ2 H2 => wipe σ2 vs = wipe σ vs ∧ tt σ2 H2 fun b H3 =>
    if b = true then body σ2 H3 N1 else N1 H3)
def tLast (te : TE) (D : Addr) : TH := fun σ H Nx => te σ H fun y H1 => ∃ acc, H1 D = some (.lst acc) ∧ acc.length < sizeLine ∧ Nx (upd H1 D (.lst (acc ++ [y])))
def tLc3 (wi : TI) (g : TG) (tt : TT) (vs : List Nat) (body : Addr → TH) : TE := fun σ H Q => wi σ H fun J H1 => ∀ D, H1 D = none → ∃ W : Nat → Nat → Hp → Prop, (∃ m, W 0 m (upd H1 D (.lst []))) ∧ ∀ i m H, W i m H →
  (J.stop i H ∧ Q (.ref D) H) ∨ (J.go i H ∧ ∃ N1 : Hp → Prop, (∀ H', N1 H' → ∃ m', m' < m ∧ W (i + 1) m' H') ∧ ∀ x H', J.yld i H x H' → g x (wipe σ vs) H' fun σ2 H2 => wipe σ2 vs = wipe σ vs ∧ tt σ2 H2 fun b H3 =>
    if b = true then body D σ2 H3 N1 else N1 H3)
/-- the later clauses, run from where the slots are σ: behind them what stood is known but for vs -/
def Runs (B : Cx) (node iter : Expr) (k : Nat) (D : Addr) (vs : List Nat) (t : TH) : Prop := ∀ (pins : List (Addr × Obj)) (s : Shared) (σ : L2.St) (H : Hp) (Nx : Hp → Prop) (E : Value → Shared → Prop), Inv B pins σ H s → t σ H Nx →
  wpAny (model B.prog B.w) B.A (eval iter B.env) (fun x s1 => wpAny (model B.prog B.w) B.A (pyIter x) (fun i1 s2 => codeAny (model B.prog B.w) B.A (.compStart node k i1 (.ref D) B.env) (fun r s3 => match r with
    | .ok _ => ∃ H', Inv B pins (wipe σ vs) H' s3 ∧ Nx H'
    | .error _ => False) s2) E s1) E s
theorem wipe_sub {σ : L2.St} {vs vs' : List Nat} {j : Nat} {v : V} (hv : ∀ i ∈ vs', i ∈ vs) (e : (wipe σ vs)[j]? = some (some v)) : (wipe σ vs')[j]? = some (some v) := by
  obtain ⟨e1, e2⟩ := wipe_some e
  rw [wipe_out fun z => e2 (hv j z)]
  exact e1
section
variable {B : Cx} {e t0 i0 t1 i1 t2 i2 : Expr} {f0 f1 f2 : List Expr} {sc : Scope} {p : Pos} {wi : TI} {g : TG} {tt : TT} {te : TE} {vs vs' : List Nat} {D : Addr} {body : TH}
/-- the last clause -/
theorem runs_c (hc : B.calm = true) (hx : B.xe = fun _ _ => False) (hi : PI B t2 i2 wi) (hg : PG B t2 g) (ht : PTs B f2 tt) (he : PE B e te) : Runs B (lc3N e t0 i0 t1 i1 t2 i2 f0 f1 f2 sc p) i2 2 D vs (tClause wi g tt vs (tLast te D)) := by
  intro pins s σ H Nx E I h
  have hi' := hi.run pins s σ H _ I h
  rw [hx] at hi'
  refine thnF hi' fun xv s1 hx1 => ?_
  refine thnF hx1 fun itv s2 h2 => ?_
  obtain ⟨it, fp, tn, J, H2, e1, I2, T, st2, f2', W, ⟨m0, w0⟩, turn⟩ := h2
  subst e1
  have stat : ∀ {H' : Hp}, (∀ b ∈ fp, H' b = none) → ∀ b ∈ fp, FpOk B pins H' b := fun hn b hb => ⟨hn b hb, (f2' b hb).2⟩
  have loop : codeAny (model B.prog B.w) B.A (.compLoop (lc3N e t0 i0 t1 i1 t2 i2 f0 f1 f2 sc p) 2 (.ref it) (.ref D) B.env) (fun r s3 => match r with
    | .ok _ => ∃ H', Inv B pins (wipe σ vs) H' s3 ∧ Nx H'
    | .error _ => False) s2 := by
    refine loop3_c (fun n s' => ∃ i H', Inv B pins (wipe σ vs) H' s' ∧ tn i s'.heap ∧ (∀ b ∈ fp, H' b = none) ∧ W i n H') ?_ m0 ⟨0, H2, I2.weak (wipe_length _ _) (fun j v e => (wipe_some e).1), st2, fun b hb => (f2' b hb).1, w0⟩
    rintro n s5 ⟨i, H5, I5, st5, n5, w5⟩
    rcases turn i n H5 w5 with ⟨stop, nx⟩ | ⟨go, N1, hN1, step⟩
    · refine thnF (T.done B rfl rfl rfl hc i _ s5 (wipe σ vs) H5 (fun _ _ => False) I5 (stat n5) st5 stop) fun r s6 ⟨hr, I6⟩ => ?_
      subst hr
      exact ⟨H5, I6, nx⟩
    · refine thnF (T.item B rfl rfl rfl hc i _ s5 (wipe σ vs) H5 (fun _ _ => False) I5 (stat n5) st5 go) fun r s6 ⟨u, hr, h6⟩ => ?_
      subst hr
      refine thnF h6 fun _ s7 ⟨x, H7, I7, r7, y7, st7, n7⟩ => ?_
      have I7' := I7.pinned (stat n7) (T.obj _ _ st7)
      have pgr := hg.run _ s7 _ H7 x u _ I7' r7 (step x H7 y7)
      rw [hx] at pgr
      refine thnF pgr fun _ s8 ⟨σ8, H8, I8, hw8, q8⟩ => ?_
      have ptr := ht.run _ s8 σ8 H8 _ I8 q8
      rw [hx] at ptr
      refine thnF ptr fun b s9 ⟨H9, I9, q9⟩ => ?_
      have fin : ∀ {s' : Shared} {H' : Hp}, Inv B (pins ++ pinsAt fp s7.heap) σ8 H' s' → N1 H' → ∃ m, m < n ∧ ∃ j H', Inv B pins (wipe σ vs) H' s' ∧ tn j s'.heap ∧ (∀ b ∈ fp, H' b = none) ∧ W j m H' := fun {s' H'} I' nx => by
        obtain ⟨m', hm, w'⟩ := hN1 H' nx
        have pin' : ∀ b ∈ fp, ∀ o, s7.heap.get? b = some o → s'.heap.get? b = some o ∧ H' b = none := fun b hb o e =>
          let z := I'.pin (b, o) (List.mem_append_right _ (List.mem_append_right _ (mem_pinsAt hb e)))
          ⟨z.1, z.2.1⟩
        refine ⟨m', hm, i + 1, H', I'.unpinned.weak (by rw [← hw8, wipe_length]) (fun j v e => by rw [← hw8] at e; exact (wipe_some e).1), T.keep _ _ _ st7 fun b hb o e => (pin' b hb o e).1, fun b hb => ?_, w'⟩
        obtain ⟨o, e, _⟩ := T.obj _ _ st7 b hb
        exact (pin' b hb o e).2
      cases b with
      | false =>
        simp only [Bool.false_eq_true, if_false] at q9 ⊢
        exact fin I9 q9
      | true =>
        simp only [if_true] at q9 ⊢
        have per := he.run _ s9 σ8 H9 _ I9 q9
        rw [hx] at per
        refine thnF per fun z s10 ⟨yv, H10, I10, r10, acc, hD10, hz10, nx⟩ => ?_
        exact app_ok (X := B) I10 hD10 hz10 r10 fun s11 I11 => fin I11 nx
  exact start3 (.inr rfl) loop (T.self B.A 0 _ _ _ st2 loop)
/-- the middle clause -/
theorem runs_b (hc : B.calm = true) (hx : B.xe = fun _ _ => False) (hi : PI B t1 i1 wi) (hg : PG B t1 g) (ht : PTs B f1 tt) (hs : ∀ x, foldedSetIterable i2 B.env x = pure x) (hv : ∀ i ∈ vs', i ∈ vs)
    (hb : Runs B (lc3N e t0 i0 t1 i1 t2 i2 f0 f1 f2 sc p) i2 2 D vs' body) : Runs B (lc3N e t0 i0 t1 i1 t2 i2 f0 f1 f2 sc p) i1 1 D vs (tClause wi g tt vs body) := by
  intro pins s σ H Nx E I h
  have hi' := hi.run pins s σ H _ I h
  rw [hx] at hi'
  refine thnF hi' fun xv s1 hx1 => ?_
  refine thnF hx1 fun itv s2 h2 => ?_
  obtain ⟨it, fp, tn, J, H2, e1, I2, T, st2, f2', W, ⟨m0, w0⟩, turn⟩ := h2
  subst e1
  have stat : ∀ {H' : Hp}, (∀ b ∈ fp, H' b = none) → ∀ b ∈ fp, FpOk B pins H' b := fun hn b hb => ⟨hn b hb, (f2' b hb).2⟩
  have loop : codeAny (model B.prog B.w) B.A (.compLoop (lc3N e t0 i0 t1 i1 t2 i2 f0 f1 f2 sc p) 1 (.ref it) (.ref D) B.env) (fun r s3 => match r with
    | .ok _ => ∃ H', Inv B pins (wipe σ vs) H' s3 ∧ Nx H'
    | .error _ => False) s2 := by
    refine loop3_b hs (fun n s' => ∃ i H', Inv B pins (wipe σ vs) H' s' ∧ tn i s'.heap ∧ (∀ b ∈ fp, H' b = none) ∧ W i n H') ?_ m0 ⟨0, H2, I2.weak (wipe_length _ _) (fun j v e => (wipe_some e).1), st2, fun b hb => (f2' b hb).1, w0⟩
    rintro n s5 ⟨i, H5, I5, st5, n5, w5⟩
    rcases turn i n H5 w5 with ⟨stop, nx⟩ | ⟨go, N1, hN1, step⟩
    · refine thnF (T.done B rfl rfl rfl hc i _ s5 (wipe σ vs) H5 (fun _ _ => False) I5 (stat n5) st5 stop) fun r s6 ⟨hr, I6⟩ => ?_
      subst hr
      exact ⟨H5, I6, nx⟩
    · refine thnF (T.item B rfl rfl rfl hc i _ s5 (wipe σ vs) H5 (fun _ _ => False) I5 (stat n5) st5 go) fun r s6 ⟨u, hr, h6⟩ => ?_
      subst hr
      refine thnF h6 fun _ s7 ⟨x, H7, I7, r7, y7, st7, n7⟩ => ?_
      have I7' := I7.pinned (stat n7) (T.obj _ _ st7)
      have pgr := hg.run _ s7 _ H7 x u _ I7' r7 (step x H7 y7)
      rw [hx] at pgr
      refine thnF pgr fun _ s8 ⟨σ8, H8, I8, hw8, q8⟩ => ?_
      have ptr := ht.run _ s8 σ8 H8 _ I8 q8
      rw [hx] at ptr
      refine thnF ptr fun b s9 ⟨H9, I9, q9⟩ => ?_
      have fin : ∀ {σ9 : L2.St} {s' : Shared} {H' : Hp}, Inv B (pins ++ pinsAt fp s7.heap) σ9 H' s' → (wipe σ vs).length = σ9.length → (∀ (j : Nat) v, (wipe σ vs)[j]? = some (some v) → σ9[j]? = some (some v)) → N1 H' →
          ∃ m, m < n ∧ ∃ j H', Inv B pins (wipe σ vs) H' s' ∧ tn j s'.heap ∧ (∀ b ∈ fp, H' b = none) ∧ W j m H' := fun {σ9 s' H'} I' hl hk nx => by
        obtain ⟨m', hm, w'⟩ := hN1 H' nx
        have pin' : ∀ b ∈ fp, ∀ o, s7.heap.get? b = some o → s'.heap.get? b = some o ∧ H' b = none := fun b hb o e =>
          let z := I'.pin (b, o) (List.mem_append_right _ (List.mem_append_right _ (mem_pinsAt hb e)))
          ⟨z.1, z.2.1⟩
        refine ⟨m', hm, i + 1, H', I'.unpinned.weak hl hk, T.keep _ _ _ st7 fun b hb o e => (pin' b hb o e).1, fun b hb => ?_, w'⟩
        obtain ⟨o, e, _⟩ := T.obj _ _ st7 b hb
        exact (pin' b hb o e).2
      have hl8 : (wipe σ vs).length = σ8.length := by rw [← hw8, wipe_length]
      have hk8 : ∀ (j : Nat) v, (wipe σ vs)[j]? = some (some v) → σ8[j]? = some (some v) := fun j v e => by rw [← hw8] at e; exact (wipe_some e).1
      have hk9 : ∀ (j : Nat) v, (wipe σ vs)[j]? = some (some v) → (wipe σ8 vs')[j]? = some (some v) := fun j v e => by rw [← hw8] at e; exact wipe_sub hv e
      cases b with
      | false =>
        simp only [Bool.false_eq_true, if_false] at q9 ⊢
        exact fin I9 hl8 hk8 q9
      | true =>
        simp only [if_true] at q9 ⊢
        refine thn (hb _ s9 σ8 H9 _ _ I9 q9) fun x5 s10 k10 => thn k10 fun i5 s11 k11 => codeAny_mono k11 fun r s12 hr => ?_
        cases r with
        | ok f =>
          obtain ⟨H12, I12, nx⟩ := hr
          exact fin I12 (hl8.trans (wipe_length σ8 vs').symm) hk9 nx
        | error er => exact hr.elim
  exact start3 (.inl rfl) loop (T.self B.A 0 _ _ _ st2 loop)
end
section
variable {X : Cx}
theorem pe_lc3 {e t0 i0 t1 i1 t2 i2 : Expr} {f0 f1 f2 : List Expr} {sc : Scope} {p : Pos} {own : List (Str × Nat)} {vs1 vs2 : List Nat} {wi wi1 wi2 : TI} {g g1 g2 : TG} {tt tt1 tt2 : TT} {te : TE} (hc : X.calm = true) (hN : X.N.Nodup) (hi : PI X t0 i0 wi) (ok : BlkOk X.N X.env.scope sc own)
    (hv : ∀ i ∈ vs1, i ∈ own.map (·.2)) (hv2 : ∀ i ∈ vs2, i ∈ vs1)
    (hB : ∀ (s : Shared) (H : Hp) (C : Addr) (cl : List (Str × Addr)) (fp : List Addr), PG (X.blk s H sc (compEnvC sc cl C X.env) fp) t0 g ∧ PTs (X.blk s H sc (compEnvC sc cl C X.env) fp) f0 tt ∧ PI (X.blk s H sc (compEnvC sc cl C X.env) fp) t1 i1 wi1 ∧
      PG (X.blk s H sc (compEnvC sc cl C X.env) fp) t1 g1 ∧ PTs (X.blk s H sc (compEnvC sc cl C X.env) fp) f1 tt1 ∧ PI (X.blk s H sc (compEnvC sc cl C X.env) fp) t2 i2 wi2 ∧ PG (X.blk s H sc (compEnvC sc cl C X.env) fp) t2 g2 ∧ PTs (X.blk s H sc (compEnvC sc cl C X.env) fp) f2 tt2 ∧ PE (X.blk s H sc (compEnvC sc cl C X.env) fp) e te)
    (hs : ∀ x, foldedSetIterable i0 X.env x = pure x := by intro _; rfl) (hs1 : ∀ env x, foldedSetIterable i1 env x = pure x := by intro _ _; rfl) (hs2 : ∀ env x, foldedSetIterable i2 env x = pure x := by intro _ _; rfl) :
    PE X (lc3N e t0 i0 t1 i1 t2 i2 f0 f1 f2 sc p) (tLc3 wi g tt (own.map (·.2)) fun D => tClause wi1 g1 tt1 vs1 (tClause wi2 g2 tt2 vs2 (tLast te D))) := by
  refine ⟨fun pins s σ H Q I h => ?_⟩
  rw [eval_ListComp]
  have hfree : ∀ y ∈ sc.names, y.2 = .free → ∃ c, X.env.cells.lookup y.1 = some c := fun y hy e => by
    rcases ok.free y hy e with k | k
    · exact I.ok.has _ (.inl k)
    · exact I.ok.has _ (.inr k)
  refine wpAny_comprehension_free (use := none) rfl hs (closure_ok hfree) ok.kind (fun y hy e => by rw [ok.uniq y hy, e]) (thn (hi.run pins s σ H _ I h) fun xv s1 hx => thn hx fun itv s2 h2 => ?_)
  obtain ⟨it, fp, tn, J, H2, e1, I2, T, st2, f2', q⟩ := h2
  subst e1
  refine wpAny_newObj_type (newEnv_comp ?_) (by show 0 ≤ sizeLine; decide)
  generalize hD : s2.heap.objs.size = D
  have hDn : H2 D = none := I2.hok.fresh (Nat.le_of_eq hD)
  obtain ⟨W, ⟨m0, w0⟩, turn⟩ := q D hDn
  generalize hs3 : ({ s2 with heap := s2.heap.push { cls := .type "list", data := .seq ([] : List Value).toArray } } : Shared) = s3
  have I3 : Inv X pins σ (upd H2 D (.lst [])) s3 := by
    rw [← hs3]
    refine I2.laid (t' := s2.toks) (fun b o e => Heap.get?_push_of_some _ e) (Nat.le_of_eq hD) ⟨Nat.zero_le _, [], 0, .nil, ?_⟩
    rw [← hD]
    exact Heap.get?_push_size _ rfl
  have h3 : s3.heap = s2.heap.push { cls := .type "list", data := .seq ([] : List Value).toArray } := by rw [← hs3]
  have sz : ∀ b ∈ fp, b < s2.heap.objs.size := fun b hb => by
    obtain ⟨o, e, _⟩ := T.obj _ _ st2 b hb
    exact Heap.lt_size e
  have f3 : ∀ b ∈ fp, FpOk X pins (upd H2 D (.lst [])) b ∧ b < s3.heap.objs.size := fun b hb => by
    refine ⟨⟨?_, (f2' b hb).2⟩, by rw [h3, Heap.size_push]; exact Nat.lt_succ_of_lt (sz b hb)⟩
    rw [upd_ne (by rw [← hD]; exact Nat.ne_of_lt (sz b hb))]
    exact (f2' b hb).1
  have st3 : tn 0 s3.heap := T.keep _ _ _ st2 fun b _ o e => by rw [h3]; exact Heap.get?_push_of_some _ e
  have I4 := block_start I3 ok hN f3
  have hBB := hB s3 (upd H2 D (.lst [])) s3.heap.objs.size (cellsFrom (s3.heap.objs.size + 1) sc.names (cloFrom X.env.cells sc.names [])) fp
  show codeAny _ _ (.compStart (lc3N e t0 i0 t1 i1 t2 i2 f0 f1 f2 sc p) 0 (.ref it) (.ref D) (compEnvC sc (cellsFrom (s3.heap.objs.size + 1) sc.names (cloFrom X.env.cells sc.names [])) s3.heap.objs.size X.env)) (compPost (model X.prog X.w) X.A X.xe none _ (.ref D) s3.heap.objs.size) { s3 with heap := pushCells (s3.heap.push { cls := .type "dict", data := .dict #[] }) sc.names }
  have nfp : ∀ b ∈ fp, (upd H2 D (.lst [])) b = none := fun b hb => (f3 b hb).1.1
  generalize hce : compEnvC sc (cellsFrom (s3.heap.objs.size + 1) sc.names (cloFrom X.env.cells sc.names [])) s3.heap.objs.size X.env = ce at I4 hBB ⊢
  have cL : ce.locals = s3.heap.objs.size := by subst hce; rfl
  generalize hH3 : upd H2 D (.lst []) = H3 at I3 I4 hBB w0 nfp f3
  generalize hs4 : ({ s3 with heap := pushCells (s3.heap.push { cls := .type "dict", data := .dict #[] }) sc.names } : Shared) = s4 at I4 ⊢
  obtain ⟨pg, pt, pi1, pg1, pt1, pi2, pg2, pt2, pe⟩ := hBB
  have st4 : tn 0 s4.heap := T.keep _ _ _ st3 fun b _ o e => by rw [← hs4]; exact pushCells_keeps _ _ _ _ (Heap.get?_push_of_some _ e)
  have stat : ∀ {σ' : L2.St} {H' : Hp} {s' : Shared}, Inv (X.blk s3 H3 sc ce fp) [] σ' H' s' → (∀ b ∈ fp, H' b = none) → ∀ b ∈ fp, FpOk (X.blk s3 H3 sc ce fp) [] H' b := fun {σ' H' s'} I' hn b hb =>
    ⟨hn b hb, (I'.ok.exf b hb).1, I'.ok.exfs b hb, .inl hb, fun x c e => (I'.ok.exf b hb).2 x c e, fun p hp => absurd (show p ∈ ([] : List (Addr × Obj)) ++ [] from hp) (by simp)⟩
  have inner := runs_b (B := X.blk s3 H3 sc ce fp) (e := e) (t0 := t0) (i0 := i0) (f0 := f0) (sc := sc) (p := p) (D := D) hc rfl pi1 pg1 pt1 (hs2 ce) hv2 (runs_c (vs := vs2) hc rfl pi2 pg2 pt2 pe)
  have loop : codeAny (model X.prog X.w) X.A (.compLoop (lc3N e t0 i0 t1 i1 t2 i2 f0 f1 f2 sc p) 0 (.ref it) (.ref D) ce) (compPost (model X.prog X.w) X.A X.xe none (EP X pins σ Q) (.ref D) s3.heap.objs.size) s4 := by
    refine loop3_a (hs1 ce) (fun n s' => ∃ i H', Inv (X.blk s3 H3 sc ce fp) [] (wipe σ (own.map (·.2))) H' s' ∧ tn i s'.heap ∧ (∀ b ∈ fp, H' b = none) ∧ W i n H') ?_ m0 ⟨0, H3, I4, st4, nfp, w0⟩
    rintro n s5 ⟨i, H5, I5, st5, n5, w5⟩
    rcases turn i n H5 w5 with ⟨stop, qq⟩ | ⟨go, N1, hN1, step⟩
    · refine thnF (T.done (X.blk s3 H3 sc ce fp) rfl rfl rfl hc i [] s5 _ H5 (fun _ _ => False) I5 (stat I5 n5) st5 stop) fun r s6 ⟨hr, I6⟩ => ?_
      subst hr
      have I7 : Inv X pins σ H5 s6 := I3.call' (ch := fp) I6.os I6.base I6.hok I6.bare fun b hb => ⟨(f3 b hb).1.2.2.2.1, (f3 b hb).1.2.1, (f3 b hb).1.2.2.2.2.1, (f3 b hb).1.2.2.2.2.2⟩
      have nC : H5 s3.heap.objs.size = none := by
        have z : H5 ce.locals = none := I6.free
        rw [cL] at z
        exact z
      obtain ⟨m, hn, _⟩ := I6.loc
      have hn : s6.heap.Ns ce.locals m := hn
      rw [cL] at hn
      refine ⟨m, hn, fun h7 sb => ?_⟩
      obtain ⟨k0, k1, k2, k3, k4, k5⟩ := I3.fpOk (Nat.le_refl _) nC
      exact ⟨.ref D, H5, I7.turned (t' := s6.toks) (fun b o hb e => (sb.2 b hb).trans e) k0 k1 k3 k4 k5, rfl, qq⟩
    · refine thnF (T.item (X.blk s3 H3 sc ce fp) rfl rfl rfl hc i [] s5 _ H5 (fun _ _ => False) I5 (stat I5 n5) st5 go) fun r s6 ⟨u, hr, h6⟩ => ?_
      subst hr
      refine thnF h6 fun _ s7 ⟨x, H7, I7, r7, y7, st7, n7⟩ => ?_
      have I7' := I7.pinned (stat I7 n7) (T.obj _ _ st7)
      refine thnF (pg.run _ s7 _ H7 x u _ I7' r7 (step x H7 y7)) fun _ s8 ⟨σ8, H8, I8, hw8, q8⟩ => ?_
      refine thnF (pt.run _ s8 σ8 H8 _ I8 q8) fun b s9 ⟨H9, I9, q9⟩ => ?_
      have fin : ∀ {σ9 : L2.St} {s' : Shared} {H' : Hp}, Inv (X.blk s3 H3 sc ce fp) ([] ++ pinsAt fp s7.heap) σ9 H' s' → (wipe σ (own.map (·.2))).length = σ9.length → (∀ (j : Nat) v, (wipe σ (own.map (·.2)))[j]? = some (some v) → σ9[j]? = some (some v)) → N1 H' →
          ∃ m, m < n ∧ ∃ i H', Inv (X.blk s3 H3 sc ce fp) [] (wipe σ (own.map (·.2))) H' s' ∧ tn i s'.heap ∧ (∀ b ∈ fp, H' b = none) ∧ W i m H' := fun {σ9 s' H'} I' hl hk nx => by
        obtain ⟨m', hm, w'⟩ := hN1 H' nx
        have pin' : ∀ b ∈ fp, ∀ o, s7.heap.get? b = some o → s'.heap.get? b = some o ∧ H' b = none := fun b hb o e =>
          let z := I'.pin (b, o) (List.mem_append_right _ (List.mem_append_right _ (mem_pinsAt hb e)))
          ⟨z.1, z.2.1⟩
        refine ⟨m', hm, i + 1, H', (I'.unpinned (pins := [])).weak hl hk, T.keep _ _ _ st7 fun b hb o e => (pin' b hb o e).1, fun b hb => ?_, w'⟩
        obtain ⟨o, e, _⟩ := T.obj _ _ st7 b hb
        exact (pin' b hb o e).2
      have hl8 : (wipe σ (own.map (·.2))).length = σ8.length := by rw [← hw8, wipe_length]
      have hk8 : ∀ (j : Nat) v, (wipe σ (own.map (·.2)))[j]? = some (some v) → σ8[j]? = some (some v) := fun j v e => by rw [← hw8] at e; exact (wipe_some e).1
      have hk9 : ∀ (j : Nat) v, (wipe σ (own.map (·.2)))[j]? = some (some v) → (wipe σ8 vs1)[j]? = some (some v) := fun j v e => by rw [← hw8] at e; exact wipe_sub hv e
      cases b with
      | false =>
        simp only [Bool.false_eq_true, if_false] at q9 ⊢
        exact fin I9 hl8 hk8 q9
      | true =>
        simp only [if_true] at q9 ⊢
        refine thn (inner _ s9 σ8 H9 _ _ I9 q9) fun x5 s10 k10 => thn k10 fun i5 s11 k11 => codeAny_mono k11 fun r s12 hr => ?_
        cases r with
        | ok f =>
          obtain ⟨H12, I12, nx⟩ := hr
          exact fin I12 (hl8.trans (wipe_length σ8 vs1).symm) hk9 nx
        | error er => exact hr.elim
  exact codeAny_compStart_list loop (T.self X.A 0 _ _ _ st4 loop)
end
end PK

set_option maxHeartbeats 4000000
namespace PK
open PySem PySem.Spec PyProof.Rows L2 Evl SrtO SrtR
/-! ### sorted(a dict of ints, reverse=True) -/
def rSortDR : List V → List V → Hp → VK → Prop := fun vs zs H Q => ∃ (a : Addr) (kvs : List (Key × V)) (ks : List Int), vs = [V.ref a] ∧ zs = [.bl true] ∧ Rd H a (.dK kvs) ∧ kvs.map (·.1) = ks.map Sum.inl ∧ ks.length ≤ 1000 ∧
  ∀ (ys : List Int) (p : Addr), ys.Perm ks → H p = none → Q (.ref p) (upd H p (.lst (ys.map V.int)))
theorem cr_sortDR {X : Cx} (hcalm : X.calm = true) : CallRK X (.builtin "sorted") [Str.ofString "reverse"] rSortDR := by
  intro pins s σ H xs zs us ws Q I r rz q
  obtain ⟨a, kvs, ks, rfl, rfl, hd, hks, h1000, q⟩ := q
  obtain rfl := Vals.ref1 r
  obtain ⟨w1, rfl, e1⟩ := vals1 rz
  obtain rfl : w1 = Value.bool true := e1
  obtain ⟨z, lo, vs, rel, dd⟩ := dk_rd I.hok hd
  obtain ⟨ep, hat⟩ := dd.dictAt
  have hkeys : vs.map (·.1) = ks.map Sum.inl := rel.keys.symm.trans hks
  have hl : vs.length = ks.length := by simpa using congrArg List.length hkeys
  have hsl := sizeLine_eq
  have h16 : vs.length ≤ sizeLine := by omega
  refine PyProof.Rows.call_function_entry_kw PyProof.Rows.kind_sorted PyProof.Rows.plain_sorted PyProof.Rows.entry_sorted (PyProof.Rows.args_sorted_rev _ _) ?_
  unfold Builtin.«sorted»
  refine wpAny_bind (m := checkCount "sorted" 1 1 _) (wpAny_pure ?_)
  refine wpAny_bind (PySem.W.kdu_collect (A := X.A.in1) (PySem.W.kdl_dict (knd := mixKind X.prog X.w) (kvs := vs) (ep := ep) lo) (I.ok.hd hcalm) hat h16 fun h' tk acc hk hacc => ?_)
  have hal : acc.toList.length = ks.length := by rw [Array.length_toList, hacc.1, hl]
  have hS : IntsAre acc.toList ks := ints_each hal fun j v e => by
    obtain ⟨k, x, e1, e2⟩ := hacc.2 j v (by rw [← Array.getElem?_toList]; exact e)
    have e3 : (vs.map (·.1))[j]? = some k := by rw [List.getElem?_map, e1]; rfl
    rw [hkeys, List.getElem?_map] at e3
    cases e4 : ks[j]? with
    | none => rw [e4] at e3; cases e3
    | some y =>
      rw [e4] at e3
      obtain rfl : Sum.inl y = k := Option.some.inj e3
      rcases keyIs_shape (show keyIs (Sum.inl y) v = true from e2) with ⟨i, t, ek, ev⟩ | ⟨z, t, ek, ev⟩
      · cases ek
        exact ⟨y, t, rfl, ev⟩
      · cases ek
  have I1 : Inv X pins σ H { s with heap := h', toks := tk } := I.kept hk
  refine wpAny_bind (wpAny_newList ?_ (by omega))
  have hoL : (h'.push (seqObj "list" acc.toList.toArray 0)).get? h'.objs.size = some (seqObj "list" acc.toList.toArray 0) := Heap.get?_push_size _ rfl
  show wpAny _ _ _ _ _ { s with heap := h'.push (seqObj "list" acc.toList.toArray 0), toks := tk }
  refine wpAny_bind (wpAny_holding (PyProof.Rows.wpAny_call_entry_kw slot_list_sort ⟨_, hoL, rfl⟩ entry_list_sort ?_ (PyProof.Rows.args_list_sort_rev _ _)))
  refine list_sort_ordR (s := { s with heap := h'.push (seqObj "list" acc.toList.toArray 0), toks := tk }) (b := true) SrtO.swo_int hoL (by omega) (fun h2 => SrtO.ints_sortable hS h2) fun out hs hb => ⟨_, rfl, ?_⟩
  obtain ⟨ns', k1, k2, _⟩ := SrtR.ints_outR (b := true) hS hs hb
  obtain ⟨e', he'⟩ := PyProof.Rows.sortedHeap_at (vs := acc.toList) (out := if true = true then out.toArray.reverse else out.toArray) hoL
  have hlen : (ns'.map V.int).length ≤ sizeLine := by
    rw [List.length_map, k2.length_eq]
    omega
  refine wpAny_pure ⟨_, rfl, .ref h'.objs.size, upd H h'.objs.size (.lst (ns'.map V.int)), I1.laid (t' := tk) (fun b u e => ?_) (Nat.le_refl _)
    (show ObjOk X.prog X.w _ _ _ (.lst (ns'.map V.int)) from ⟨hlen, _, e', vals_of_ints k1, by rw [Array.toArray_toList]; exact he'⟩), rfl, q ns' _ k2 (I1.hok.fresh (Nat.le_refl _))⟩
  have hb : b < h'.objs.size := Heap.lt_size e
  rw [PyProof.Rows.sortedHeap_old (Nat.ne_of_lt hb) (by rw [size_push']; exact Nat.lt_succ_of_lt hb)]
  exact Heap.get?_push_of_some _ e
end PK

set_option maxHeartbeats 4000000
namespace PK
open PySem PySem.Spec PyProof.Rows L2 Evl
/-! ### what the walks ask of the top -/
structure Top (K : PySem.W.Frag) (mg : Str → Option Value) (CF CP CA : Addr) : Prop where
  d_check_width : DefAt K mg "check_width" s_check_width ["width"]
  d_check_bits : DefAt K mg "check_bits" s_check_bits ["bits"]
  d_check_code : DefAt K mg "check_code" s_check_code ["code"]
  d_context : DefAt K mg "context" s_context ["width", "bits", "place"]
  d_shares : DefAt K mg "shares" s_shares ["width", "bits", "place"]
  d_interval : DefAt K mg "interval" s_interval ["width", "bits"]
  d_check_count : DefAt K mg "check_count" s_check_count ["count"]
  d_digits_value : DefAt K mg "digits_value" s_digits_value ["digits"]
  d_digits_text : DefAt K mg "digits_text" s_digits_text ["number", "many"]
  d_code : DefAt K mg "_code" s_code ["width", "bits"]
  d_encode : DefAt K mg "encode" s_encode ["width", "bits"]
  d_opens : DefAt K mg "opens" s_opens ["width", "code", "bits"]
  d_last_with_zero : DefAt K mg "last_with_zero" s_last_with_zero ["bits", "more"]
  d_first_with_one : DefAt K mg "first_with_one" s_first_with_one ["bits", "more"]
  d_next_bit : DefAt K mg "_next_bit" s_next_bit ["width", "count", "code", "bits"]
  d_find_prefix : DefAt K mg "find_prefix" s_find_prefix ["width", "count", "code"]
  d_known_prefix : DefAt K mg "known_prefix" s_known_prefix ["width", "count", "code"]
  d_known : DefAt K mg "known" s_known ["width", "count", "code"]
  d_check_shape : DefAt K mg "check_shape" s_check_shape ["width", "height", "depth", "channels"]
  d_check_size : DefAt K mg "check_size" s_check_size ["width", "height", "channels"]
  d_tile_corner : DefAt K mg "tile_corner" s_tile_corner ["frame", "tile"]
  d_tile_size : DefAt K mg "tile_size" s_tile_size ["frame", "tile"]
  d_tile_pixels : DefAt K mg "tile_pixels" s_tile_pixels ["frame", "tile"]
  d_all_keys : DefAt K mg "all_keys" s_all_keys ["frame"]
  d_check_key : DefAt K mg "check_key" s_check_key ["frame", "key"]
  d_known_text : DefAt K mg "known_text" s_known_text ["arrived", "key"]
  d_many_low : DefAt K mg "_many_low" s_many_low ["width", "code", "bits", "more"]
  d_many_high : DefAt K mg "_many_high" s_many_high ["width", "code", "bits", "more"]
  d_count_possible : DefAt K mg "count_possible" s_count_possible ["width", "count", "code"]
  d_first_possible : DefAt K mg "first_possible" s_first_possible ["width", "count", "code"]
  d_binary_value : DefAt K mg "binary_value" s_binary_value ["bits"]
  d_binary : DefAt K mg "binary" s_binary ["value", "count"]
  d_rank_among : DefAt K mg "rank_among" s_rank_among ["width", "code", "bits"]
  d_possible_at : DefAt K mg "possible_at" s_possible_at ["width", "count", "code", "number"]
  d_are_values : DefAt K mg "_are_values" s_are_values ["pixels", "depth", "channels", "values"]
  d_fits_frame : DefAt K mg "fits_frame" s_fits_frame ["frame", "picture"]
  d_gray_bit : DefAt K mg "gray_bit" s_gray_bit ["value", "plane"]
  d_value_of : DefAt K mg "value_of" s_value_of ["grays"]
  d_stored_bit : DefAt K mg "stored_bit" s_stored_bit ["picture", "channel", "pixel", "plane"]
  d_packet_bits : DefAt K mg "packet_bits" s_packet_bits ["frame", "picture", "key"]
  d_stored : DefAt K mg "_stored" s_stored ["frame", "packets"]
  d_values : DefAt K mg "_values" s_values ["frame", "table", "channel"]
  d_picture_of : DefAt K mg "picture_of" s_picture_of ["frame", "packets"]
  d_packet_code : DefAt K mg "packet_code" s_packet_code ["frame", "picture", "key"]
  d_choices : DefAt K mg "_choices" s_choices ["arrived", "key"]
  d_count_pictures : DefAt K mg "count_pictures" s_count_pictures ["arrived"]
  d_agrees : DefAt K mg "agrees" s_agrees ["arrived", "picture"]
  d_number_of : DefAt K mg "number_of" s_number_of ["arrived", "picture"]
  d_picture_at : DefAt K mg "picture_at" s_picture_at ["arrived", "number"]
  d_is_rectangle : DefAt K mg "_is_rectangle" s_is_rectangle ["left", "top", "width", "height"]
  d_check_regions : DefAt K mg "check_regions" s_check_regions ["regions"]
  d_touches : DefAt K mg "touches" s_touches ["frame", "rectangle", "tile"]
  d_boost : DefAt K mg "boost" s_boost ["frame", "regions", "tile"]
  d_plan : DefAt K mg "plan" s_plan ["frame", "regions"]
  d_is_open : DefAt K mg "is_open" s_is_open ["arrived", "key"]
  d_request : DefAt K mg "request" s_request ["arrived", "regions"]
  d_check_requests : DefAt K mg "check_requests" s_check_requests ["frame", "requests"]
  d_check_asked : DefAt K mg "check_asked" s_check_asked ["frame", "picture", "requests"]
  d_bits_needed : DefAt K mg "bits_needed" s_bits_needed ["number"]
  d_remainder_length : DefAt K mg "remainder_length" s_remainder_length ["arrived"]
  d_concluded : DefAt K mg "_concluded" s_concluded ["frame", "picture", "requests"]
  d_remainder : DefAt K mg "remainder" s_remainder ["frame", "picture", "requests"]
  d_finish : DefAt K mg "finish" s_finish ["arrived", "digits"]
  d_l_cell : DefAt K mg "_law_cell" s_l_cell ["_law_script", "_law_k"]
  d_l_mixed : DefAt K mg "_law_mixed" s_l_mixed ["_law_number", "_law_k", "_law_limit"]
  d_l_numbers : DefAt K mg "_law_numbers" s_l_numbers ["_law_cell_here", "_law_count", "_law_limit"]
  d_l_tiny : DefAt K mg "_law_tiny" s_l_tiny ["_law_cell_here"]
  d_l_values : DefAt K mg "_law_values" s_l_values ["_law_cell_here", "_law_sizes"]
  d_l_tiles : DefAt K mg "_law_tiles" s_l_tiles ["_law_sizes"]
  d_l_order : DefAt K mg "_law_order" s_l_order ["_law_sizes", "_law_tiles_here"]
  d_l_regions : DefAt K mg "_law_regions" s_l_regions ["_law_cell_here", "_law_sizes"]
  d_l_picture : DefAt K mg "_law_picture" s_l_picture ["_law_sizes", "_law_values_here"]
  d_l_frame : DefAt K mg "_law_frame" s_l_frame ["_law_sizes"]
  d_l_cut : DefAt K mg "_law_cut" s_l_cut ["_law_frame_here", "_law_picture_here", "_law_keys", "_law_picks"]
  d_l_refused : DefAt K mg "_law_refused" s_l_refused ["_law_frame_here", "_law_picture_here", "_law_entries"]
  d_law : DefAt K mg "law" s_law ["_law_script"]
  c_BITS_MOST : ∃ t, mg "BITS_MOST" = some (.int 256 t)
  c_WIDTH_MOST : ∃ t, mg "WIDTH_MOST" = some (.int 16 t)
  c_CODE_MOST : ∃ t, mg "CODE_MOST" = some (.int 400 t)
  c_SIDE_MOST : ∃ t, mg "SIDE_MOST" = some (.int 64 t)
  c_VALUES_MOST : ∃ t, mg "VALUES_MOST" = some (.int 3072 t)
  c_DEPTH_MOST : ∃ t, mg "DEPTH_MOST" = some (.int 8 t)
  c_TILE_MOST : ∃ t, mg "TILE_MOST" = some (.int 16 t)
  c_START_MOST : ∃ t, mg "START_MOST" = some (.int 65535 t)
  c_DIGITS_MOST : ∃ t, mg "DIGITS_MOST" = some (.int 65535 t)
  c_REGIONS_MOST : ∃ t, mg "REGIONS_MOST" = some (.int 16 t)
  c_BOOST_MOST : ∃ t, mg "BOOST_MOST" = some (.int 16 t)
  n_range : mg "range" = none
  n_reversed : mg "reversed" = none
  n_len : mg "len" = none
  n_min : mg "min" = none
  n_max : mg "max" = none
  n_list : mg "list" = none
  n_divmod : mg "divmod" = none
  n_sorted : mg "sorted" = none
  n_zip : mg "zip" = none
  n_enumerate : mg "enumerate" = none
  n_abs : mg "abs" = none
  n_int : mg "int" = none
  n_isinstance : mg "isinstance" = none
  n_str : mg "str" = none
  clF : Cls K CF
  gF : mg "Frame" = some (.ref CF)
  aF_width : NoAttr K CF "width"
  aF_height : NoAttr K CF "height"
  aF_depth : NoAttr K CF "depth"
  aF_channels : NoAttr K CF "channels"
  aF_tile : NoAttr K CF "tile"
  iF : InitAt K CF "Frame.__init__" s_Frame_init ["self", "width", "height", "depth", "channels", "tile"]
  m_Frame_across : MethAt K CF "across" "Frame.across" s_Frame_across ["self"]
  m_Frame_down : MethAt K CF "down" "Frame.down" s_Frame_down ["self"]
  m_Frame_tiles : MethAt K CF "tiles" "Frame.tiles" s_Frame_tiles ["self"]
  m_Frame_pixels : MethAt K CF "pixels" "Frame.pixels" s_Frame_pixels ["self"]
  clP : Cls K CP
  gP : mg "Picture" = some (.ref CP)
  aP_width : NoAttr K CP "width"
  aP_height : NoAttr K CP "height"
  aP_depth : NoAttr K CP "depth"
  aP_channels : NoAttr K CP "channels"
  aP_rows : NoAttr K CP "_rows"
  iP : InitAt K CP "Picture.__init__" s_Picture_init ["self", "width", "height", "depth", "channels", "values"]
  m_Picture_value : MethAt K CP "value" "Picture.value" s_Picture_value ["self", "channel", "pixel"]
  m_Picture_rows : MethAt K CP "rows" "Picture.rows" s_Picture_rows ["self"]
  m_Picture_same : MethAt K CP "same" "Picture.same" s_Picture_same ["self", "other"]
  clA : Cls K CA
  gA : mg "Arrived" = some (.ref CA)
  aA_frame : NoAttr K CA "frame"
  aA_texts : NoAttr K CA "_texts"
  iA : InitAt K CA "Arrived.__init__" s_Arrived_init ["self", "frame"]
  m_Arrived_digits : MethAt K CA "digits" "Arrived.digits" s_Arrived_digits ["self", "key"]
  m_Arrived_accept : MethAt K CA "accept" "Arrived.accept" s_Arrived_accept ["self", "key", "start", "bits"]
  m_Arrived_packets : MethAt K CA "packets" "Arrived.packets" s_Arrived_packets ["self"]
end PK

set_option maxHeartbeats 4000000
namespace PK
/-! ### the coder, as plain functions of bits -/
def ctxM (w n : Nat) (l : List Bool) : Nat :=
  (if (decide (0 < n % w) && l.getD (n - 1) false) = true then 1 else 0) +
  (if n < w then 0 else (if (decide (0 < n % w) && l.getD (n - w - 1) false) = true then 2 else 0) + (if l.getD (n - w) false = true then 4 else 0) + (if (decide (n % w + 1 < w) && l.getD (n - w + 1) false) = true then 8 else 0))
def shStep (w n : Nat) (l : List Bool) (z : Nat × Nat) (e : Nat) : Nat × Nat := if ctxM w e l = ctxM w n l then (if l.getD e false = true then (z.1, z.2 + 1) else (z.1 + 1, z.2)) else z
def shM (w n : Nat) (l : List Bool) : Nat → Nat × Nat
  | 0 => (1, 1)
  | i + 1 => shStep w n l (shM w n l i) i
structure Iv where
  low : Int
  size : Int
  whole : Int
  zs : List Int
  os : List Int
def ivStep (w : Nat) (l : List Bool) (s : Iv) (i : Nat) : Iv :=
  let h := ctxM w i l
  let z := s.zs.getD h 0
  let o := s.os.getD h 0
  if l.getD i false = true then ⟨s.low * (z + o) + s.size * z, s.size * o, s.whole * (z + o), s.zs, s.os.set h (o + 1)⟩
  else ⟨s.low * (z + o), s.size * z, s.whole * (z + o), s.zs.set h (z + 1), s.os⟩
def ivM (w : Nat) (l : List Bool) : Nat → Iv
  | 0 => ⟨0, 1, 1, List.replicate 16 1, List.replicate 16 1⟩
  | i + 1 => ivStep w l (ivM w l i) i
def iv (w : Nat) (l : List Bool) : Iv := ivM w l l.length
def valM (l : List Bool) : Nat := l.foldl (fun n b => 2 * n + (if b = true then 1 else 0)) 0
def digT (m k : Nat) : List Bool := (List.range k).map fun i => decide ((m / 2 ^ (k - 1 - i)) % 2 = 1)
def firstM (s : Iv) (k : Nat) : Int := -((-s.low * 2 ^ k).fdiv s.whole)
def condM (s : Iv) (k : Nat) : Bool := decide ((firstM s k + 1) * s.whole ≤ (s.low + s.size) * 2 ^ k)
def bitLen (n : Nat) : Nat := if n = 0 then 0 else n.log2 + 1
def startM (s : Iv) : Nat := bitLen (s.whole.fdiv s.size).toNat - 1
def kSearch (s : Iv) : Nat → Nat → Nat
  | 0, k => k
  | f + 1, k => if condM s k = true then k else kSearch s f (k + 1)
def kM (s : Iv) : Nat := kSearch s 12 (startM s)
def codeM (w : Nat) (l : List Bool) : List Bool := digT (firstM (iv w l) (kM (iv w l))).toNat (kM (iv w l))
def opensM (w : Nat) (c l : List Bool) : Bool := c.isPrefixOf (codeM w l)
def lowB (p : List Bool) (j : Nat) : List Bool := p ++ false :: List.replicate j true
def highB (p : List Bool) (j : Nat) : List Bool := p ++ true :: List.replicate j false
/-- 0, 1: the next bit; 2: both; 3: none -/
def nbM (w m : Nat) (c p : List Bool) : Nat :=
  let s := iv w p
  let z : Int := ((shM w p.length p p.length).1 : Int)
  let o : Int := ((shM w p.length p p.length).2 : Int)
  let border := s.low * (z + o) + s.size * z
  let whole := s.whole * (z + o)
  if ((valM c : Int) + 1) * whole ≤ border * 2 ^ c.length then 0
  else if border * 2 ^ c.length ≤ (valM c : Int) * whole then 1
  else
    let a := opensM w c (lowB p (m - p.length - 1))
    let b := opensM w c (highB p (m - p.length - 1))
    if (a && b) = true then 2 else if a = true then 0 else if b = true then 1 else 3
def fpGo (w m : Nat) (c : List Bool) : Nat → List Bool → Option (List Bool)
  | 0, p => if opensM w c p = true then some p else none
  | f + 1, p => match nbM w m c p with
    | 0 => fpGo w m c f (p ++ [false])
    | 1 => fpGo w m c f (p ++ [true])
    | 2 => some p
    | _ => none
def fpM (w m : Nat) (c : List Bool) : Option (List Bool) := if 16 * c.length ≥ 17 * m + 848 then none else fpGo w m c m []
def mlM (w : Nat) (c : List Bool) : Nat → List Bool → Nat → Nat
  | 0, _, t => t
  | j + 1, p, t => if opensM w c (lowB p j) = true then mlM w c j (p ++ [false]) (t + 2 ^ j) else mlM w c j (p ++ [true]) t
def mhM (w : Nat) (c : List Bool) : Nat → List Bool → Nat → Nat
  | 0, _, t => t
  | j + 1, p, t => if opensM w c (highB p j) = true then mhM w c j (p ++ [true]) (t + 2 ^ j) else mhM w c j (p ++ [false]) t
def cntM (w m : Nat) (c : List Bool) : Nat := match fpM w m c with
  | none => 0
  | some p => if p.length = m then 1 else mlM w c (m - p.length - 1) (p ++ [false]) 1 + mhM w c (m - p.length - 1) (p ++ [true]) 1
def fiGo (w : Nat) (c : List Bool) : Nat → List Bool → List Bool
  | 0, p => p
  | j + 1, p => fiGo w c j (p ++ [!opensM w c (lowB p j)])
def fiM (w m : Nat) (c : List Bool) : Option (List Bool) := match fpM w m c with
  | none => none
  | some p => if p.length = m then some p else some (fiGo w c (m - p.length - 1) (p ++ [false]))
def rkM (w m : Nat) (c b : List Bool) : Int := (valM b : Int) - (valM ((fiM w m c).getD []) : Int)
def paM (w m : Nat) (c : List Bool) (r : Nat) : List Bool := digT (valM ((fiM w m c).getD []) + r) m
/-! ### all bits of a length -/
def allB : Nat → List (List Bool)
  | 0 => [[]]
  | n + 1 => (allB n).flatMap fun l => [false :: l, true :: l]
theorem mem_allB : ∀ {n : Nat} {l : List Bool}, l.length = n → l ∈ allB n
  | 0, [], _ => by simp [allB]
  | n + 1, b :: l, h => by
    have h1 : l.length = n := by simpa using h
    refine List.mem_flatMap.mpr ⟨l, mem_allB h1, ?_⟩
    cases b <;> simp
def upB (n : Nat) : List (List Bool) := (List.range (n + 1)).flatMap allB
theorem mem_upB {n : Nat} {l : List Bool} (h : l.length ≤ n) : l ∈ upB n := List.mem_flatMap.mpr ⟨l.length, List.mem_range.mpr (by omega), mem_allB rfl⟩
def goodIv (s : Iv) : Bool := decide (0 ≤ s.low ∧ s.low ≤ 1000 ∧ 1 ≤ s.size ∧ s.size ≤ s.whole ∧ s.whole ≤ 1000) && (decide (s.zs.length = 16 ∧ s.os.length = 16) && (s.zs.all (fun z => decide (1 ≤ z ∧ z ≤ 10)) && s.os.all (fun z => decide (1 ≤ z ∧ z ≤ 10))))
/-- of the intervals of at most four bits -/
theorem good_all : ([1, 2].all fun w => (upB 4).all fun l => (List.range (l.length + 1)).all fun i => goodIv (ivM w l i) && decide (ctxM w i l < 16) && decide ((shM w i l i).1 ≤ 10 ∧ (shM w i l i).2 ≤ 10)) = true := by decide +kernel
/-- of the search of the code's length: nothing is found ahead of kM, there it is -/
theorem code_all : ([1, 2].all fun w => (upB 4).all fun l => let s := iv w l; decide (startM s ≤ kM s ∧ kM s ≤ 12 ∧ 1 ≤ bitLen (s.whole.fdiv s.size).toNat) && (List.range 13).all fun k => (decide (k < startM s) || decide (kM s < k)) || ((condM s k == decide (k = kM s)) && decide (0 ≤ firstM s k ∧ firstM s k ≤ 100000))) = true := by decide +kernel
/-- the shapes of tiles: width, number of bits -/
def shapes : List (Nat × Nat) := [(1, 1), (1, 2), (2, 2), (2, 4)]
/-- what is asked of a prefix p of the code of b -/
def packOk (w m : Nat) (b p : List Bool) (all : Bool) : Bool :=
  (match fpM w m p with
    | none => false
    | some q => decide (q.length ≤ m) && (decide (q.length < m) || (decide (cntM w m p = 1) && decide (rkM w m p b = 0))) && (!all || decide (q.length = m))) &&
  ((fiM w m p).isSome && (decide (1 ≤ cntM w m p ∧ cntM w m p ≤ 16) && (decide (0 ≤ rkM w m p b ∧ rkM w m p b < (cntM w m p : Int)) && decide (paM w m p (rkM w m p b).toNat = b))))
theorem pack_all : (shapes.all fun s => (allB s.2).all fun b => decide ((codeM s.1 b).length ≤ 12) && (List.range ((codeM s.1 b).length + 1)).all fun k => packOk s.1 s.2 b ((codeM s.1 b).take k) (decide (k = (codeM s.1 b).length))) = true := by decide +kernel
end PK

set_option maxHeartbeats 4000000
namespace PK
open PySem PySem.Spec PyProof.Rows L2 Evl
/-! ### helpers: bits -/
theorem bit_is {l : List Bool} {j : Nat} {i : Int} {H : Hp} {R : Bool → Hp → Prop} (e : i = (j : Int)) (hj : j < l.length) (hl : l.length ≤ 4) (q : R (l.getD j false) H) :
    rIxS (.str (bs l)) (.int i) H fun x H1 => rEq x (.str (Str.ofString "1")) H1 fun y H2 => ∃ k, y = .bl k ∧ R k H2 := by
  have h1 : l[j]? = some (l.getD j false) := by simp [hj]
  exact ix_bs e h1 (by omega) ⟨rfl, _, congrArg V.bl (eq_one _), q⟩
theorem fmod_nat (n w : Nat) : Int.fmod (n : Int) (w : Int) = ((n % w : Nat) : Int) := by
  rw [Int.fmod_eq_emod_of_nonneg _ (by omega)]
  rfl
theorem bs_get {l : List Bool} {i : Nat} {b : Bool} (h : l[i]? = some b) : (bs l).cps[i]? = some (if b = true then 49 else 48) := by
  show (l.map fun b => if b = true then 49 else 48).toArray[i]? = _
  rw [List.getElem?_toArray, List.getElem?_map, h]
  rfl
def OkW (w : Nat) : Prop := w = 1 ∨ w = 2
theorem OkW.mem {w : Nat} (h : OkW w) : w ∈ [1, 2] := by rcases h with rfl | rfl <;> simp
theorem OkW.pos {w : Nat} (h : OkW w) : 0 < w := by rcases h with rfl | rfl <;> omega
/-! ### the truth of an int -/
def tTruI (ta : TE) : TT := fun σ H Q => ta σ H fun x H' => ∃ i, x = .int i ∧ Q (i != 0) H'
theorem pt_truI {X : Cx} {a : Expr} {ta : TE} (ha : PE X a ta) (he : ∀ whole, isTrue a X.env whole = (do let v ← whole; standAt a.pos; holding [v] (truthy v))) : PT X a (tTruI ta) :=
  ⟨fun pins s σ H Q I h => isTrue_plain (thn (ha.run pins s σ H _ I h) fun v s1 ⟨x, H1, I1, r1, i, ei, q1⟩ => tru_ok pins s1 σ H1 x v Q I1 r1 ⟨i != 0, by subst ei; rfl, q1⟩) (he _)⟩
/-! ### loops -/
section
variable {K : PySem.W.Frag} {σ : L2.St} {H : Hp} {D : Ends} {tu : TS} {te : TE} {ta : TA}
theorem s_rng {j n : Nat} (h : ∀ Q : List V → Hp → Prop, Q [.int (n : Int)] H → ta σ H Q) (hn : n ≤ 100000) (Pv : Nat → L2.St → Hp → Prop) (h0 : Pv 0 σ H)
    (hs : ∀ (i : Nat) σ' H', i < n → Pv i σ' H' → tu { D with nx := Pv (i + 1), ct := Pv (i + 1), bk := D.nx } (σ'.set j (some (.int (i : Int)))) H') (hd : ∀ σ' H', Pv n σ' H' → D.nx σ' H') : tFor (iRng1 ta) (gName j) tu D σ H :=
  h _ ⟨n, rfl, by omega, by omega, for_range (lo := 0) (n := (n : Int).toNat) Pv h0 (fun i σ' H' hi p => by
    show tu _ (σ'.set j (some (.int ((0 : Int) + (i : Int))))) H'
    rw [Int.zero_add]
    exact hs i σ' H' (by omega) p) (by rw [Int.toNat_natCast]; exact hd)⟩
theorem s_bits {l : List Bool} {j : Nat} (h : ∀ Q : VK, Q (.str (bs l)) H → te σ H Q) (Pv : Nat → L2.St → Hp → Prop) (h0 : Pv 0 σ H)
    (hs : ∀ (i : Nat) b σ' H', l[i]? = some b → Pv i σ' H' → tu { D with nx := Pv (i + 1), ct := Pv (i + 1), bk := D.nx } (σ'.set j (some (.str (b1 b)))) H') (hd : ∀ σ' H', Pv l.length σ' H' → D.nx σ' H') : tFor (iStr te) (gName j) tu D σ H := by
  have e : (bs l).cps.size = l.length := bs_length l
  refine h _ ⟨bs l, rfl, for_it walk_str Pv h0 (fun _ _ _ _ _ => trivial) (fun i x σ' H' H2 hi p y => ?_) (by rw [e]; exact hd)⟩
  obtain ⟨rfl, c, hc, rfl⟩ := y
  rw [e] at hi
  have hb : l[i]? = some l[i] := by simp
  have hc2 : (bs l).cps[i]? = some (if l[i] then 49 else 48) := bs_get hb
  rw [hc2] at hc
  obtain rfl := Option.some.inj hc
  exact hs i l[i] σ' H2 hb p
theorem s_enumBits {l : List Bool} {j k : Nat} (h : ∀ Q : List V → Hp → Prop, Q [.str (bs l)] H → ta σ H Q) (Pv : Nat → L2.St → Hp → Prop) (h0 : Pv 0 σ H)
    (hs : ∀ (i : Nat) b σ' H' p, l[i]? = some b → Pv i σ' H' → H' p = none → tu { D with nx := Pv (i + 1), ct := Pv (i + 1), bk := D.nx } ((σ'.set j (some (.int (i : Int)))).set k (some (.str (b1 b)))) (upd H' p (.tup [.int (i : Int), .str (b1 b)])))
    (hd : ∀ σ' H', Pv l.length σ' H' → D.nx σ' H') : tFor (iEnumS ta) (gTup K 2 (gCons (gName j) (gCons (gName k) gNil))) tu D σ H := by
  have e : (bs l).cps.size = l.length := bs_length l
  refine h _ ⟨bs l, rfl, for_it walk_enumS Pv h0 (fun _ _ _ _ _ => trivial) (fun i x σ' H' H2 hi p y => ?_) (by rw [e]; exact hd)⟩
  obtain ⟨T, x1, x2, rfl, hT, rfl, h1, h2⟩ := y
  rw [e] at hi
  have hb : l[i]? = some l[i] := by simp
  have hc2 : (bs l).cps[i]? = some (if l[i] then 49 else 48) := bs_get hb
  have h2' : (bs l).cps[i]?.map (fun c => V.str ⟨#[c]⟩) = some x2 := h2
  rw [hc2] at h2'
  obtain rfl := Option.some.inj h1
  obtain rfl := Option.some.inj h2'
  exact ⟨T, _, rfl, SqT.of upd_same, rfl, _, _, rfl, _, _, rfl, rfl, hs i l[i] σ' H' T hb p hT⟩
theorem s_rev {te0 : TE} {j k : Nat} (h : ∀ Q : VK, Q (.int (k : Int)) H → te0 σ H Q) (hk : k ≤ 10000) (Pv : Nat → L2.St → Hp → Prop) (h0 : Pv 0 σ H)
    (hs : ∀ (i : Nat) σ' H', i < k → Pv i σ' H' → tu { D with nx := Pv (i + 1), ct := Pv (i + 1), bk := D.nx } (σ'.set j (some (.int ((k - 1 - i : Nat) : Int)))) H') (hd : ∀ σ' H', Pv k σ' H' → D.nx σ' H') : tFor (iRevR (tRg1 te0)) (gName j) tu D σ H := by
  refine h _ ⟨_, rfl, by omega, by omega, by omega, by omega, ?_⟩
  have e : (((k : Int) - 0).toNat : Nat) = k := by omega
  rw [e]
  refine for_it walk_rangeC Pv h0 (fun _ _ _ _ _ => trivial) (fun i x σ' H' H2 hi p y => ?_) hd
  obtain ⟨rfl, rfl⟩ := y
  have e2 : (0 + (k : Int) - 1 + (i : Nat) * (-1) : Int) = ((k - 1 - i : Nat) : Int) := by omega
  dsimp only
  rw [e2]
  exact hs i σ' H2 hi p
/-- a while that is left by return alone -/
theorem s_forever (n : Nat) (Pv : Nat → L2.St → Hp → Prop) (h0 : Pv 0 σ H)
    (hs : ∀ i σ' H', i ≤ n → Pv i σ' H' → tu { D with nx := fun σ2 H2 => i < n ∧ Pv (i + 1) σ2 H2, ct := fun σ2 H2 => i < n ∧ Pv (i + 1) σ2 H2, bk := D.nx } σ' H') : tWhile (tB (tC (.bl true))) tu D σ H := by
  refine ⟨fun m σ' H' => m ≤ n ∧ Pv (n - m) σ' H', ⟨n, Nat.le_refl _, by rw [Nat.sub_self]; exact h0⟩, fun m σ' H' hw => ⟨true, rfl, iteT ?_⟩⟩
  refine ⟨fun σ2 H2 => n - m < n ∧ Pv (n - m + 1) σ2 H2, fun σ2 H2 q => ⟨m - 1, by omega, by omega, ?_⟩, hs (n - m) σ' H' (by omega) hw.2⟩
  have e : n - (m - 1) = n - m + 1 := by omega
  rw [e]
  exact q.2
/-! ### comprehensions of values -/
/-- over any walk: the i-th turn gives v i, what stood stands -/
theorem lc_fn {J : It} {n : Nat} {G : Hp → Prop} {Y : Nat → Hp → V → Hp → Prop} (w : Walk J n G Y) (v : Nat → V) {g : TG} {vs : List Nat} {H1 : Hp} {A : Addr} {Qd : Hp → Prop} (hA : H1 A = none) (hn : n ≤ 100000) (hG : ∀ H, Ex H1 H → G H)
    (hs : ∀ i x H H' (R : V → Hp → Prop), i < n → Ex H1 H → Y i H x H' → (∀ H4, Ex H H4 → R (v i) H4) → g x (wipe σ vs) H' fun σ2 H2 => wipe σ2 vs = wipe σ vs ∧ te σ2 H2 R) (hd : ∀ H, Ex H1 H → H A = some (.lst ((List.range n).map v)) → Qd H) :
    ∃ W : Nat → Nat → Hp → Prop, (∃ m, W 0 m (upd H1 A (.lst []))) ∧ ∀ i m H, W i m H →
      (J.stop i H ∧ Qd H) ∨ (J.go i H ∧ ∃ Nx : Hp → Prop, (∀ H', Nx H' → ∃ m', m' < m ∧ W (i + 1) m' H') ∧ ∀ x H', J.yld i H x H' → g x (wipe σ vs) H' fun σ2 H2 => wipe σ2 vs = wipe σ vs ∧ tYes σ2 H2 fun b H3 =>
        if b = true then te σ2 H3 fun y H4 => ∃ acc, H4 A = some (.lst acc) ∧ acc.length < sizeLine ∧ Nx (upd H4 A (.lst (acc ++ [y]))) else Nx H3) := by
  refine lc_it w (fun i H => Ex H1 H ∧ H A = some (.lst ((List.range i).map v))) ⟨Ex.new hA, upd_same⟩ (fun i H _ p => hG H p.1) (fun i x H H' hi p y => ?_) fun H p => hd H p.1 p.2
  refine hs i x H H' (fun y H4 => ∃ acc, H4 A = some (.lst acc) ∧ acc.length < sizeLine ∧ Ex H1 (upd H4 A (.lst (acc ++ [y]))) ∧ (upd H4 A (.lst (acc ++ [y]))) A = some (.lst ((List.range (i + 1)).map v))) hi p.1 y fun H4 e4 => ?_
  refine ⟨_, e4 _ _ p.2, ?_, Ex.mut (p.1.trans e4) hA, ?_⟩
  · rw [List.length_map, List.length_range]
    exact sz_lt (by omega)
  · rw [upd_same, List.range_succ, List.map_append]
    rfl
/-- a list comprehension without a condition, over reversed(range(k)) -/
theorem lc_rev {tl te0 : TE} {j k : Nat} {vs : List Nat} {Q : VK} (h : ∀ Q : VK, Q (.int (k : Int)) H → te0 σ H Q) (hk : k ≤ 10000) (v : Nat → V) (hw : ∀ x, wipe ((wipe σ vs).set j (some x)) vs = wipe σ vs)
    (he : ∀ i H1 (R : VK), i < k → Ex H H1 → (∀ H4, Ex H1 H4 → R (v i) H4) → tl ((wipe σ vs).set j (some (.int ((k - 1 - i : Nat) : Int)))) H1 R)
    (q : ∀ p H1, H p = none → Ex H H1 → H1 p = some (.lst ((List.range k).map v)) → Q (.ref p) H1) : tLc (iRevR (tRg1 te0)) (gName j) tYes tl vs σ H Q := by
  refine h _ ⟨_, rfl, by omega, by omega, by omega, by omega, fun D hD => ?_⟩
  have e : (((k : Int) - 0).toNat : Nat) = k := by omega
  rw [e]
  refine lc_fn walk_rangeC v hD (by omega) (fun _ _ => trivial) (fun i x H1 H2 R hi e1 y hR => ?_) fun H1 e1 h1 => q D H1 hD e1 h1
  obtain ⟨rfl, rfl⟩ := y
  have e2 : (0 + (k : Int) - 1 + (i : Nat) * (-1) : Int) = ((k - 1 - i : Nat) : Int) := by omega
  dsimp only
  rw [e2]
  exact ⟨hw _, he i H2 R hi e1 hR⟩
/-- over range(k) -/
theorem lc_rng {tl : TE} {ta : TA} {j k : Nat} {vs : List Nat} {Q : VK} (h : ∀ Q : List V → Hp → Prop, Q [.int (k : Int)] H → ta σ H Q) (hk : k ≤ 10000) (v : Nat → V) (hw : ∀ x, wipe ((wipe σ vs).set j (some x)) vs = wipe σ vs)
    (he : ∀ i H1 (R : VK), i < k → Ex H H1 → (∀ H4, Ex H1 H4 → R (v i) H4) → tl ((wipe σ vs).set j (some (.int (i : Int)))) H1 R)
    (q : ∀ p H1, H p = none → Ex H H1 → H1 p = some (.lst ((List.range k).map v)) → Q (.ref p) H1) : tLc (iRng1 ta) (gName j) tYes tl vs σ H Q := by
  refine h _ ⟨_, rfl, by omega, by omega, fun D hD => ?_⟩
  rw [Int.toNat_natCast]
  refine lc_fn walk_range v hD (by omega) (fun _ _ => trivial) (fun i x H1 H2 R hi e1 y hR => ?_) fun H1 e1 h1 => q D H1 hD e1 h1
  obtain ⟨rfl, rfl⟩ := y
  dsimp only
  rw [Int.zero_add]
  exact ⟨hw _, he i H2 R hi e1 hR⟩
/-- over a list that stands -/
theorem lc_list' {tl te0 : TE} {j : Nat} {vs : List Nat} {Q : VK} {a : Addr} {xs : List V} (h : ∀ Q : VK, Q (.ref a) H → te0 σ H Q) (hx : SqL K H a xs) (hk : xs.length ≤ 10000) (v : Nat → V) (hw : ∀ x, wipe ((wipe σ vs).set j (some x)) vs = wipe σ vs)
    (he : ∀ i x H1 (R : VK), xs[i]? = some x → Ex H H1 → (∀ H4, Ex H1 H4 → R (v i) H4) → tl ((wipe σ vs).set j (some x)) H1 R)
    (q : ∀ p H1, H p = none → Ex H H1 → H1 p = some (.lst ((List.range xs.length).map v)) → Q (.ref p) H1) : tLc (iList K te0) (gName j) tYes tl vs σ H Q := by
  refine h _ ⟨_, rfl, ⟨xs, hx⟩, fun D hD => ?_⟩
  refine lc_list (xs := xs) (fun i H' => Ex H H' ∧ H' D = some (.lst ((List.range i).map v))) ⟨Ex.new hD, upd_same⟩ (fun i H' _ p => ex_l p.1 hx) (fun i x H' hi p => ⟨hw x, ?_⟩) fun H' p => q D H' hD p.1 p.2
  refine he i x H' (fun y H4 => ∃ acc, H4 D = some (.lst acc) ∧ acc.length < sizeLine ∧ Ex H (upd H4 D (.lst (acc ++ [y]))) ∧ (upd H4 D (.lst (acc ++ [y]))) D = some (.lst ((List.range (i + 1)).map v))) hi p.1 fun H4 e4 => ?_
  refine ⟨_, e4 _ _ p.2, ?_, Ex.mut (p.1.trans e4) hD, ?_⟩
  · rw [List.length_map, List.length_range]
    have := (List.getElem?_eq_some_iff.mp hi).1
    exact sz_lt (by omega)
  · rw [upd_same, List.range_succ, List.map_append]
    rfl
end
theorem cxK {P : Program} {w : World} {K : PySem.W.Frag} {mg : Str → Option Value} {base : Heap} {CX : CXT} {N : List Str} {q : Str} {sc : Scope} {f : Addr} {cd : Value} {A : Around} {outer : List Env} {s : Shared} {H : Hp} {E : XK} : (cxOf CX P w K mg base N q sc f cd A outer s H E).K = K := rfl
theorem nxK {P : Program} {w : World} {K : PySem.W.Frag} {mg : Str → Option Value} {base : Heap} {CX : CXT} {N : List Str} {q : Str} {sc : Scope} {f : Addr} {cd : Value} {A : Around} {outer : List Env} {s : Shared} {H : Hp} {E : XK} : (cxOf CX P w K mg base N q sc f cd A outer s H E).nox.K = K := rfl
theorem gcE {t : TG} {u : TGs} {v : V} {r : List V} {σ : L2.St} {H : Hp} {Q : L2.St → Hp → Prop} : gCons t u (v :: r) σ H Q = t v σ H fun σ' H' => u r σ' H' Q :=
  propext ⟨fun ⟨_, _, e, q⟩ => by cases e; exact q, fun q => ⟨v, r, rfl, q⟩⟩
theorem gnE {σ : L2.St} {H : Hp} {Q : L2.St → Hp → Prop} : gNil [] σ H Q = Q σ H := propext ⟨fun q => q.2, fun q => ⟨rfl, q⟩⟩
/-! ### fields -/
def rFldV (K : PySem.W.Frag) (f : Str) : V → Hp → VK → Prop := fun x H Q => ∃ a C dx fs v, x = .ref a ∧ H a = some (.ins C dx fs) ∧ Cls K C ∧ NoAttr K C f ∧ fs.lookup f = some v ∧ Q v H
theorem tFldE {K : PySem.W.Frag} {ta : TE} {f : Str} {σ : L2.St} {H : Hp} {Q : VK} : tFld K ta f σ H Q = ta σ H fun x H1 => rFldV K f x H1 Q := rfl
def rSetF (K : PySem.W.Frag) (f : Str) (y : V) : V → Hp → (Hp → Prop) → Prop := fun x H R => ∃ a C dx fs, x = .ref a ∧ H a = some (.ins C dx fs) ∧ Cls K C ∧ NoAttr K C f ∧ fs.length < 1000 ∧ R (upd H a (.ins C dx (putF f y fs)))
theorem sFldE {K : PySem.W.Frag} {ta tv : TE} {f : Str} {D : Ends} {σ : L2.St} {H : Hp} : sFld K ta tv f D σ H = tv σ H fun y H1 => ta σ H1 fun x H2 => rSetF K f y x H2 fun H3 => D.nx σ H3 := rfl
theorem fld_iff {K : PySem.W.Frag} {f : Str} {a C dx : Addr} {fs : List (Str × V)} {v : V} {H : Hp} {Q : VK} (h : H a = some (.ins C dx fs)) (hc : Cls K C) (hn : NoAttr K C f) (hl : fs.lookup f = some v) : rFldV K f (.ref a) H Q = Q v H :=
  propext ⟨fun ⟨a', C', dx', fs', v', e1, e2, _, _, e3, q⟩ => by
    cases e1
    rw [h] at e2
    cases e2
    rw [hl] at e3
    cases e3
    exact q, fun q => ⟨a, C, dx, fs, v, rfl, h, hc, hn, hl, q⟩⟩
theorem setF {K : PySem.W.Frag} {f : Str} {a C dx : Addr} {fs : List (Str × V)} {y : V} {H : Hp} {R : Hp → Prop} (h : H a = some (.ins C dx fs)) (hc : Cls K C) (hn : NoAttr K C f) (hl : fs.length < 1000) (q : R (upd H a (.ins C dx (putF f y fs)))) : rSetF K f y (.ref a) H R :=
  ⟨a, C, dx, fs, rfl, h, hc, hn, hl, q⟩
/-! ### steps on lists, tuples -/
section
variable {K : PySem.W.Frag} {σ : L2.St} {H : Hp} {Q : VK} {p : Addr} {xs : List V} {v : V} {i : Int} {j n : Nat}
theorem gtup {gs : TGs} {R : L2.St → Hp → Prop} (h : SqT K H p xs) (hn : xs.length = n) (q : gs xs σ H R) : gTup K n gs (.ref p) σ H R := ⟨p, xs, rfl, h, hn, q⟩
theorem ixL (e : i = (j : Int)) (h : SqL K H p xs) (hv : xs[j]? = some v) (q : Q v H) : rIxL K (.ref p) (.int i) H Q := ⟨p, xs, i, v, rfl, rfl, h, by rw [e]; exact atI_nat hv, q⟩
theorem ixT (e : i = (j : Int)) (h : SqT K H p xs) (hv : xs[j]? = some v) (q : Q v H) : rIxT K (.ref p) (.int i) H Q := ⟨p, xs, i, v, rfl, rfl, h, by rw [e]; exact atI_nat hv, q⟩
theorem setL {R : Hp → Prop} (e : i = (j : Int)) (h : H p = some (.lst xs)) (hj : j < xs.length) (q : R (upd H p (.lst (xs.set j v)))) : rSetL (.ref p) (.int i) v H R := ⟨p, xs, i, j, rfl, rfl, h, by rw [e]; exact ixN_nat hj, q⟩
theorem rep1 {x : V} {k : Nat} (h : H p = some (.lst [x])) (hk : k ≤ 100000) (q : ∀ p', H p' = none → Q (.ref p') (upd H p' (.lst (List.replicate k x)))) : rRep (.ref p) (.int (k : Int)) H Q :=
  ⟨p, k, [x], rfl, rfl, h, by omega, by omega, by simp; exact sz_of hk, fun p' hp => by
    have e : (List.replicate (k : Int).toNat [x]).flatten = List.replicate k x := by
      rw [Int.toNat_natCast]
      clear q hk
      induction k with
      | zero => rfl
      | succ k ih =>
        rw [List.replicate_succ, List.replicate_succ, List.flatten_cons, ih]
        rfl
    rw [e]
    exact q p' hp⟩
end
theorem good_at {w i : Nat} {l : List Bool} (hw : OkW w) (hl : l.length ≤ 4) (hi : i ≤ l.length) : goodIv (ivM w l i) = true ∧ ctxM w i l < 16 ∧ (shM w i l i).1 ≤ 10 ∧ (shM w i l i).2 ≤ 10 := by
  have h := List.all_eq_true.mp (List.all_eq_true.mp (List.all_eq_true.mp good_all w hw.mem) l (mem_upB hl)) i (List.mem_range.mpr (by omega))
  simp only [Bool.and_eq_true, decide_eq_true_eq] at h
  exact ⟨h.1.1, h.1.2, h.2⟩
theorem goodIv_iff {s : Iv} (h : goodIv s = true) : (0 ≤ s.low ∧ s.low ≤ 1000 ∧ 1 ≤ s.size ∧ s.size ≤ s.whole ∧ s.whole ≤ 1000) ∧ s.zs.length = 16 ∧ s.os.length = 16 ∧ (∀ z ∈ s.zs, 1 ≤ z ∧ z ≤ 10) ∧ ∀ z ∈ s.os, 1 ≤ z ∧ z ≤ 10 := by
  simp only [goodIv, Bool.and_eq_true, decide_eq_true_eq, List.all_eq_true] at h
  exact ⟨h.1, h.2.1.1, h.2.1.2, h.2.2.1, h.2.2.2⟩
/-! ### a joined text of bits -/
theorem join_bits : ∀ l : List Bool, Txt.join (Str.ofString "") (l.map b1) = bs l := fun l => by
  rw [TL.join_eq]
  have e0 : ∀ x : Str, x ++ Str.ofString "" = x := fun x => by
    show (⟨x.cps ++ (Str.ofString "").cps⟩ : Str) = x
    have : (Str.ofString "").cps = #[] := by decide +kernel
    rw [this]
    simp
  induction l with
  | nil => exact (by decide +kernel : Str.join (Str.ofString "") [] = bs [])
  | cons b l ih =>
    cases l with
    | nil => rfl
    | cons c r =>
      show b1 b ++ Str.ofString "" ++ Str.join (Str.ofString "") ((c :: r).map b1) = _
      rw [ih, e0, ← bs_one, bs_append]
      rfl
theorem and_one (n : Nat) : Builtin.bitAnd (n : Int) 1 = ((n % 2 : Nat) : Int) := by
  unfold Builtin.bitAnd
  have h : decide ((0 : Int) ≤ (n : Int)) = true := decide_eq_true (by omega)
  rw [h]
  show (((n : Int).toNat &&& 1 : Nat) : Int) = _
  rw [Int.toNat_natCast, Nat.and_one_is_mod]
theorem sum_const {α : Type} {l : List α} {f : α → Nat} {c : Nat} (h : ∀ x ∈ l, f x = c) : (l.map f).sum = l.length * c := by
  induction l with
  | nil => simp
  | cons a r ih =>
    rw [List.map_cons, List.sum_cons, ih (fun x hx => h x (List.mem_cons_of_mem _ hx)), h a (List.mem_cons_self ..), List.length_cons, Nat.add_mul]
    omega
end PK

set_option maxHeartbeats 4000000
namespace PK
open PySem PySem.Spec PyProof.Rows L2 Evl
local macro_rules | `(tactic| walk_at "rd") => `(tactic| simp only [tSeq, tAsg, tRet, tIfS, tTest, tOp, tUn, tVar, tC, tCons, tNil, tCB, tHas, gName, rI0, rI, rU, tNext, tNot, tAnd, tOr, tChain, tIf, tB, tNever, tRetN, tDrop, tTup, tLst,
  L2.start, List.map_cons, List.map_nil, List.length_cons, List.length_nil, List.replicate, List.cons_append, List.nil_append, List.getElem?_cons_zero, List.getElem?_cons_succ, List.set_cons_zero, List.set_cons_succ,
  Option.some.injEq, V.int.injEq, V.bl.injEq, V.str.injEq, V.ref.injEq, exists_eq_left', exists_eq_left, exists_and_left, List.cons.injEq, and_true, true_and, eq_self_iff_true, Nat.reduceAdd, Nat.reduceSub, Nat.zero_add])
section
variable {P : Program} {w : World} {K : PySem.W.Frag} {mg : Str → Option Value} {base : Heap} {CF CP CA : Addr}
/-! ### contexts -/
def spContext : Sp := fun vs H Q _ => ∃ (w n : Nat) (l : List Bool), vs = [.int (w : Int), .str (bs l), .int (n : Int)] ∧ OkW w ∧ n ≤ l.length ∧ l.length ≤ 4 ∧ Q (.int (ctxM w n l)) H
theorem has_context (T : Top K mg CF CP CA) : Has P w K mg base CX0 1 "context" ["width", "bits", "place"] spContext := by
  refine has0 T.d_context sc_context (fun vs H Q E h => ?_) fun f cdv A outer s H vs Q E hr h => ?_
  · obtain ⟨_, _, _, rfl, _⟩ := h; rfl
  · obtain ⟨w, n, l, rfl, hw, hn, hl, q⟩ := h
    refine ⟨_, (pss_cons (ps_set (i := 3) sc_context.nd rfl (by first | exact .inl rfl | exact .inr rfl) pe_int)
      (pss_cons (ps_set (i := 4) sc_context.nd rfl (by first | exact .inl rfl | exact .inr rfl) (pe_op op_modN (pv 2) (pv 0)))
      (pss_cut (ps_if (PW.pt (pw_and (pt_cmpR op_gt (pv 4) pe_int (nomark _)) (pw_and1 (pt_cmpR op_eq (pe_ix ix_str (pv 1) (pe_op op_sub (pv 2) pe_int) (fun _ _ => rfl)) pe_str (nomark _))))) (pss_one (ps_set (i := 3) sc_context.nd rfl (by first | exact .inl rfl | exact .inr rfl) (pe_op op_add (pv 3) pe_int))) pss_nil)
      (pss_cons (ps_if (pt_cmpR op_lt (pv 2) (pv 0) (nomark _)) (pss_one (ps_ret (pv 3))) pss_nil)
      (pss_cut (ps_if (PW.pt (pw_and (pt_cmpR op_gt (pv 4) pe_int (nomark _)) (pw_and1 (pt_cmpR op_eq (pe_ix ix_str (pv 1) (pe_op op_sub (pe_op op_sub (pv 2) (pv 0)) pe_int) (fun _ _ => rfl)) pe_str (nomark _))))) (pss_one (ps_set (i := 3) sc_context.nd rfl (by first | exact .inl rfl | exact .inr rfl) (pe_op op_add (pv 3) pe_int))) pss_nil)
      (pss_cut (ps_if (pt_cmpR op_eq (pe_ix ix_str (pv 1) (pe_op op_sub (pv 2) (pv 0)) (fun _ _ => rfl)) pe_str (nomark _)) (pss_one (ps_set (i := 3) sc_context.nd rfl (by first | exact .inl rfl | exact .inr rfl) (pe_op op_add (pv 3) pe_int))) pss_nil)
      (pss_cut (ps_if (PW.pt (pw_and (pt_cmpR op_lt (pe_op op_add (pv 4) pe_int) (pv 0) (nomark _)) (pw_and1 (pt_cmpR op_eq (pe_ix ix_str (pv 1) (pe_op op_add (pe_op op_sub (pv 2) (pv 0)) pe_int) (fun _ _ => rfl)) pe_str (nomark _))))) (pss_one (ps_set (i := 3) sc_context.nd rfl (by first | exact .inl rfl | exact .inr rfl) (pe_op op_add (pv 3) pe_int))) pss_nil)
      (pss_one (ps_ret (pv 3)))))))))), ?_⟩
    have hw0 : 0 < w := by rcases hw with rfl | rfl <;> omega
    walk_at "rd"
    rw [fmod_nat]
    refine ⟨by omega, fun σ' H' => σ' = [some (.int w), some (.str (bs l)), some (.int n), some (.int ((if (decide (0 < n % w) && l.getD (n - 1) false) = true then 1 else 0 : Nat) : Int)), some (.int ((n % w : Nat) : Int))] ∧ H = H', ?_, ?_⟩
    · walk_at "rd"
      by_cases h1 : 0 < n % w
      · have hn0 : 0 < n := by
          rcases Nat.eq_zero_or_pos n with z | z
          · subst z; simp at h1
          · exact z
        rw [if_pos (decide_eq_true (by omega))]
        refine bit_is (j := n - 1) (by omega) (by omega) hl ?_
        cases hb : l.getD (n - 1) false
        · simp [h1]
        · simp [h1]
      · rw [if_neg (by simp; omega)]
        simp [h1]
    · rintro σ' H' ⟨rfl, rfl⟩
      generalize ht : ((if (decide (0 < n % w) && l.getD (n - 1) false) = true then 1 else 0 : Nat)) = t1
      walk_at "rd"
      by_cases hnw : n < w
      · rw [if_pos (decide_eq_true (by omega))]
        have e : ctxM w n l = t1 := by
          unfold ctxM
          rw [ht, if_pos hnw]
          rfl
        rw [← e]
        exact q
      · rw [if_neg (by simpa using hnw)]
        refine ⟨fun σ' H' => σ' = [some (.int w), some (.str (bs l)), some (.int n), some (.int ((t1 + (if (decide (0 < n % w) && l.getD (n - w - 1) false) = true then 2 else 0) : Nat) : Int)), some (.int ((n % w : Nat) : Int))] ∧ H = H', ?_, ?_⟩
        · walk_at "rd"
          by_cases h1 : 0 < n % w
          · rw [if_pos (decide_eq_true (by omega))]
            have h2 : w < n := by
              rcases Nat.lt_or_ge w n with z | z
              · exact z
              · have : n = w := by omega
                subst this
                simp at h1
            refine bit_is (j := n - w - 1) (by omega) (by omega) hl ?_
            cases hb : l.getD (n - w - 1) false
            · simp [h1]
            · simp [h1]
          · rw [if_neg (by simp; omega)]
            simp [h1]
        · rintro σ' H' ⟨rfl, rfl⟩
          generalize ht2 : (t1 + (if (decide (0 < n % w) && l.getD (n - w - 1) false) = true then 2 else 0) : Nat) = t2
          refine ⟨fun σ' H' => σ' = [some (.int w), some (.str (bs l)), some (.int n), some (.int ((t2 + (if l.getD (n - w) false = true then 4 else 0) : Nat) : Int)), some (.int ((n % w : Nat) : Int))] ∧ H = H', ?_, ?_⟩
          · walk_at "rd"
            refine bit_is (j := n - w) (by omega) (by omega) hl ?_
            cases hb : l.getD (n - w) false
            · simp
            · simp
          · rintro σ' H' ⟨rfl, rfl⟩
            generalize ht3 : (t2 + (if l.getD (n - w) false = true then 4 else 0) : Nat) = t3
            refine ⟨fun σ' H' => σ' = [some (.int w), some (.str (bs l)), some (.int n), some (.int ((t3 + (if (decide (n % w + 1 < w) && l.getD (n - w + 1) false) = true then 8 else 0) : Nat) : Int)), some (.int ((n % w : Nat) : Int))] ∧ H = H', ?_, ?_⟩
            · walk_at "rd"
              by_cases h1 : n % w + 1 < w
              · rw [if_pos (decide_eq_true (by omega))]
                refine bit_is (j := n - w + 1) (by omega) (by rcases hw with rfl | rfl <;> omega) hl ?_
                cases hb : l.getD (n - w + 1) false
                · simp [h1]
                · simp [h1]
              · rw [if_neg (by simp; omega)]
                simp [h1]
            · rintro σ' H' ⟨rfl, rfl⟩
              walk_at "rd"
              have e : ctxM w n l = t3 + (if (decide (n % w + 1 < w) && l.getD (n - w + 1) false) = true then 8 else 0) := by
                unfold ctxM
                rw [ht, if_neg hnw, ← ht3, ← ht2]
                simp only [Nat.add_assoc]
              rw [← e]
              exact q
end
end PK

set_option maxHeartbeats 4000000
namespace PK
open PySem PySem.Spec PyProof.Rows L2 Evl
local macro_rules | `(tactic| walk_at "rd") => `(tactic| simp only [tSeq, tAsg, tRet, tIfS, tTest, tOp, tUn, tVar, tC, tCons, tNil, tCB, tHas, gName, rI0, rI, rU, tNext, tNot, tAnd, tOr, tChain, tIf, tB, tNever, tRetN, tDrop, tTup, tLst, tMeth, tMake, tM0, tM1, tBits, tTruI, tBM, gSub, tSl, tNoPart, tPart, gcE, gnE, bs_length, tListRevR, tRg1, tFldE, sFldE, tPar3, cxK, nxK, List.append_nil,
  L2.start, List.map_cons, List.map_nil, List.length_cons, List.length_nil, List.replicate, List.cons_append, List.nil_append, List.getElem?_cons_zero, List.getElem?_cons_succ, List.set_cons_zero, List.set_cons_succ,
  Option.some.injEq, V.int.injEq, V.bl.injEq, V.str.injEq, V.ref.injEq, exists_eq_left', exists_eq_left, exists_and_left, List.cons.injEq, and_true, true_and, eq_self_iff_true, Nat.reduceAdd, Nat.reduceSub, Nat.zero_add])
theorem take_snoc {α : Type} : ∀ {l : List α} {i : Nat} {x : α}, l[i]? = some x → l.take (i + 1) = l.take i ++ [x]
  | [], i, x, h => by simp at h
  | a :: l, 0, x, h => by
    obtain rfl := Option.some.inj h
    rfl
  | a :: l, i + 1, x, h => by
    show a :: l.take (i + 1) = a :: l.take i ++ [x]
    rw [take_snoc (l := l) (i := i) (x := x) h]
    rfl
section
variable {P : Program} {w : World} {K : PySem.W.Frag} {mg : Str → Option Value} {base : Heap} {CF CP CA : Addr}
def spCheckWidth : Sp := fun vs H Q _ => ∃ w : Nat, vs = [.int (w : Int)] ∧ OkW w ∧ Q .non H
theorem has_check_width (T : Top K mg CF CP CA) : Has P w K mg base CX0 1 "check_width" ["width"] spCheckWidth := by
  refine has0 T.d_check_width sc_check_width (fun vs H Q E h => ?_) fun f cdv A outer s H vs Q E hr h => ?_
  · obtain ⟨_, rfl, _⟩ := h; rfl
  · obtain ⟨w, rfl, hw, q⟩ := h
    refine ⟨_, (pss_one (ps_if (pt_not (pt_chain op_le op_le pe_int (pv 0) (pe_gint T.c_WIDTH_MOST))) (pss_one ps_never) pss_nil)), ?_⟩
    walk_at "rd"
    rcases hw with rfl | rfl <;> simpa using q
def spCheckBits : Sp := fun vs H Q _ => ∃ l : List Bool, vs = [.str (bs l)] ∧ l.length ≤ 256 ∧ Q .non H
theorem has_check_bits (T : Top K mg CF CP CA) : Has P w K mg base CX0 1 "check_bits" ["bits"] spCheckBits := by
  refine has0 T.d_check_bits sc_check_bits (fun vs H Q E h => ?_) fun f cdv A outer s H vs Q E hr h => ?_
  · obtain ⟨_, rfl, _⟩ := h; rfl
  · obtain ⟨l, rfl, hl, q⟩ := h
    refine ⟨_, (pss_one (ps_if (pt_cmpR op_gt (pe_callB call_len_str rfl T.n_len boot_len (pa_cons (pv 0) pa_nil)) (pe_gint T.c_BITS_MOST) (nomark _)) (pss_one ps_never) pss_nil)), ?_⟩
    walk_at "rd"
    refine ⟨by rw [sizeLine_eq]; omega, ?_⟩
    rw [if_neg (by simp; omega)]
    exact q
def spCheckCode : Sp := fun vs H Q _ => ∃ l : List Bool, vs = [.str (bs l)] ∧ l.length ≤ 400 ∧ Q .non H
theorem has_check_code (T : Top K mg CF CP CA) : Has P w K mg base CX0 1 "check_code" ["code"] spCheckCode := by
  refine has0 T.d_check_code sc_check_code (fun vs H Q E h => ?_) fun f cdv A outer s H vs Q E hr h => ?_
  · obtain ⟨_, rfl, _⟩ := h; rfl
  · obtain ⟨l, rfl, hl, q⟩ := h
    refine ⟨_, (pss_one (ps_if (pt_cmpR op_gt (pe_callB call_len_str rfl T.n_len boot_len (pa_cons (pv 0) pa_nil)) (pe_gint T.c_CODE_MOST) (nomark _)) (pss_one ps_never) pss_nil)), ?_⟩
    walk_at "rd"
    refine ⟨by rw [sizeLine_eq]; omega, ?_⟩
    rw [if_neg (by simp; omega)]
    exact q
def spCheckCount : Sp := fun vs H Q _ => ∃ m : Nat, vs = [.int (m : Int)] ∧ m ≤ 256 ∧ Q .non H
theorem has_check_count (T : Top K mg CF CP CA) : Has P w K mg base CX0 1 "check_count" ["count"] spCheckCount := by
  refine has0 T.d_check_count sc_check_count (fun vs H Q E h => ?_) fun f cdv A outer s H vs Q E hr h => ?_
  · obtain ⟨_, rfl, _⟩ := h; rfl
  · obtain ⟨m, rfl, hm, q⟩ := h
    refine ⟨_, (pss_one (ps_if (pt_not (pt_chain op_le op_le pe_int (pv 0) (pe_gint T.c_BITS_MOST))) (pss_one ps_never) pss_nil)), ?_⟩
    walk_at "rd"
    have h1 : (0 : Int) ≤ m := by omega
    have h2 : (m : Int) ≤ 256 := by omega
    simpa [h1, h2] using q
def spLastZ : Sp := fun vs H Q _ => ∃ (l : List Bool) (j : Nat), vs = [.str (bs l), .int (j : Int)] ∧ l.length ≤ 100 ∧ j ≤ 100 ∧ Q (.str (bs (lowB l j))) H
theorem has_last_with_zero (T : Top K mg CF CP CA) : Has P w K mg base CX0 1 "last_with_zero" ["bits", "more"] spLastZ := by
  refine has0 T.d_last_with_zero sc_last_with_zero (fun vs H Q E h => ?_) fun f cdv A outer s H vs Q E hr h => ?_
  · obtain ⟨_, _, rfl, _⟩ := h; rfl
  · obtain ⟨l, j, rfl, hl, hj, q⟩ := h
    refine ⟨_, (pss_one (ps_ret (pe_op op_add_str (pe_op op_add_str (pv 0) pe_str) (pe_op op_mulS pe_str (pv 1))))), ?_⟩
    walk_at "rd"
    have hsl := sizeLine_eq
    have e1 : bs l ++ Str.ofString "0" = bs (l ++ [false]) := by rw [← b1_zero, ← bs_one, bs_append]
    rw [e1]
    have l0 : (Str.ofString "0").length = 1 := by decide +kernel
    refine ⟨by rw [l0]; omega, 49, j, by decide +kernel, rfl, by omega, _, rfl, ?_, ?_⟩
    · rw [bs_length]
      show _ + ((List.replicate j 49).toArray).size ≤ _
      simp
      omega
    · have e2 : (⟨(List.replicate j 49).toArray⟩ : Str) = bs (List.replicate j true) := by simp [bs]
      rw [e2, bs_append]
      have e3 : l ++ [false] ++ List.replicate j true = lowB l j := by simp [lowB]
      rw [e3]
      exact q
def spDigVal : Sp := fun vs H Q _ => ∃ l : List Bool, vs = [.str (bs l)] ∧ l.length ≤ 5000 ∧ Q (.int (valM l : Int)) H
theorem has_digits_value (T : Top K mg CF CP CA) : Has P w K mg base CX0 1 "digits_value" ["digits"] spDigVal := by
  refine has0 T.d_digits_value sc_digits_value (fun vs H Q E h => ?_) fun f cdv A outer s H vs Q E hr h => ?_
  · obtain ⟨_, rfl, _⟩ := h; rfl
  · obtain ⟨l, rfl, hl, q⟩ := h
    refine ⟨_, (pss_cons (ps_set (i := 1) sc_digits_value.nd rfl (by first | exact .inl rfl | exact .inr rfl) pe_int)
      (pss_cons (ps_for PassesOwn.never rfl (pi_str (pv 0)) (pg_name (i := 2) sc_digits_value.nd rfl (by first | exact .inl rfl | exact .inr rfl)) (pss_one (ps_set (i := 1) sc_digits_value.nd rfl (by first | exact .inl rfl | exact .inr rfl) (pe_op op_add (pe_op op_mul pe_int (pv 1)) (pe_ifExp (pt_cmpR op_eq (pv 2) pe_str (nomark _)) pe_int pe_int)))))
      (pss_one (ps_ret (pv 1))))), ?_⟩
    walk_at "rd"
    refine s_bits (fun Q q => ⟨_, rfl, q⟩) (fun i σ H' => H = H' ∧ ∃ v, σ = [some (.str (bs l)), some (.int (valM (l.take i))), v]) ⟨rfl, none, rfl⟩ ?_ ?_
    · rintro i b σ H' hb ⟨rfl, v, rfl⟩
      walk_at "rd"
      have e : valM (l.take (i + 1)) = 2 * valM (l.take i) + (if b = true then 1 else 0) := by
        rw [take_snoc hb]
        simp [valM]
      refine ⟨.inl ⟨by decide, by decide⟩, rfl, _, rfl, ?_⟩
      rw [eq_one, e]
      cases b
      · refine iteF ?_
        simp
      · refine iteT ?_
        simp
    · rintro σ H' ⟨rfl, v, rfl⟩
      walk_at "rd"
      rw [List.take_length]
      exact q
def spDigTxt : Sp := fun vs H Q _ => ∃ m k : Nat, vs = [.int (m : Int), .int (k : Int)] ∧ k ≤ 5000 ∧ ∀ H', Ex H H' → Q (.str (bs (digT m k))) H'
theorem has_digits_text (T : Top K mg CF CP CA) : Has P w K mg base CX0 1 "digits_text" ["number", "many"] spDigTxt := by
  refine has0 T.d_digits_text sc_digits_text (fun vs H Q E h => ?_) fun f cdv A outer s H vs Q E hr h => ?_
  · obtain ⟨_, _, rfl, _⟩ := h; rfl
  · obtain ⟨m, k, rfl, hk, q⟩ := h
    refine ⟨_, (pss_one (ps_ret (pe_join pe_str (pe_lc (own := [("place", 2)]) rfl sc_digits_text.nd (pi_revR rfl T.n_reversed (prg_1 rfl T.n_range (pv 1))) (blkOk_by (N := ["number", "many", "place"]) (sc := defScope s_digits_text) (by decide +kernel)) (fun _ _ _ _ _ => by exact (pg_name (i := 2) sc_digits_text.nd rfl (by first | exact .inl rfl | exact .inr rfl))) (fun _ _ _ _ _ => by exact pts_nil) (fun _ _ _ _ _ => by exact (pe_ifExp (pt_truI (pe_op op_and (pe_op op_shr (pv 0) (pv 2)) pe_int) (by intro _; rfl)) pe_str pe_str)))))), ?_⟩
    walk_at "rd"
    refine ⟨⟨_, rfl⟩, lc_rev (fun Q q => ⟨_, rfl, q⟩) (by omega) (fun i => .str (b1 (decide ((m / 2 ^ (k - 1 - i)) % 2 = 1)))) (fun _ => rfl) ?_ ?_⟩
    · intro i H1 R hi e1 hR
      simp only [wipe, List.set_cons_zero, List.set_cons_succ, List.foldl_cons, List.foldl_nil]
      walk_at "rd"
      refine ⟨by omega, ?_⟩
      have e2 : ((m : Int) / 2 ^ ((k - 1 - i : Nat) : Int).toNat) = ((m / 2 ^ (k - 1 - i) : Nat) : Int) := by
        rw [Int.toNat_natCast]
        simp
      rw [e2, and_one]
      have hR' := hR H1 (Ex.refl _)
      rcases Nat.mod_two_eq_zero_or_one (m / 2 ^ (k - 1 - i)) with z | z
      · rw [z] at hR' ⊢
        rw [if_neg (by decide), ← b1_zero]
        exact hR'
      · rw [z] at hR' ⊢
        rw [if_pos (by decide), ← b1_one]
        exact hR'
    · intro p H1 hp e1 h1
      refine ⟨_, rfl, (digT m k).map b1, .inl (sq_of (h1.trans ?_)), ?_, ?_⟩
      · simp only [digT, List.map_map]
        rfl
      · rw [List.map_map, sum_const (f := (fun x : Str => x.length) ∘ b1) (c := 1) (fun _ _ => rfl)]
        have : (Str.ofString "").length = 0 := by decide +kernel
        rw [this]
        simp [digT]
        omega
      · rw [join_bits]
        exact q H1 e1
end
end PK


set_option maxHeartbeats 4000000
namespace PK
open PySem PySem.Spec PyProof.Rows L2 Evl
local macro_rules | `(tactic| walk_at "rd") => `(tactic| simp only [tSeq, tAsg, tRet, tIfS, tTest, tOp, tUn, tVar, tC, tCons, tNil, tCB, tHas, gName, rI0, rI, rU, tNext, tNot, tAnd, tOr, tChain, tIf, tB, tNever, tRetN, tDrop, tTup, tLst, tMeth, tMake, tM0, tM1, tBits, tTruI, tBM, gSub, tSl, tNoPart, tPart, gcE, gnE, bs_length, tListRevR, tRg1, tFldE, sFldE, tPar3, cxK, nxK, List.append_nil,
  L2.start, List.map_cons, List.map_nil, List.length_cons, List.length_nil, List.replicate, List.cons_append, List.nil_append, List.getElem?_cons_zero, List.getElem?_cons_succ, List.set_cons_zero, List.set_cons_succ,
  Option.some.injEq, V.int.injEq, V.bl.injEq, V.str.injEq, V.ref.injEq, exists_eq_left', exists_eq_left, exists_and_left, List.cons.injEq, and_true, true_and, eq_self_iff_true, Nat.reduceAdd, Nat.reduceSub, Nat.zero_add])
section
variable {P : Program} {w : World} {K : PySem.W.Frag} {mg : Str → Option Value} {base : Heap} {CF CP CA : Addr}
def spFirstO : Sp := fun vs H Q _ => ∃ (l : List Bool) (j : Nat), vs = [.str (bs l), .int (j : Int)] ∧ l.length ≤ 100 ∧ j ≤ 100 ∧ Q (.str (bs (highB l j))) H
theorem has_first_with_one (T : Top K mg CF CP CA) : Has P w K mg base CX0 1 "first_with_one" ["bits", "more"] spFirstO := by
  refine has0 T.d_first_with_one sc_first_with_one (fun vs H Q E h => by
    repeat (obtain ⟨_, h⟩ := h)
    subst_vars
    rfl) fun f cdv A outer s H vs Q E hr h => ?_
  obtain ⟨l, j, rfl, hl, hj, q⟩ := h
  refine ⟨_, (pss_one (ps_ret (pe_op op_add_str (pe_op op_add_str (pv 0) pe_str) (pe_op op_mulS pe_str (pv 1))))), ?_⟩
  walk_at "rd"
  have hsl := sizeLine_eq
  have e1 : bs l ++ Str.ofString "1" = bs (l ++ [true]) := by rw [← b1_one, ← bs_one, bs_append]
  rw [e1]
  have l0 : (Str.ofString "1").length = 1 := by decide +kernel
  refine ⟨by rw [l0]; omega, 48, j, by decide +kernel, rfl, by omega, _, rfl, ?_, ?_⟩
  · rw [bs_length]
    show _ + ((List.replicate j 48).toArray).size ≤ _
    simp
    omega
  · have e2 : (⟨(List.replicate j 48).toArray⟩ : Str) = bs (List.replicate j false) := by simp [bs]
    rw [e2, bs_append]
    have e3 : l ++ [true] ++ List.replicate j false = highB l j := by simp [highB]
    rw [e3]
    exact q
def spShares : Sp := fun vs H Q _ => ∃ (w : Nat) (l : List Bool), vs = [.int (w : Int), .str (bs l), .int (l.length : Int)] ∧ OkW w ∧ l.length ≤ 4 ∧
  ∀ p H', H p = none → Ex H H' → H' p = some (.tup [.int ((shM w l.length l l.length).1 : Int), .int ((shM w l.length l l.length).2 : Int)]) → Q (.ref p) H'
theorem has_shares (T : Top K mg CF CP CA) : Has P w K mg base CX0 2 "shares" ["width", "bits", "place"] spShares := by
  have G_context := has_context (P := P) (w := w) (base := base) T
  refine has0 T.d_shares sc_shares (fun vs H Q E h => by
    repeat (obtain ⟨_, h⟩ := h)
    subst_vars
    rfl) fun f cdv A outer s H vs Q E hr h => ?_
  obtain ⟨w, l, rfl, hw, hl, q⟩ := h
  refine ⟨_, (pss_cons (ps_set (i := 3) sc_shares.nd rfl (by first | exact .inl rfl | exact .inr rfl) (pe_has G_context (hr.mono (by decide)) (pa_cons (pv 0) (pa_cons (pv 1) (pa_cons (pv 2) pa_nil)))))
      (pss_cons (ps_set (i := 4) sc_shares.nd rfl (by first | exact .inl rfl | exact .inr rfl) pe_int)
      (pss_cons (ps_set (i := 5) sc_shares.nd rfl (by first | exact .inl rfl | exact .inr rfl) pe_int)
      (pss_cons (ps_for PassesOwn.never rfl (pi_range1 rfl T.n_range (pa_cons (pv 2) pa_nil)) (pg_name (i := 6) sc_shares.nd rfl (by first | exact .inl rfl | exact .inr rfl)) (pss_one (ps_if (pt_cmpR op_eq (pe_has G_context (hr.mono (by decide)) (pa_cons (pv 0) (pa_cons (pv 1) (pa_cons (pv 6) pa_nil)))) (pv 3) (nomark _)) (pss_one (ps_if (pt_cmpR op_eq (pe_ix ix_str (pv 1) (pv 6) (fun _ _ => rfl)) pe_str (nomark _)) (pss_one (ps_set (i := 5) sc_shares.nd rfl (by first | exact .inl rfl | exact .inr rfl) (pe_op op_add (pv 5) pe_int))) (pss_one (ps_set (i := 4) sc_shares.nd rfl (by first | exact .inl rfl | exact .inr rfl) (pe_op op_add (pv 4) pe_int))))) pss_nil)))
      (pss_one (ps_ret (pe_tup (pa_cons (pv 4) (pa_cons (pv 5) pa_nil))))))))), ?_⟩
  walk_at "rd"
  refine ⟨w, l.length, l, rfl, hw, Nat.le_refl _, hl, ?_⟩
  refine s_rng (fun Q q => ⟨_, rfl, q⟩) (by omega) (fun i σ H' => H = H' ∧ ∃ v, σ = [some (.int w), some (.str (bs l)), some (.int l.length), some (.int (ctxM w l.length l)), some (.int (shM w l.length l i).1), some (.int (shM w l.length l i).2), v]) ⟨rfl, none, rfl⟩ ?_ ?_
  · rintro i σ H' hi ⟨rfl, v, rfl⟩
    walk_at "rd"
    refine ⟨w, i, l, rfl, hw, by omega, hl, rfl, _, rfl, ?_⟩
    have e : shM w l.length l (i + 1) = if ctxM w i l = ctxM w l.length l then (if l.getD i false = true then ((shM w l.length l i).1, (shM w l.length l i).2 + 1) else ((shM w l.length l i).1 + 1, (shM w l.length l i).2)) else shM w l.length l i := rfl
    by_cases hc : ctxM w i l = ctxM w l.length l
    · rw [if_pos hc] at e
      rw [if_pos (decide_eq_true (by rw [hc]))]
      refine bit_is (j := i) rfl hi hl ?_
      rw [e]
      cases l.getD i false
      · simp
      · simp
    · rw [if_neg hc] at e
      rw [if_neg (by simp; omega), e]
      exact ⟨rfl, rfl, rfl, _, rfl⟩
  · rintro σ H' ⟨rfl, v, rfl⟩
    walk_at "rd"
    exact ⟨by decide, fun p hp => q p _ hp (Ex.new hp) upd_same⟩
def spInterval : Sp := fun vs H Q _ => ∃ (w : Nat) (l : List Bool), vs = [.int (w : Int), .str (bs l)] ∧ OkW w ∧ l.length ≤ 4 ∧
  ∀ p H', H p = none → Ex H H' → H' p = some (.tup [.int (iv w l).low, .int (iv w l).size, .int (iv w l).whole]) → Q (.ref p) H'
theorem has_interval (T : Top K mg CF CP CA) : Has P w K mg base CX0 2 "interval" ["width", "bits"] spInterval := by
  have G_context := has_context (P := P) (w := w) (base := base) T
  refine has0 T.d_interval sc_interval (fun vs H Q E h => by
    repeat (obtain ⟨_, h⟩ := h)
    subst_vars
    rfl) fun f cdv A outer s H vs Q E hr h => ?_
  obtain ⟨w, l, rfl, hw, hl, q⟩ := h
  refine ⟨_, (pss_cons (ps_asg (pe_tup (pa_cons pe_int (pa_cons pe_int (pa_cons pe_int pa_nil)))) (pg_tup rfl (pgs_cons (pg_name (i := 2) sc_interval.nd rfl (by first | exact .inl rfl | exact .inr rfl)) (pgs_cons (pg_name (i := 3) sc_interval.nd rfl (by first | exact .inl rfl | exact .inr rfl)) (pgs_cons (pg_name (i := 4) sc_interval.nd rfl (by first | exact .inl rfl | exact .inr rfl)) pgs_nil)))))
      (pss_cons (ps_set (i := 5) sc_interval.nd rfl (by first | exact .inl rfl | exact .inr rfl) (pe_op op_rep (pe_lst (pa_cons pe_int pa_nil)) pe_int))
      (pss_cons (ps_set (i := 6) sc_interval.nd rfl (by first | exact .inl rfl | exact .inr rfl) (pe_op op_rep (pe_lst (pa_cons pe_int pa_nil)) pe_int))
      (pss_cons (ps_for PassesOwn.never rfl (pi_enumS T.n_enumerate (pa_cons (pv 1) pa_nil)) (pg_tup rfl (pgs_cons (pg_name (i := 7) sc_interval.nd rfl (by first | exact .inl rfl | exact .inr rfl)) (pgs_cons (pg_name (i := 8) sc_interval.nd rfl (by first | exact .inl rfl | exact .inr rfl)) pgs_nil))) (pss_cons (ps_set (i := 9) sc_interval.nd rfl (by first | exact .inl rfl | exact .inr rfl) (pe_has G_context (hr.mono (by decide)) (pa_cons (pv 0) (pa_cons (pv 1) (pa_cons (pv 7) pa_nil)))))
      (pss_cons (ps_set (i := 10) sc_interval.nd rfl (by first | exact .inl rfl | exact .inr rfl) (pe_op op_add (pe_ix ix_list (pv 5) (pv 9) (fun _ _ => rfl)) (pe_ix ix_list (pv 6) (pv 9) (fun _ _ => rfl))))
      (pss_cons (ps_set (i := 2) sc_interval.nd rfl (by first | exact .inl rfl | exact .inr rfl) (pe_op op_mul (pv 2) (pv 10)))
      (pss_cons (ps_set (i := 4) sc_interval.nd rfl (by first | exact .inl rfl | exact .inr rfl) (pe_op op_mul (pv 4) (pv 10)))
      (pss_one (ps_if (pt_cmpR op_eq (pv 8) pe_str (nomark _)) (pss_cons (ps_set (i := 2) sc_interval.nd rfl (by first | exact .inl rfl | exact .inr rfl) (pe_op op_add (pv 2) (pe_op op_mul (pv 3) (pe_ix ix_list (pv 5) (pv 9) (fun _ _ => rfl)))))
      (pss_cons (ps_set (i := 3) sc_interval.nd rfl (by first | exact .inl rfl | exact .inr rfl) (pe_op op_mul (pv 3) (pe_ix ix_list (pv 6) (pv 9) (fun _ _ => rfl))))
      (pss_one (ps_asg (pe_op op_add (pe_ix ix_list (pv 6) (pv 9) (fun _ _ => rfl)) pe_int) (pg_sub (pv 6) (pv 9) set_list))))) (pss_cons (ps_set (i := 3) sc_interval.nd rfl (by first | exact .inl rfl | exact .inr rfl) (pe_op op_mul (pv 3) (pe_ix ix_list (pv 5) (pv 9) (fun _ _ => rfl))))
      (pss_one (ps_asg (pe_op op_add (pe_ix ix_list (pv 5) (pv 9) (fun _ _ => rfl)) pe_int) (pg_sub (pv 5) (pv 9) set_list)))))))))))
      (pss_one (ps_ret (pe_tup (pa_cons (pv 2) (pa_cons (pv 3) (pa_cons (pv 4) pa_nil)))))))))), ?_⟩
  walk_at "rd"
  refine ⟨by decide, fun p hp => gtup (st_of upd_same) rfl ?_⟩
  walk_at "rd"
  refine ⟨by decide, fun p1 hp1 => rep1 (k := 16) upd_same (by omega) fun pz hpz => ⟨by decide, fun p2 hp2 => rep1 (k := 16) upd_same (by omega) fun po hpo => ?_⟩⟩
  have hpz0 : H pz = none := fresh_back ((Ex.new hp).trans (Ex.new hp1)) hpz
  have hpo0 : H po = none := fresh_back ((((Ex.new hp).trans (Ex.new hp1)).trans (Ex.new hpz)).trans (Ex.new hp2)) hpo
  have hne : pz ≠ po := ne_of_none (((Ex.new hp2) _ _ upd_same)) hpo
  refine s_enumBits (fun Q q => ⟨_, rfl, q⟩) (fun i σ H' => Ex H H' ∧ H' pz = some (.lst ((ivM w l i).zs.map .int)) ∧ H' po = some (.lst ((ivM w l i).os.map .int)) ∧
    ∃ v7 v8 v9 v10, σ = [some (.int w), some (.str (bs l)), some (.int (ivM w l i).low), some (.int (ivM w l i).size), some (.int (ivM w l i).whole), some (.ref pz), some (.ref po), v7, v8, v9, v10]) ⟨?_, ?_, ?_, _, _, _, _, rfl⟩ ?_ ?_
  · exact ((((Ex.new hp).trans (Ex.new hp1)).trans (Ex.new hpz)).trans (Ex.new hp2)).trans (Ex.new hpo)
  · rw [upd_ne hne, upd_ne (ne_of_none upd_same hp2), upd_same]
    rfl
  · exact upd_same
  · rintro i b σ H' p3 hb ⟨e1, hz, ho, v7, v8, v9, v10, rfl⟩ hp3
    have hi : i < l.length := (List.getElem?_eq_some_iff.mp hb).1
    have hg : l.getD i false = b := by simp [hb]
    obtain ⟨hgd, hc, _⟩ := good_at (i := i) hw hl (by omega)
    obtain ⟨hb1, hzl, hol, hz10, ho10⟩ := goodIv_iff hgd
    have est : ivM w l (i + 1) = ivStep w l (ivM w l i) i := rfl
    have hpz3 : pz ≠ p3 := ne_of_none hz hp3
    have hpo3 : po ≠ p3 := ne_of_none ho hp3
    walk_at "rd"
    refine ⟨w, i, l, rfl, hw, by omega, hl, ?_⟩
    obtain ⟨z, hz1⟩ : ∃ z, (ivM w l i).zs[ctxM w i l]? = some z := ⟨_, List.getElem?_eq_getElem (by omega)⟩
    obtain ⟨o, ho1⟩ : ∃ o, (ivM w l i).os[ctxM w i l]? = some o := ⟨_, List.getElem?_eq_getElem (by omega)⟩
    have hz2 := hz10 z (List.mem_of_getElem? hz1)
    have ho2 := ho10 o (List.mem_of_getElem? ho1)
    have ez : (ivM w l i).zs.getD (ctxM w i l) 0 = z := by simp [hz1]
    have eo : (ivM w l i).os.getD (ctxM w i l) 0 = o := by simp [ho1]
    have hzM : ((ivM w l i).zs.map V.int)[ctxM w i l]? = some (.int z) := by simp [hz1]
    have hoM : ((ivM w l i).os.map V.int)[ctxM w i l]? = some (.int o) := by simp [ho1]
    have hz3 : (upd H' p3 (.tup [.int i, .str (b1 b)])) pz = some (.lst ((ivM w l i).zs.map .int)) := by rw [upd_ne hpz3]; exact hz
    have ho3 : (upd H' p3 (.tup [.int i, .str (b1 b)])) po = some (.lst ((ivM w l i).os.map .int)) := by rw [upd_ne hpo3]; exact ho
    have e3 : Ex H (upd H' p3 (.tup [.int i, .str (b1 b)])) := e1.trans (Ex.new hp3)
    refine ixL rfl (sq_of hz3) hzM ?_
    refine ixL rfl (sq_of ho3) hoM ?_
    refine ⟨_, rfl, _, rfl, .inl ⟨by omega, by omega⟩, .inl ⟨by omega, by omega⟩, rfl, _, rfl, ?_⟩
    rw [eq_one, est]
    unfold ivStep
    dsimp only
    rw [ez, eo, hg]
    cases b
    · refine iteF (ixL rfl (sq_of hz3) hzM ⟨_, rfl, .inl ⟨by omega, by omega⟩, ixL rfl (sq_of hz3) hzM ⟨_, rfl, setL rfl hz3 (by simp; omega) ⟨Ex.mut e3 hpz0, ?_, ?_, ?_⟩⟩⟩)
      · rw [upd_same]
        simp
      · rw [upd_ne hne.symm]
        simpa using ho3
      · exact ⟨rfl, rfl, rfl, _, rfl⟩
    · refine iteT (ixL rfl (sq_of hz3) hzM ⟨_, rfl, .inl ⟨by omega, by omega⟩, ixL rfl (sq_of ho3) hoM ⟨_, rfl, .inl ⟨by omega, by omega⟩, ixL rfl (sq_of ho3) hoM ⟨_, rfl, setL rfl ho3 (by simp; omega) ⟨Ex.mut e3 hpo0, ?_, ?_, ?_⟩⟩⟩⟩)
      · rw [upd_ne hne]
        simpa using hz3
      · rw [upd_same]
        simp
      · exact ⟨rfl, rfl, rfl, _, rfl⟩
  · rintro σ H' ⟨e1, hz, ho, v7, v8, v9, v10, rfl⟩
    walk_at "rd"
    exact ⟨by decide, fun p3 hp3 => q p3 _ (fresh_back e1 hp3) (e1.trans (Ex.new hp3)) upd_same⟩
end
end PK


set_option maxHeartbeats 4000000
namespace PK
open PySem PySem.Spec PyProof.Rows L2 Evl
local macro_rules | `(tactic| walk_at "rd") => `(tactic| simp only [tSeq, tAsg, tRet, tIfS, tTest, tOp, tUn, tVar, tC, tCons, tNil, tCB, tHas, gName, rI0, rI, rU, tNext, tNot, tAnd, tOr, tChain, tIf, tB, tNever, tRetN, tDrop, tTup, tLst, tMeth, tMake, tM0, tM1, tBits, tTruI, tBM, gSub, tSl, tNoPart, tPart, gcE, gnE, bs_length, tListRevR, tRg1, tFldE, sFldE, tPar3, cxK, nxK, List.append_nil,
  L2.start, List.map_cons, List.map_nil, List.length_cons, List.length_nil, List.replicate, List.cons_append, List.nil_append, List.getElem?_cons_zero, List.getElem?_cons_succ, List.set_cons_zero, List.set_cons_succ,
  Option.some.injEq, V.int.injEq, V.bl.injEq, V.str.injEq, V.ref.injEq, exists_eq_left', exists_eq_left, exists_and_left, List.cons.injEq, and_true, true_and, eq_self_iff_true, Nat.reduceAdd, Nat.reduceSub, Nat.zero_add])
section
variable {P : Program} {w : World} {K : PySem.W.Frag} {mg : Str → Option Value} {base : Heap} {CF CP CA : Addr}
theorem starts_bs (x c : List Bool) : Txt.startswith (bs x) (bs c) = c.isPrefixOf x := by
  have e1 : (bs x).cps.toList = x.map fun b => if b = true then 49 else 48 := by simp [bs]
  have e2 : (bs c).cps.toList = c.map fun b => if b = true then 49 else 48 := by simp [bs]
  have hinj : ∀ a b : Bool, (if a = true then 49 else 48 : Nat) = (if b = true then 49 else 48) → a = b := by decide
  unfold Txt.startswith
  rw [PySem.StrLaws.subAt_eq, List.drop_zero, e1, e2, bs_length, bs_length, Nat.zero_add]
  apply Bool.eq_iff_iff.mpr
  rw [Bool.and_eq_true, decide_eq_true_eq, beq_iff_eq, List.isPrefixOf_iff_prefix, List.prefix_iff_eq_take, ← List.map_take]
  constructor
  · rintro ⟨h1, h2⟩
    exact (bs_inj (l := x.take c.length) (m := c) (congrArg (fun l : List Nat => (⟨l.toArray⟩ : Str)) h2)).symm
  · intro h
    have h3 := congrArg List.length h
    rw [List.length_take] at h3
    exact ⟨by omega, by rw [← h]⟩
theorem code_at {w : Nat} {l : List Bool} (hw : OkW w) (hl : l.length ≤ 4) : startM (iv w l) ≤ kM (iv w l) ∧ kM (iv w l) ≤ 12 ∧ 1 ≤ bitLen ((iv w l).whole.fdiv (iv w l).size).toNat ∧
    ∀ k, startM (iv w l) ≤ k → k ≤ kM (iv w l) → condM (iv w l) k = decide (k = kM (iv w l)) ∧ 0 ≤ firstM (iv w l) k ∧ firstM (iv w l) k ≤ 100000 := by
  have h := List.all_eq_true.mp (List.all_eq_true.mp code_all w hw.mem) l (mem_upB hl)
  simp only [Bool.and_eq_true, decide_eq_true_eq, List.all_eq_true, Bool.or_eq_true] at h
  refine ⟨h.1.1, h.1.2.1, h.1.2.2, fun k h1 h2 => ?_⟩
  rcases h.2 k (List.mem_range.mpr (by omega)) with z | z
  · omega
  · exact ⟨by simpa using z.1, z.2⟩
def spCode : Sp := fun vs H Q _ => ∃ (w : Nat) (l : List Bool), vs = [.int (w : Int), .str (bs l)] ∧ OkW w ∧ l.length ≤ 4 ∧ ∀ H', Ex H H' → Q (.str (bs (codeM w l))) H'
theorem has_code (T : Top K mg CF CP CA) : Has P w K mg base CX0 3 "_code" ["width", "bits"] spCode := by
  have G_interval := has_interval (P := P) (w := w) (base := base) T
  have G_digits_text := has_digits_text (P := P) (w := w) (base := base) T
  refine has0 T.d_code sc_code (fun vs H Q E h => by
    repeat (obtain ⟨_, h⟩ := h)
    subst_vars
    rfl) fun f cdv A outer s H vs Q E hr h => ?_
  obtain ⟨w, l, rfl, hw, hl, q⟩ := h
  refine ⟨_, (pss_cons (ps_asg (pe_has G_interval (hr.mono (by decide)) (pa_cons (pv 0) (pa_cons (pv 1) pa_nil))) (pg_tup rfl (pgs_cons (pg_name (i := 2) sc_code.nd rfl (by first | exact .inl rfl | exact .inr rfl)) (pgs_cons (pg_name (i := 3) sc_code.nd rfl (by first | exact .inl rfl | exact .inr rfl)) (pgs_cons (pg_name (i := 4) sc_code.nd rfl (by first | exact .inl rfl | exact .inr rfl)) pgs_nil)))))
      (pss_cons (ps_set (i := 5) sc_code.nd rfl (by first | exact .inl rfl | exact .inr rfl) (pe_op op_sub (pe_bits (pe_op op_fdivN (pv 4) (pv 3))) pe_int))
      (pss_one (ps_while PassesOwn.never (pt_val pe_bl) (pss_cons (ps_set (i := 6) sc_code.nd rfl (by first | exact .inl rfl | exact .inr rfl) (pe_un un_neg (pe_op op_fdivN (pe_op op_shl (pe_un un_neg (pv 2)) (pv 5)) (pv 4))))
      (pss_cons (ps_if (pt_cmpR op_le (pe_op op_mul (pe_op op_add (pv 6) pe_int) (pv 4)) (pe_op op_shl (pe_op op_add (pv 2) (pv 3)) (pv 5)) (nomark _)) (pss_one (ps_ret (pe_has G_digits_text (hr.mono (by decide)) (pa_cons (pv 6) (pa_cons (pv 5) pa_nil))))) pss_nil)
      (pss_one (ps_set (i := 5) sc_code.nd rfl (by first | exact .inl rfl | exact .inr rfl) (pe_op op_add (pv 5) pe_int))))))))), ?_⟩
  walk_at "rd"
  obtain ⟨c1, c2, c3, c4⟩ := code_at hw hl
  obtain ⟨hgd, _, _⟩ := good_at (i := l.length) hw hl (Nat.le_refl _)
  obtain ⟨hb1, _⟩ := goodIv_iff hgd
  change (0 ≤ (iv w l).low ∧ (iv w l).low ≤ 1000 ∧ 1 ≤ (iv w l).size ∧ (iv w l).size ≤ (iv w l).whole ∧ (iv w l).whole ≤ 1000) at hb1
  refine ⟨w, l, rfl, hw, hl, fun p H1 hp e1 h1 => gtup (st_of h1) rfl ?_⟩
  walk_at "rd"
  have e0 : ((Builtin.Int.intBits ((iv w l).whole.fdiv (iv w l).size)) : Int) - 1 = (startM (iv w l) : Nat) := by
    have hx : 0 ≤ (iv w l).whole.fdiv (iv w l).size := Int.fdiv_nonneg (by omega) (by omega)
    obtain ⟨x, ex⟩ := Int.eq_ofNat_of_zero_le hx
    unfold startM
    rw [ex] at c3 ⊢
    rw [Int.toNat_natCast] at c3 ⊢
    have e : Builtin.Int.intBits (x : Int) = bitLen x := by
      unfold Builtin.Int.intBits bitLen
      by_cases h0 : x = 0
      · subst h0; rfl
      · have h1 : ¬ ((x : Int) == 0) = true := by simpa using h0
        rw [if_neg h1, if_neg h0, Int.natAbs_natCast]
    rw [e]
    omega
  rw [e0]
  refine ⟨⟨by omega, by omega⟩, s_forever (kM (iv w l) - startM (iv w l)) (fun i σ H' => H1 = H' ∧ ∃ v6, σ = [some (.int w), some (.str (bs l)), some (.int (iv w l).low), some (.int (iv w l).size), some (.int (iv w l).whole), some (.int (startM (iv w l) + i : Nat)), v6]) ⟨rfl, none, rfl⟩ ?_⟩
  rintro i σ H' hi ⟨rfl, v6, rfl⟩
  walk_at "rd"
  obtain ⟨d1, d2, d3⟩ := c4 (startM (iv w l) + i) (by omega) (by omega)
  have hk : startM (iv w l) + i ≤ 12 := by omega
  have hf : -((-(iv w l).low * 2 ^ ((startM (iv w l) + i : Nat) : Int).toNat).fdiv (iv w l).whole) = firstM (iv w l) (startM (iv w l) + i) := by
    rw [Int.toNat_natCast]; rfl
  have hcd : decide ((firstM (iv w l) (startM (iv w l) + i) + 1) * (iv w l).whole ≤ ((iv w l).low + (iv w l).size) * 2 ^ ((startM (iv w l) + i : Nat) : Int).toNat) = condM (iv w l) (startM (iv w l) + i) := by
    rw [Int.toNat_natCast]; rfl
  rw [hf, hcd, d1]
  refine ⟨⟨by omega, by omega, by omega⟩, ⟨by omega, by omega⟩, .inl ⟨by omega, by omega⟩, ⟨by omega, by omega, by omega⟩, ?_⟩
  by_cases hq : startM (iv w l) + i = kM (iv w l)
  · rw [if_pos (decide_eq_true hq)]
    refine ⟨(firstM (iv w l) (startM (iv w l) + i)).toNat, startM (iv w l) + i, by rw [Int.toNat_of_nonneg d2], by omega, fun H2 e2 => ?_⟩
    rw [hq]
    exact q H2 (e1.trans e2)
  · rw [if_neg (by simpa using hq)]
    exact ⟨by omega, by omega, _, rfl⟩
def spEncode : Sp := spCode
theorem has_encode (T : Top K mg CF CP CA) : Has P w K mg base CX0 4 "encode" ["width", "bits"] spEncode := by
  have G_check_width := has_check_width (P := P) (w := w) (base := base) T
  have G_check_bits := has_check_bits (P := P) (w := w) (base := base) T
  have G_code := has_code (P := P) (w := w) (base := base) T
  refine has0 T.d_encode sc_encode (fun vs H Q E h => by
    repeat (obtain ⟨_, h⟩ := h)
    subst_vars
    rfl) fun f cdv A outer s H vs Q E hr h => ?_
  obtain ⟨w, l, rfl, hw, hl, q⟩ := h
  refine ⟨_, (pss_cons (ps_expr (pe_has G_check_width (hr.mono (by decide)) (pa_cons (pv 0) pa_nil)))
      (pss_cons (ps_expr (pe_has G_check_bits (hr.mono (by decide)) (pa_cons (pv 1) pa_nil)))
      (pss_one (ps_ret (pe_has G_code (hr.mono (by decide)) (pa_cons (pv 0) (pa_cons (pv 1) pa_nil))))))), ?_⟩
  walk_at "rd"
  refine ⟨w, rfl, hw, ?_⟩
  refine ⟨l, rfl, by omega, ?_⟩
  exact ⟨w, l, rfl, hw, hl, q⟩
def spOpens : Sp := fun vs H Q _ => ∃ (w : Nat) (c l : List Bool), vs = [.int (w : Int), .str (bs c), .str (bs l)] ∧ OkW w ∧ l.length ≤ 4 ∧ ∀ H', Ex H H' → Q (.bl (opensM w c l)) H'
theorem has_opens (T : Top K mg CF CP CA) : Has P w K mg base CX0 4 "opens" ["width", "code", "bits"] spOpens := by
  have G_code := has_code (P := P) (w := w) (base := base) T
  refine has0 T.d_opens sc_opens (fun vs H Q E h => by
    repeat (obtain ⟨_, h⟩ := h)
    subst_vars
    rfl) fun f cdv A outer s H vs Q E hr h => ?_
  obtain ⟨w, c, l, rfl, hw, hl, q⟩ := h
  refine ⟨_, (pss_one (ps_ret (pe_m1 PySem.F.slot_str_startswith PySem.F.type_str_startswith mt_startswith (pe_has G_code (hr.mono (by decide)) (pa_cons (pv 0) (pa_cons (pv 2) pa_nil))) (pv 1)))), ?_⟩
  walk_at "rd"
  refine ⟨w, l, rfl, hw, hl, fun H1 e1 => ?_⟩
  exact ⟨⟨_, rfl⟩, _, rfl, by rw [starts_bs]; exact q H1 e1⟩
end
end PK


set_option maxHeartbeats 4000000
namespace PK
open PySem PySem.Spec PyProof.Rows L2 Evl
local macro_rules | `(tactic| walk_at "rd") => `(tactic| simp only [tSeq, tAsg, tRet, tIfS, tTest, tOp, tUn, tVar, tC, tCons, tNil, tCB, tHas, gName, rI0, rI, rU, tNext, tNot, tAnd, tOr, tChain, tIf, tB, tNever, tRetN, tDrop, tTup, tLst, tMeth, tMake, tM0, tM1, tBits, tTruI, tBM, gSub, tSl, tNoPart, tPart, gcE, gnE, bs_length, tListRevR, tRg1, tFldE, sFldE, tPar3, cxK, nxK, List.append_nil,
  L2.start, List.map_cons, List.map_nil, List.length_cons, List.length_nil, List.replicate, List.cons_append, List.nil_append, List.getElem?_cons_zero, List.getElem?_cons_succ, List.set_cons_zero, List.set_cons_succ,
  Option.some.injEq, V.int.injEq, V.bl.injEq, V.str.injEq, V.ref.injEq, exists_eq_left', exists_eq_left, exists_and_left, List.cons.injEq, and_true, true_and, eq_self_iff_true, Nat.reduceAdd, Nat.reduceSub, Nat.zero_add])
section
variable {P : Program} {w : World} {K : PySem.W.Frag} {mg : Str → Option Value} {base : Heap} {CF CP CA : Addr}
def nbS : Nat → Str
  | 0 => Str.ofString "0"
  | 1 => Str.ofString "1"
  | 2 => Str.ofString "?"
  | _ => Str.ofString ""
theorem lowB_len {p : List Bool} {j : Nat} : (lowB p j).length = p.length + 1 + j := by simp [lowB]; omega
theorem highB_len {p : List Bool} {j : Nat} : (highB p j).length = p.length + 1 + j := by simp [highB]; omega
def spNext : Sp := fun vs H Q _ => ∃ (w m : Nat) (c p : List Bool), vs = [.int (w : Int), .int (m : Int), .str (bs c), .str (bs p)] ∧ OkW w ∧ m ≤ 4 ∧ p.length < m ∧ c.length ≤ 16 ∧ ∀ H', Ex H H' → Q (.str (nbS (nbM w m c p))) H'
theorem has_next_bit (T : Top K mg CF CP CA) : Has P w K mg base CX0 5 "_next_bit" ["width", "count", "code", "bits"] spNext := by
  have G_interval := has_interval (P := P) (w := w) (base := base) T
  have G_shares := has_shares (P := P) (w := w) (base := base) T
  have G_digits_value := has_digits_value (P := P) (w := w) (base := base) T
  have G_opens := has_opens (P := P) (w := w) (base := base) T
  have G_last_with_zero := has_last_with_zero (P := P) (w := w) (base := base) T
  have G_first_with_one := has_first_with_one (P := P) (w := w) (base := base) T
  refine has0 T.d_next_bit sc_next_bit (fun vs H Q E h => by
    repeat (obtain ⟨_, h⟩ := h)
    subst_vars
    rfl) fun f cdv A outer s H vs Q E hr h => ?_
  obtain ⟨w, m, c, p, rfl, hw, hm, hp, hc, q⟩ := h
  refine ⟨_, (pss_cons (ps_asg (pe_has G_interval (hr.mono (by decide)) (pa_cons (pv 0) (pa_cons (pv 3) pa_nil))) (pg_tup rfl (pgs_cons (pg_name (i := 4) sc_next_bit.nd rfl (by first | exact .inl rfl | exact .inr rfl)) (pgs_cons (pg_name (i := 5) sc_next_bit.nd rfl (by first | exact .inl rfl | exact .inr rfl)) (pgs_cons (pg_name (i := 6) sc_next_bit.nd rfl (by first | exact .inl rfl | exact .inr rfl)) pgs_nil)))))
      (pss_cons (ps_asg (pe_has G_shares (hr.mono (by decide)) (pa_cons (pv 0) (pa_cons (pv 3) (pa_cons (pe_callB call_len_str rfl T.n_len boot_len (pa_cons (pv 3) pa_nil)) pa_nil)))) (pg_tup rfl (pgs_cons (pg_name (i := 7) sc_next_bit.nd rfl (by first | exact .inl rfl | exact .inr rfl)) (pgs_cons (pg_name (i := 8) sc_next_bit.nd rfl (by first | exact .inl rfl | exact .inr rfl)) pgs_nil))))
      (pss_cons (ps_set (i := 9) sc_next_bit.nd rfl (by first | exact .inl rfl | exact .inr rfl) (pe_op op_add (pe_op op_mul (pv 4) (pe_op op_add (pv 7) (pv 8))) (pe_op op_mul (pv 5) (pv 7))))
      (pss_cons (ps_set (i := 6) sc_next_bit.nd rfl (by first | exact .inl rfl | exact .inr rfl) (pe_op op_mul (pv 6) (pe_op op_add (pv 7) (pv 8))))
      (pss_cons (ps_set (i := 10) sc_next_bit.nd rfl (by first | exact .inl rfl | exact .inr rfl) (pe_has G_digits_value (hr.mono (by decide)) (pa_cons (pv 2) pa_nil)))
      (pss_cons (ps_if (pt_cmpR op_le (pe_op op_mul (pe_op op_add (pv 10) pe_int) (pv 6)) (pe_op op_shl (pv 9) (pe_callB call_len_str rfl T.n_len boot_len (pa_cons (pv 2) pa_nil))) (nomark _)) (pss_one (ps_ret pe_str)) pss_nil)
      (pss_cons (ps_if (pt_cmpR op_le (pe_op op_shl (pv 9) (pe_callB call_len_str rfl T.n_len boot_len (pa_cons (pv 2) pa_nil))) (pe_op op_mul (pv 10) (pv 6)) (nomark _)) (pss_one (ps_ret pe_str)) pss_nil)
      (pss_cons (ps_set (i := 11) sc_next_bit.nd rfl (by first | exact .inl rfl | exact .inr rfl) (pe_op op_sub (pe_op op_sub (pv 1) (pe_callB call_len_str rfl T.n_len boot_len (pa_cons (pv 3) pa_nil))) pe_int))
      (pss_cons (ps_set (i := 12) sc_next_bit.nd rfl (by first | exact .inl rfl | exact .inr rfl) (pe_has G_opens (hr.mono (by decide)) (pa_cons (pv 0) (pa_cons (pv 2) (pa_cons (pe_has G_last_with_zero (hr.mono (by decide)) (pa_cons (pv 3) (pa_cons (pv 11) pa_nil))) pa_nil)))))
      (pss_cons (ps_set (i := 13) sc_next_bit.nd rfl (by first | exact .inl rfl | exact .inr rfl) (pe_has G_opens (hr.mono (by decide)) (pa_cons (pv 0) (pa_cons (pv 2) (pa_cons (pe_has G_first_with_one (hr.mono (by decide)) (pa_cons (pv 3) (pa_cons (pv 11) pa_nil))) pa_nil)))))
      (pss_cons (ps_if (PW.pt (pw_and (pt_val (pv 12)) (pw_and1 (pt_val (pv 13))))) (pss_one (ps_ret pe_str)) pss_nil)
      (pss_cons (ps_if (pt_val (pv 12)) (pss_one (ps_ret pe_str)) pss_nil)
      (pss_one (ps_ret (pe_ifExp (pt_val (pv 13)) pe_str pe_str))))))))))))))), ?_⟩
  walk_at "rd"
  obtain ⟨hgd, _, hs1, hs2⟩ := good_at (i := p.length) (l := p) hw (by omega) (Nat.le_refl _)
  obtain ⟨hb1, _⟩ := goodIv_iff hgd
  change (0 ≤ (iv w p).low ∧ (iv w p).low ≤ 1000 ∧ 1 ≤ (iv w p).size ∧ (iv w p).size ≤ (iv w p).whole ∧ (iv w p).whole ≤ 1000) at hb1
  refine ⟨w, p, rfl, hw, by omega, fun a1 H1 ha1 e1 h1 => gtup (st_of h1) rfl ?_⟩
  walk_at "rd"
  have hz : ∀ {l : List Bool}, l.length ≤ 1000 → l.length ≤ sizeLine := fun h => sz_of (by omega)
  refine ⟨hz (by omega), w, p, rfl, hw, by omega, fun a2 H2 ha2 e2 h2 => gtup (st_of h2) rfl ?_⟩
  walk_at "rd"
  generalize hZ : ((shM w p.length p p.length).1 : Int) = Z
  generalize hO : ((shM w p.length p p.length).2 : Int) = O
  have hZ1 : 0 ≤ Z ∧ Z ≤ 10 := by omega
  have hO1 : 0 ≤ O ∧ O ≤ 10 := by omega
  have hnb : nbM w m c p = if ((valM c : Int) + 1) * ((iv w p).whole * (Z + O)) ≤ ((iv w p).low * (Z + O) + (iv w p).size * Z) * 2 ^ c.length then 0
    else if ((iv w p).low * (Z + O) + (iv w p).size * Z) * 2 ^ c.length ≤ (valM c : Int) * ((iv w p).whole * (Z + O)) then 1
    else if (opensM w c (lowB p (m - p.length - 1)) && opensM w c (highB p (m - p.length - 1))) = true then 2 else if opensM w c (lowB p (m - p.length - 1)) = true then 0 else if opensM w c (highB p (m - p.length - 1)) = true then 1 else 3 := by
    unfold nbM
    rw [hZ, hO]
  have w1 : (iv w p).low * (Z + O) ≤ 1000 * 20 := Int.mul_le_mul (by omega) (by omega) (by omega) (by omega)
  have w2 : 0 ≤ (iv w p).low * (Z + O) := Int.mul_nonneg (by omega) (by omega)
  have w3 : (iv w p).size * Z ≤ 1000 * 10 := Int.mul_le_mul (by omega) (by omega) (by omega) (by omega)
  have w4 : 0 ≤ (iv w p).size * Z := Int.mul_nonneg (by omega) (by omega)
  have w5 : (iv w p).whole * (Z + O) ≤ 1000 * 20 := Int.mul_le_mul (by omega) (by omega) (by omega) (by omega)
  have w6 : 0 ≤ (iv w p).whole * (Z + O) := Int.mul_nonneg (by omega) (by omega)
  generalize hB : (iv w p).low * (Z + O) + (iv w p).size * Z = B at hnb ⊢
  generalize hW : (iv w p).whole * (Z + O) = W at hnb w5 w6 ⊢
  refine ⟨.inr ⟨by omega, by omega⟩, .inr ⟨by omega, by omega⟩, .inr ⟨by omega, by omega⟩, ⟨c, rfl, by omega, ?_⟩⟩
  walk_at "rd"
  refine ⟨.inr ⟨by omega, by omega⟩, hz (by omega), ⟨by omega, by omega, by omega⟩, ?_⟩
  rw [Int.toNat_natCast]
  have e12 := e1.trans e2
  by_cases hA : ((valM c : Int) + 1) * W ≤ B * 2 ^ c.length
  · rw [if_pos (decide_eq_true hA)]
    rw [if_pos hA] at hnb
    have := q H2 e12
    rw [hnb] at this
    exact this
  rw [if_neg (by simpa using hA)]
  rw [if_neg hA] at hnb
  refine ⟨hz (by omega), ⟨by omega, by omega, by omega⟩, .inr ⟨by omega, by omega⟩, ?_⟩
  by_cases hA2 : B * 2 ^ c.length ≤ (valM c : Int) * W
  · rw [if_pos (decide_eq_true hA2)]
    rw [if_pos hA2] at hnb
    have := q H2 e12
    rw [hnb] at this
    exact this
  rw [if_neg (by simpa using hA2)]
  rw [if_neg hA2] at hnb
  have em : (m : Int) - (p.length : Int) - 1 = ((m - p.length - 1 : Nat) : Int) := by omega
  rw [em]
  generalize hla : opensM w c (lowB p (m - p.length - 1)) = la at hnb
  generalize hlb : opensM w c (highB p (m - p.length - 1)) = lb at hnb
  refine ⟨hz (by omega), p, m - p.length - 1, rfl, by omega, by omega, w, c, lowB p (m - p.length - 1), rfl, hw, by rw [lowB_len]; omega, fun H3 e3 => ?_⟩
  rw [hla]
  walk_at "rd"
  refine ⟨p, m - p.length - 1, rfl, by omega, by omega, w, c, highB p (m - p.length - 1), rfl, hw, by rw [highB_len]; omega, fun H4 e4 => ?_⟩
  rw [hlb]
  have q4 := q H4 ((e12.trans e3).trans e4)
  rw [hnb] at q4
  walk_at "rd"
  cases la <;> cases lb <;> exact q4
def optS (o : Option (List Bool)) : V := match o with
  | some l => .str (bs l)
  | none => .non
theorem fpGo_len {w m : Nat} {c : List Bool} : ∀ {f : Nat} {p q : List Bool}, fpGo w m c f p = some q → q.length ≤ p.length + f
  | 0, p, q, h => by
    unfold fpGo at h
    split at h
    · cases h; omega
    · cases h
  | f + 1, p, q, h => by
    unfold fpGo at h
    split at h
    · have := fpGo_len h; simp at this; omega
    · have := fpGo_len h; simp at this; omega
    · cases h; omega
    · cases h
theorem fpM_len {w m : Nat} {c q : List Bool} (h : fpM w m c = some q) : q.length ≤ m := by
  unfold fpM at h
  split at h
  · cases h
  · simpa using fpGo_len h
def spFind : Sp := fun vs H Q _ => ∃ (w m : Nat) (c : List Bool), vs = [.int (w : Int), .int (m : Int), .str (bs c)] ∧ OkW w ∧ m ≤ 4 ∧ c.length ≤ 16 ∧ ∀ H', Ex H H' → Q (optS (fpM w m c)) H'
theorem has_find_prefix (T : Top K mg CF CP CA) : Has P w K mg base CX0 6 "find_prefix" ["width", "count", "code"] spFind := by
  have G_next_bit := has_next_bit (P := P) (w := w) (base := base) T
  have G_opens := has_opens (P := P) (w := w) (base := base) T
  refine has0 T.d_find_prefix sc_find_prefix (fun vs H Q E h => by
    repeat (obtain ⟨_, h⟩ := h)
    subst_vars
    rfl) fun f cdv A outer s H vs Q E hr h => ?_
  obtain ⟨w, m, c, rfl, hw, hm, hc, q⟩ := h
  refine ⟨_, (pss_cons (ps_if (pt_cmpR op_ge (pe_op op_mul pe_int (pe_callB call_len_str rfl T.n_len boot_len (pa_cons (pv 2) pa_nil))) (pe_op op_add (pe_op op_mul pe_int (pv 1)) pe_int) (nomark _)) (pss_one (ps_ret pe_non)) pss_nil)
      (pss_cons (ps_set (i := 3) sc_find_prefix.nd rfl (by first | exact .inl rfl | exact .inr rfl) pe_str)
      (pss_cons (ps_for PassesOwn.never rfl (pi_range1 rfl T.n_range (pa_cons (pv 1) pa_nil)) (pg_name (i := 4) sc_find_prefix.nd rfl (by first | exact .inl rfl | exact .inr rfl)) (pss_cons (ps_set (i := 5) sc_find_prefix.nd rfl (by first | exact .inl rfl | exact .inr rfl) (pe_has G_next_bit (hr.mono (by decide)) (pa_cons (pv 0) (pa_cons (pv 1) (pa_cons (pv 2) (pa_cons (pv 3) pa_nil))))))
      (pss_cons (ps_if (pt_cmpR op_eq (pv 5) pe_str (nomark _)) (pss_one (ps_ret (pv 3))) pss_nil)
      (pss_cons (ps_if (pt_cmpR op_eq (pv 5) pe_str (nomark _)) (pss_one (ps_ret pe_non)) pss_nil)
      (pss_one (ps_set (i := 3) sc_find_prefix.nd rfl (by first | exact .inl rfl | exact .inr rfl) (pe_op op_add_str (pv 3) (pv 5))))))))
      (pss_one (ps_ret (pe_ifExp (pt_val (pe_has G_opens (hr.mono (by decide)) (pa_cons (pv 0) (pa_cons (pv 2) (pa_cons (pv 3) pa_nil))))) (pv 3) pe_non)))))), ?_⟩
  walk_at "rd"
  refine ⟨sz_of (by omega), .inl ⟨by decide, by decide⟩, .inl ⟨by decide, by decide⟩, ?_⟩
  rw [if_neg (by simp; omega)]
  have e0 : fpM w m c = fpGo w m c m [] := by
    unfold fpM
    rw [if_neg (by omega)]
  rw [e0] at q
  clear e0
  generalize hGG : fpGo w m c m [] = GG at q
  refine s_rng (fun Q q => ⟨_, rfl, q⟩) (by omega) (fun i σ H' => Ex H H' ∧ ∃ p v4 v5, p.length = i ∧ GG = fpGo w m c (m - i) p ∧ σ = [some (.int w), some (.int m), some (.str (bs c)), some (.str (bs p)), v4, v5]) ⟨Ex.refl H, [], none, none, rfl, hGG.symm, ?_⟩ ?_ ?_
  · rw [bs_nil]
  · rintro i σ H' hi ⟨e1, p, v4, v5, hp, hg, rfl⟩
    walk_at "rd"
    refine ⟨w, m, c, p, rfl, hw, hm, by omega, hc, fun H1 e2 => ?_⟩
    have em : m - i = (m - (i + 1)) + 1 := by omega
    rw [em] at hg
    unfold fpGo at hg
    generalize hn : nbM w m c p = n at hg ⊢
    have e3 := e1.trans e2
    have q1 := q H1 e3
    match n, hn, hg with
    | 0, hn, hg =>
      refine ⟨rfl, _, rfl, ?_⟩
      rw [if_neg (by decide +kernel)]
      refine ⟨rfl, _, rfl, ?_⟩
      rw [if_neg (by decide +kernel)]
      have e4 : nbS 0 = bs [false] := by decide +kernel
      rw [e4]
      exact ⟨_, rfl, by rw [bs_length]; simp; exact sz_of (by omega), e3, p ++ [false], by simp [hp], hg, bs_append _ _, _, rfl⟩
    | 1, hn, hg =>
      refine ⟨rfl, _, rfl, ?_⟩
      rw [if_neg (by decide +kernel)]
      refine ⟨rfl, _, rfl, ?_⟩
      rw [if_neg (by decide +kernel)]
      have e4 : nbS 1 = bs [true] := by decide +kernel
      rw [e4]
      exact ⟨_, rfl, by rw [bs_length]; simp; exact sz_of (by omega), e3, p ++ [true], by simp [hp], hg, bs_append _ _, _, rfl⟩
    | 2, hn, hg =>
      refine ⟨rfl, _, rfl, ?_⟩
      rw [if_pos (by decide +kernel)]
      rw [hg] at q1
      exact q1
    | n + 3, hn, hg =>
      have e4 : nbS (n + 3) = Str.ofString "" := rfl
      rw [e4]
      refine ⟨rfl, _, rfl, ?_⟩
      rw [if_neg (by decide +kernel)]
      refine ⟨rfl, _, rfl, ?_⟩
      rw [if_pos (by decide +kernel)]
      rw [hg] at q1
      exact q1
  · rintro σ H' ⟨e1, p, v4, v5, hp, hg, rfl⟩
    walk_at "rd"
    refine ⟨w, c, p, rfl, hw, by omega, fun H1 e2 => ?_⟩
    rw [Nat.sub_self] at hg
    unfold fpGo at hg
    have := q H1 (e1.trans e2)
    rw [hg] at this
    cases ho : opensM w c p
    · rw [ho] at this
      exact ⟨_, rfl, this⟩
    · rw [ho] at this
      exact ⟨_, rfl, this⟩
end
end PK


set_option maxHeartbeats 4000000
namespace PK
open PySem PySem.Spec PyProof.Rows L2 Evl
local macro_rules | `(tactic| walk_at "rd") => `(tactic| simp only [tSeq, tAsg, tRet, tIfS, tTest, tOp, tUn, tVar, tC, tCons, tNil, tCB, tHas, gName, rI0, rI, rU, tNext, tNot, tAnd, tOr, tChain, tIf, tB, tNever, tRetN, tDrop, tTup, tLst, tMeth, tMake, tM0, tM1, tBits, tTruI, tBM, gSub, tSl, tNoPart, tPart, gcE, gnE, bs_length, tListRevR, tRg1, tFldE, sFldE, tPar3, cxK, nxK, List.append_nil,
  L2.start, List.map_cons, List.map_nil, List.length_cons, List.length_nil, List.replicate, List.cons_append, List.nil_append, List.getElem?_cons_zero, List.getElem?_cons_succ, List.set_cons_zero, List.set_cons_succ,
  Option.some.injEq, V.int.injEq, V.bl.injEq, V.str.injEq, V.ref.injEq, exists_eq_left', exists_eq_left, exists_and_left, List.cons.injEq, and_true, true_and, eq_self_iff_true, Nat.reduceAdd, Nat.reduceSub, Nat.zero_add])
section
variable {P : Program} {w : World} {K : PySem.W.Frag} {mg : Str → Option Value} {base : Heap} {CF CP CA : Addr}
theorem bsZ (p : List Bool) : bs p ++ Str.ofString "0" = bs (p ++ [false]) := by rw [← b1_zero, ← bs_one, bs_append]
theorem bsO (p : List Bool) : bs p ++ Str.ofString "1" = bs (p ++ [true]) := by rw [← b1_one, ← bs_one, bs_append]
theorem lenZ : (Str.ofString "0").length = 1 := by decide +kernel
theorem lenO : (Str.ofString "1").length = 1 := by decide +kernel
theorem non_str (s : Str) : ¬ (decide (V.str s = V.non) = true) := by simp
theorem optS_some (p : List Bool) : optS (some p) = .str (bs p) := rfl
theorem iteT' {c : Bool} {A B : Prop} (h : c = true) (q : A) : if c = true then A else B := by rw [if_pos h]; exact q
theorem iteF' {c : Bool} {A B : Prop} (h : ¬ c = true) (q : B) : if c = true then A else B := by rw [if_neg h]; exact q
def spKnownP : Sp := spFind
theorem has_known_prefix (T : Top K mg CF CP CA) : Has P w K mg base CX0 7 "known_prefix" ["width", "count", "code"] spKnownP := by
  have G_check_width := has_check_width (P := P) (w := w) (base := base) T
  have G_check_count := has_check_count (P := P) (w := w) (base := base) T
  have G_check_code := has_check_code (P := P) (w := w) (base := base) T
  have G_find_prefix := has_find_prefix (P := P) (w := w) (base := base) T
  refine has0 T.d_known_prefix sc_known_prefix (fun vs H Q E h => by
    repeat (obtain ⟨_, h⟩ := h)
    subst_vars
    rfl) fun f cdv A outer s H vs Q E hr h => ?_
  obtain ⟨w, m, c, rfl, hw, hm, hc, q⟩ := h
  refine ⟨_, (pss_cons (ps_expr (pe_has G_check_width (hr.mono (by decide)) (pa_cons (pv 0) pa_nil)))
      (pss_cons (ps_expr (pe_has G_check_count (hr.mono (by decide)) (pa_cons (pv 1) pa_nil)))
      (pss_cons (ps_expr (pe_has G_check_code (hr.mono (by decide)) (pa_cons (pv 2) pa_nil)))
      (pss_one (ps_ret (pe_has G_find_prefix (hr.mono (by decide)) (pa_cons (pv 0) (pa_cons (pv 1) (pa_cons (pv 2) pa_nil))))))))), ?_⟩
  walk_at "rd"
  exact ⟨w, rfl, hw, m, rfl, by omega, c, rfl, by omega, w, m, c, rfl, hw, hm, hc, q⟩
def knS (p : List Bool) (n : Nat) : Str := bs p ++ ⟨(List.replicate n 63).toArray⟩
def spKnown : Sp := fun vs H Q _ => ∃ (w m : Nat) (c p : List Bool), vs = [.int (w : Int), .int (m : Int), .str (bs c)] ∧ OkW w ∧ m ≤ 4 ∧ c.length ≤ 16 ∧ fpM w m c = some p ∧ ∀ H', Ex H H' → Q (.str (knS p (m - p.length))) H'
theorem has_known (T : Top K mg CF CP CA) : Has P w K mg base CX0 8 "known" ["width", "count", "code"] spKnown := by
  have G_known_prefix := has_known_prefix (P := P) (w := w) (base := base) T
  refine has0 T.d_known sc_known (fun vs H Q E h => by
    repeat (obtain ⟨_, h⟩ := h)
    subst_vars
    rfl) fun f cdv A outer s H vs Q E hr h => ?_
  obtain ⟨w, m, c, p, rfl, hw, hm, hc, hp, q⟩ := h
  refine ⟨_, (pss_cons (ps_set (i := 3) sc_known.nd rfl (by first | exact .inl rfl | exact .inr rfl) (pe_has G_known_prefix (hr.mono (by decide)) (pa_cons (pv 0) (pa_cons (pv 1) (pa_cons (pv 2) pa_nil)))))
      (pss_cons (ps_if (pt_cmpR op_isN (pv 3) pe_non (nomark _)) (pss_one (ps_ret pe_non)) pss_nil)
      (pss_one (ps_ret (pe_op op_add_str (pv 3) (pe_op op_mulS pe_str (pe_op op_sub (pv 1) (pe_callB call_len_str rfl T.n_len boot_len (pa_cons (pv 3) pa_nil))))))))), ?_⟩
  walk_at "rd"
  refine ⟨w, m, c, rfl, hw, hm, hc, fun H1 e1 => ?_⟩
  have hpl := fpM_len hp
  rw [hp, optS_some]
  walk_at "rd"
  rw [if_neg (non_str _)]
  have e2 : (m : Int) - ((bs p).length : Int) = ((m - p.length : Nat) : Int) := by rw [bs_length]; omega
  rw [bs_length] at e2
  rw [e2]
  refine ⟨sz_of (by omega), 63, m - p.length, by decide +kernel, rfl, by omega, _, rfl, ?_, q H1 e1⟩
  show _ + ((List.replicate (m - p.length) 63).toArray).size ≤ _
  rw [List.size_toArray, List.length_replicate]
  exact sz_of (by omega)
def spManyLow : Sp := fun vs H Q _ => ∃ (w j : Nat) (c p : List Bool), vs = [.int (w : Int), .str (bs c), .str (bs p), .int (j : Int)] ∧ OkW w ∧ p.length + j ≤ 4 ∧ ∀ H', Ex H H' → Q (.int (mlM w c j p 1 : Nat)) H'
theorem has_many_low (T : Top K mg CF CP CA) : Has P w K mg base CX0 5 "_many_low" ["width", "code", "bits", "more"] spManyLow := by
  have G_opens := has_opens (P := P) (w := w) (base := base) T
  have G_last_with_zero := has_last_with_zero (P := P) (w := w) (base := base) T
  refine has0 T.d_many_low sc_many_low (fun vs H Q E h => by
    repeat (obtain ⟨_, h⟩ := h)
    subst_vars
    rfl) fun f cdv A outer s H vs Q E hr h => ?_
  obtain ⟨w, j, c, p, rfl, hw, hj, q⟩ := h
  refine ⟨_, (pss_cons (ps_set (i := 4) sc_many_low.nd rfl (by first | exact .inl rfl | exact .inr rfl) pe_int)
      (pss_cons (ps_for PassesOwn.never rfl (pi_revR rfl T.n_reversed (prg_1 rfl T.n_range (pv 3))) (pg_name (i := 5) sc_many_low.nd rfl (by first | exact .inl rfl | exact .inr rfl)) (pss_one (ps_if (pt_val (pe_has G_opens (hr.mono (by decide)) (pa_cons (pv 0) (pa_cons (pv 1) (pa_cons (pe_has G_last_with_zero (hr.mono (by decide)) (pa_cons (pv 2) (pa_cons (pv 5) pa_nil))) pa_nil))))) (pss_cons (ps_set (i := 4) sc_many_low.nd rfl (by first | exact .inl rfl | exact .inr rfl) (pe_op op_add (pv 4) (pe_op op_shl pe_int (pv 5))))
      (pss_one (ps_set (i := 2) sc_many_low.nd rfl (by first | exact .inl rfl | exact .inr rfl) (pe_op op_add_str (pv 2) pe_str)))) (pss_one (ps_set (i := 2) sc_many_low.nd rfl (by first | exact .inl rfl | exact .inr rfl) (pe_op op_add_str (pv 2) pe_str))))))
      (pss_one (ps_ret (pv 4))))), ?_⟩
  walk_at "rd"
  generalize hG : mlM w c j p 1 = G at q
  refine s_rev (fun Q q => ⟨_, rfl, q⟩) (by omega) (fun i σ H' => Ex H H' ∧ ∃ p' t v5, p'.length = p.length + i ∧ mlM w c (j - i) p' t = G ∧ σ = [some (.int w), some (.str (bs c)), some (.str (bs p')), some (.int j), some (.int (t : Nat)), v5]) ⟨Ex.refl H, p, 1, none, rfl, hG, rfl⟩ ?_ ?_
  · rintro i σ H' hi ⟨e1, p', t, v5, hp, hg, rfl⟩
    walk_at "rd"
    refine ⟨p', j - 1 - i, rfl, by omega, by omega, w, c, lowB p' (j - 1 - i), rfl, hw, by rw [lowB_len]; omega, fun H1 e2 => ?_⟩
    have e3 := e1.trans e2
    have em : j - i = (j - (i + 1)) + 1 := by omega
    have em2 : j - (i + 1) = j - 1 - i := by omega
    rw [em] at hg
    unfold mlM at hg
    rw [em2] at hg
    refine ⟨_, rfl, ?_⟩
    cases ho : opensM w c (lowB p' (j - 1 - i))
    · rw [ho, if_neg (by decide)] at hg
      rw [if_neg (by decide), lenO, bsO]
      exact ⟨sz_of (by omega), e3, _, by simp; omega, t, by rw [em2]; exact hg, rfl, rfl, _, rfl⟩
    · rw [ho, if_pos rfl] at hg
      rw [if_pos rfl, lenZ, bsZ]
      refine ⟨⟨by omega, by omega, by omega⟩, sz_of (by omega), e3, _, by simp; omega, t + 2 ^ (j - 1 - i), by rw [em2]; exact hg, rfl, ?_, _, rfl⟩
      rw [Int.toNat_natCast]
      simp
  · rintro σ H' ⟨e1, p', t, v5, hp, hg, rfl⟩
    walk_at "rd"
    rw [Nat.sub_self] at hg
    unfold mlM at hg
    rw [hg]
    exact q H' e1
def spManyHigh : Sp := fun vs H Q _ => ∃ (w j : Nat) (c p : List Bool), vs = [.int (w : Int), .str (bs c), .str (bs p), .int (j : Int)] ∧ OkW w ∧ p.length + j ≤ 4 ∧ ∀ H', Ex H H' → Q (.int (mhM w c j p 1 : Nat)) H'
theorem has_many_high (T : Top K mg CF CP CA) : Has P w K mg base CX0 5 "_many_high" ["width", "code", "bits", "more"] spManyHigh := by
  have G_opens := has_opens (P := P) (w := w) (base := base) T
  have G_first_with_one := has_first_with_one (P := P) (w := w) (base := base) T
  refine has0 T.d_many_high sc_many_high (fun vs H Q E h => by
    repeat (obtain ⟨_, h⟩ := h)
    subst_vars
    rfl) fun f cdv A outer s H vs Q E hr h => ?_
  obtain ⟨w, j, c, p, rfl, hw, hj, q⟩ := h
  refine ⟨_, (pss_cons (ps_set (i := 4) sc_many_high.nd rfl (by first | exact .inl rfl | exact .inr rfl) pe_int)
      (pss_cons (ps_for PassesOwn.never rfl (pi_revR rfl T.n_reversed (prg_1 rfl T.n_range (pv 3))) (pg_name (i := 5) sc_many_high.nd rfl (by first | exact .inl rfl | exact .inr rfl)) (pss_one (ps_if (pt_val (pe_has G_opens (hr.mono (by decide)) (pa_cons (pv 0) (pa_cons (pv 1) (pa_cons (pe_has G_first_with_one (hr.mono (by decide)) (pa_cons (pv 2) (pa_cons (pv 5) pa_nil))) pa_nil))))) (pss_cons (ps_set (i := 4) sc_many_high.nd rfl (by first | exact .inl rfl | exact .inr rfl) (pe_op op_add (pv 4) (pe_op op_shl pe_int (pv 5))))
      (pss_one (ps_set (i := 2) sc_many_high.nd rfl (by first | exact .inl rfl | exact .inr rfl) (pe_op op_add_str (pv 2) pe_str)))) (pss_one (ps_set (i := 2) sc_many_high.nd rfl (by first | exact .inl rfl | exact .inr rfl) (pe_op op_add_str (pv 2) pe_str))))))
      (pss_one (ps_ret (pv 4))))), ?_⟩
  walk_at "rd"
  generalize hG : mhM w c j p 1 = G at q
  refine s_rev (fun Q q => ⟨_, rfl, q⟩) (by omega) (fun i σ H' => Ex H H' ∧ ∃ p' t v5, p'.length = p.length + i ∧ mhM w c (j - i) p' t = G ∧ σ = [some (.int w), some (.str (bs c)), some (.str (bs p')), some (.int j), some (.int (t : Nat)), v5]) ⟨Ex.refl H, p, 1, none, rfl, hG, rfl⟩ ?_ ?_
  · rintro i σ H' hi ⟨e1, p', t, v5, hp, hg, rfl⟩
    walk_at "rd"
    refine ⟨p', j - 1 - i, rfl, by omega, by omega, w, c, highB p' (j - 1 - i), rfl, hw, by rw [highB_len]; omega, fun H1 e2 => ?_⟩
    have e3 := e1.trans e2
    have em : j - i = (j - (i + 1)) + 1 := by omega
    have em2 : j - (i + 1) = j - 1 - i := by omega
    rw [em] at hg
    unfold mhM at hg
    rw [em2] at hg
    refine ⟨_, rfl, ?_⟩
    cases ho : opensM w c (highB p' (j - 1 - i))
    · rw [ho, if_neg (by decide)] at hg
      rw [if_neg (by decide), lenZ, bsZ]
      exact ⟨sz_of (by omega), e3, _, by simp; omega, t, by rw [em2]; exact hg, rfl, rfl, _, rfl⟩
    · rw [ho, if_pos rfl] at hg
      rw [if_pos rfl, lenO, bsO]
      refine ⟨⟨by omega, by omega, by omega⟩, sz_of (by omega), e3, _, by simp; omega, t + 2 ^ (j - 1 - i), by rw [em2]; exact hg, rfl, ?_, _, rfl⟩
      rw [Int.toNat_natCast]
      simp
  · rintro σ H' ⟨e1, p', t, v5, hp, hg, rfl⟩
    walk_at "rd"
    rw [Nat.sub_self] at hg
    unfold mhM at hg
    rw [hg]
    exact q H' e1
def spCount : Sp := fun vs H Q _ => ∃ (w m : Nat) (c : List Bool), vs = [.int (w : Int), .int (m : Int), .str (bs c)] ∧ OkW w ∧ m ≤ 4 ∧ c.length ≤ 16 ∧ (fpM w m c).isSome = true ∧ ∀ H', Ex H H' → Q (.int (cntM w m c : Nat)) H'
theorem has_count_possible (T : Top K mg CF CP CA) : Has P w K mg base CX0 8 "count_possible" ["width", "count", "code"] spCount := by
  have G_known_prefix := has_known_prefix (P := P) (w := w) (base := base) T
  have G_many_low := has_many_low (P := P) (w := w) (base := base) T
  have G_many_high := has_many_high (P := P) (w := w) (base := base) T
  refine has0 T.d_count_possible sc_count_possible (fun vs H Q E h => by
    repeat (obtain ⟨_, h⟩ := h)
    subst_vars
    rfl) fun f cdv A outer s H vs Q E hr h => ?_
  obtain ⟨w, m, c, rfl, hw, hm, hc, hs, q⟩ := h
  refine ⟨_, (pss_cons (ps_set (i := 3) sc_count_possible.nd rfl (by first | exact .inl rfl | exact .inr rfl) (pe_has G_known_prefix (hr.mono (by decide)) (pa_cons (pv 0) (pa_cons (pv 1) (pa_cons (pv 2) pa_nil)))))
      (pss_cons (ps_if (pt_cmpR op_isN (pv 3) pe_non (nomark _)) (pss_one (ps_ret pe_int)) pss_nil)
      (pss_cons (ps_if (pt_cmpR op_eq (pe_callB call_len_str rfl T.n_len boot_len (pa_cons (pv 3) pa_nil)) (pv 1) (nomark _)) (pss_one (ps_ret pe_int)) pss_nil)
      (pss_cons (ps_set (i := 4) sc_count_possible.nd rfl (by first | exact .inl rfl | exact .inr rfl) (pe_op op_sub (pe_op op_sub (pv 1) (pe_callB call_len_str rfl T.n_len boot_len (pa_cons (pv 3) pa_nil))) pe_int))
      (pss_one (ps_ret (pe_op op_add (pe_has G_many_low (hr.mono (by decide)) (pa_cons (pv 0) (pa_cons (pv 2) (pa_cons (pe_op op_add_str (pv 3) pe_str) (pa_cons (pv 4) pa_nil))))) (pe_has G_many_high (hr.mono (by decide)) (pa_cons (pv 0) (pa_cons (pv 2) (pa_cons (pe_op op_add_str (pv 3) pe_str) (pa_cons (pv 4) pa_nil)))))))))))), ?_⟩
  walk_at "rd"
  refine ⟨w, m, c, rfl, hw, hm, hc, fun H1 e1 => ?_⟩
  obtain ⟨p, hp⟩ := Option.isSome_iff_exists.mp hs
  have hpl := fpM_len hp
  have hcn : cntM w m c = if p.length = m then 1 else mlM w c (m - p.length - 1) (p ++ [false]) 1 + mhM w c (m - p.length - 1) (p ++ [true]) 1 := by
    unfold cntM
    rw [hp]
  rw [hp, optS_some]
  walk_at "rd"
  rw [if_neg (non_str _)]
  refine ⟨sz_of (by omega), rfl, ?_⟩
  by_cases hq : p.length = m
  · rw [if_pos hq] at hcn
    rw [hcn] at q
    exact ⟨_, rfl, iteT' (decide_eq_true (by rw [hq])) (q H1 e1)⟩
  · rw [if_neg hq] at hcn
    rw [hcn] at q
    refine ⟨_, rfl, iteF' (by simp; omega) ?_⟩
    have em : (m : Int) - (p.length : Int) - 1 = ((m - p.length - 1 : Nat) : Int) := by omega
    rw [em, bsZ, bsO, lenZ, lenO]
    refine ⟨sz_of (by omega), sz_of (by omega), w, m - p.length - 1, c, p ++ [false], rfl, hw, by simp; omega, fun H2 e2 => ⟨sz_of (by omega), w, m - p.length - 1, c, p ++ [true], rfl, hw, by simp; omega, fun H3 e3 => ⟨_, rfl, _, rfl, ?_⟩⟩⟩
    have := q H3 ((e1.trans e2).trans e3)
    rw [Int.natCast_add] at this
    exact this
def spFirst : Sp := fun vs H Q _ => ∃ (w m : Nat) (c l : List Bool), vs = [.int (w : Int), .int (m : Int), .str (bs c)] ∧ OkW w ∧ m ≤ 4 ∧ c.length ≤ 16 ∧ fiM w m c = some l ∧ ∀ H', Ex H H' → Q (.str (bs l)) H'
theorem has_first_possible (T : Top K mg CF CP CA) : Has P w K mg base CX0 8 "first_possible" ["width", "count", "code"] spFirst := by
  have G_known_prefix := has_known_prefix (P := P) (w := w) (base := base) T
  have G_opens := has_opens (P := P) (w := w) (base := base) T
  have G_last_with_zero := has_last_with_zero (P := P) (w := w) (base := base) T
  refine has0 T.d_first_possible sc_first_possible (fun vs H Q E h => by
    repeat (obtain ⟨_, h⟩ := h)
    subst_vars
    rfl) fun f cdv A outer s H vs Q E hr h => ?_
  obtain ⟨w, m, c, l, rfl, hw, hm, hc, hs, q⟩ := h
  refine ⟨_, (pss_cons (ps_set (i := 3) sc_first_possible.nd rfl (by first | exact .inl rfl | exact .inr rfl) (pe_has G_known_prefix (hr.mono (by decide)) (pa_cons (pv 0) (pa_cons (pv 1) (pa_cons (pv 2) pa_nil)))))
      (pss_cons (ps_if (PW.pt (pw_or (pt_cmpR op_isN (pv 3) pe_non (nomark _)) (pw_or1 (pt_cmpR op_eq (pe_callB call_len_str rfl T.n_len boot_len (pa_cons (pv 3) pa_nil)) (pv 1) (nomark _))))) (pss_one (ps_ret (pv 3))) pss_nil)
      (pss_cons (ps_set (i := 3) sc_first_possible.nd rfl (by first | exact .inl rfl | exact .inr rfl) (pe_op op_add_str (pv 3) pe_str))
      (pss_cons (ps_for PassesOwn.never rfl (pi_revR rfl T.n_reversed (prg_1 rfl T.n_range (pe_op op_sub (pv 1) (pe_callB call_len_str rfl T.n_len boot_len (pa_cons (pv 3) pa_nil))))) (pg_name (i := 4) sc_first_possible.nd rfl (by first | exact .inl rfl | exact .inr rfl)) (pss_one (ps_set (i := 3) sc_first_possible.nd rfl (by first | exact .inl rfl | exact .inr rfl) (pe_op op_add_str (pv 3) (pe_ifExp (pt_val (pe_has G_opens (hr.mono (by decide)) (pa_cons (pv 0) (pa_cons (pv 2) (pa_cons (pe_has G_last_with_zero (hr.mono (by decide)) (pa_cons (pv 3) (pa_cons (pv 4) pa_nil))) pa_nil))))) pe_str pe_str)))))
      (pss_one (ps_ret (pv 3))))))), ?_⟩
  walk_at "rd"
  refine ⟨w, m, c, rfl, hw, hm, hc, fun H1 e1 => ?_⟩
  obtain ⟨p, hp⟩ : ∃ p, fpM w m c = some p := by
    unfold fiM at hs
    cases hf : fpM w m c with
    | none => rw [hf] at hs; cases hs
    | some p => exact ⟨p, rfl⟩
  have hpl := fpM_len hp
  have hfi : fiM w m c = if p.length = m then some p else some (fiGo w c (m - p.length - 1) (p ++ [false])) := by
    unfold fiM
    rw [hp]
  rw [hp, optS_some]
  walk_at "rd"
  rw [if_neg (non_str _)]
  refine ⟨sz_of (by omega), rfl, ?_⟩
  by_cases hq : p.length = m
  · rw [if_pos hq] at hfi
    obtain rfl := Option.some.inj (hs.symm.trans hfi)
    exact ⟨_, rfl, iteT' (decide_eq_true (by rw [hq])) (q H1 e1)⟩
  · rw [if_neg hq] at hfi
    have hl : l = fiGo w c (m - p.length - 1) (p ++ [false]) := Option.some.inj (hs.symm.trans hfi)
    refine ⟨_, rfl, iteF' (by simp; omega) ?_⟩
    rw [bsZ, lenZ]
    have hm1 : (m : Int) - ((p ++ [false]).length : Int) = ((m - p.length - 1 : Nat) : Int) := by simp; omega
    refine ⟨sz_of (by omega), s_rev (k := m - p.length - 1) (fun Q q => ?_) (by omega) (fun i σ H' => Ex H H' ∧ ∃ p' v5, p'.length = p.length + 1 + i ∧ fiGo w c (m - p.length - 1 - i) p' = l ∧ σ = [some (.int w), some (.int m), some (.str (bs c)), some (.str (bs p')), v5]) ⟨e1, _, none, by simp, hl.symm, rfl⟩ ?_ ?_⟩
    · walk_at "rd"
      rw [hm1]
      exact ⟨sz_of (by simp; omega), q⟩
    · rintro i σ H' hi ⟨e2, p', v5, hp', hg, rfl⟩
      walk_at "rd"
      generalize hj : m - p.length - 1 - 1 - i = j
      have ej : m - p.length - 1 - i = j + 1 := by omega
      rw [ej] at hg
      refine ⟨p', j, rfl, by omega, by omega, w, c, lowB p' j, rfl, hw, by rw [lowB_len]; omega, fun H2 e3 => ⟨_, rfl, ?_⟩⟩
      unfold fiGo at hg
      cases ho : opensM w c (lowB p' j)
      · rw [ho] at hg
        refine iteF ?_
        rw [lenO, bsO]
        exact ⟨sz_of (by omega), e2.trans e3, _, by simp; omega, by rw [show m - p.length - 1 - (i + 1) = j by omega]; exact hg, rfl, _, rfl⟩
      · rw [ho] at hg
        refine iteT ?_
        rw [lenZ, bsZ]
        exact ⟨sz_of (by omega), e2.trans e3, _, by simp; omega, by rw [show m - p.length - 1 - (i + 1) = j by omega]; exact hg, rfl, _, rfl⟩
    · rintro σ H' ⟨e2, p', v5, hp', hg, rfl⟩
      walk_at "rd"
      rw [Nat.sub_self] at hg
      unfold fiGo at hg
      rw [hg]
      exact q H' e2
theorem fiGo_len {w : Nat} {c : List Bool} : ∀ (j : Nat) (p : List Bool), (fiGo w c j p).length = p.length + j
  | 0, p => rfl
  | j + 1, p => by
    unfold fiGo
    rw [fiGo_len j]
    simp
    omega
theorem fi_some {w m : Nat} {c : List Bool} (h : (fpM w m c).isSome = true) : ∃ l, fiM w m c = some l ∧ l.length = m := by
  obtain ⟨p, hp⟩ := Option.isSome_iff_exists.mp h
  have hpl := fpM_len hp
  unfold fiM
  rw [hp]
  by_cases hq : p.length = m
  · exact ⟨p, if_pos hq, hq⟩
  · refine ⟨_, if_neg hq, ?_⟩
    rw [fiGo_len]
    simp
    omega
def spBinV : Sp := spDigVal
theorem has_binary_value (T : Top K mg CF CP CA) : Has P w K mg base CX0 2 "binary_value" ["bits"] spBinV := by
  have G_digits_value := has_digits_value (P := P) (w := w) (base := base) T
  refine has0 T.d_binary_value sc_binary_value (fun vs H Q E h => by
    repeat (obtain ⟨_, h⟩ := h)
    subst_vars
    rfl) fun f cdv A outer s H vs Q E hr h => ?_
  obtain ⟨l, rfl, hl, q⟩ := h
  refine ⟨_, (pss_one (ps_ret (pe_has G_digits_value (hr.mono (by decide)) (pa_cons (pv 0) pa_nil)))), ?_⟩
  walk_at "rd"
  exact ⟨l, rfl, hl, q⟩
def spBin : Sp := spDigTxt
theorem has_binary (T : Top K mg CF CP CA) : Has P w K mg base CX0 2 "binary" ["value", "count"] spBin := by
  have G_digits_text := has_digits_text (P := P) (w := w) (base := base) T
  refine has0 T.d_binary sc_binary (fun vs H Q E h => by
    repeat (obtain ⟨_, h⟩ := h)
    subst_vars
    rfl) fun f cdv A outer s H vs Q E hr h => ?_
  obtain ⟨m, k, rfl, hk, q⟩ := h
  refine ⟨_, (pss_one (ps_ret (pe_has G_digits_text (hr.mono (by decide)) (pa_cons (pv 0) (pa_cons (pv 1) pa_nil))))), ?_⟩
  walk_at "rd"
  exact ⟨m, k, rfl, hk, q⟩
def spRank : Sp := fun vs H Q _ => ∃ (w : Nat) (c b : List Bool), vs = [.int (w : Int), .str (bs c), .str (bs b)] ∧ OkW w ∧ b.length ≤ 4 ∧ c.length ≤ 16 ∧ (fpM w b.length c).isSome = true ∧ ∀ H', Ex H H' → Q (.int (rkM w b.length c b)) H'
theorem has_rank_among (T : Top K mg CF CP CA) : Has P w K mg base CX0 9 "rank_among" ["width", "code", "bits"] spRank := by
  have G_digits_value := has_digits_value (P := P) (w := w) (base := base) T
  have G_first_possible := has_first_possible (P := P) (w := w) (base := base) T
  refine has0 T.d_rank_among sc_rank_among (fun vs H Q E h => by
    repeat (obtain ⟨_, h⟩ := h)
    subst_vars
    rfl) fun f cdv A outer s H vs Q E hr h => ?_
  obtain ⟨w, c, b, rfl, hw, hb, hc, hs, q⟩ := h
  refine ⟨_, (pss_one (ps_ret (pe_op op_sub (pe_has G_digits_value (hr.mono (by decide)) (pa_cons (pv 2) pa_nil)) (pe_has G_digits_value (hr.mono (by decide)) (pa_cons (pe_has G_first_possible (hr.mono (by decide)) (pa_cons (pv 0) (pa_cons (pe_callB call_len_str rfl T.n_len boot_len (pa_cons (pv 2) pa_nil)) (pa_cons (pv 1) pa_nil)))) pa_nil))))), ?_⟩
  walk_at "rd"
  obtain ⟨l, hl, hll⟩ := fi_some hs
  refine ⟨b, rfl, by omega, ?_⟩
  walk_at "rd"
  refine ⟨sz_of (by omega), w, b.length, c, l, rfl, hw, hb, hc, hl, fun H1 e1 => ⟨l, rfl, by omega, ?_⟩⟩
  have e : rkM w b.length c b = (valM b : Int) - (valM l : Int) := by
    unfold rkM
    rw [hl]
    rfl
  rw [e] at q
  exact ⟨_, rfl, q H1 e1⟩
def spPossible : Sp := fun vs H Q _ => ∃ (w m r : Nat) (c : List Bool), vs = [.int (w : Int), .int (m : Int), .str (bs c), .int (r : Int)] ∧ OkW w ∧ m ≤ 4 ∧ c.length ≤ 16 ∧ (fpM w m c).isSome = true ∧ ∀ H', Ex H H' → Q (.str (bs (paM w m c r))) H'
theorem has_possible_at (T : Top K mg CF CP CA) : Has P w K mg base CX0 9 "possible_at" ["width", "count", "code", "number"] spPossible := by
  have G_digits_text := has_digits_text (P := P) (w := w) (base := base) T
  have G_digits_value := has_digits_value (P := P) (w := w) (base := base) T
  have G_first_possible := has_first_possible (P := P) (w := w) (base := base) T
  refine has0 T.d_possible_at sc_possible_at (fun vs H Q E h => by
    repeat (obtain ⟨_, h⟩ := h)
    subst_vars
    rfl) fun f cdv A outer s H vs Q E hr h => ?_
  obtain ⟨w, m, r, c, rfl, hw, hm, hc, hs, q⟩ := h
  refine ⟨_, (pss_one (ps_ret (pe_has G_digits_text (hr.mono (by decide)) (pa_cons (pe_op op_add (pe_has G_digits_value (hr.mono (by decide)) (pa_cons (pe_has G_first_possible (hr.mono (by decide)) (pa_cons (pv 0) (pa_cons (pv 1) (pa_cons (pv 2) pa_nil)))) pa_nil)) (pv 3)) (pa_cons (pv 1) pa_nil))))), ?_⟩
  walk_at "rd"
  obtain ⟨l, hl, hll⟩ := fi_some hs
  refine ⟨w, m, c, l, rfl, hw, hm, hc, hl, fun H1 e1 => ⟨l, rfl, by omega, ?_⟩⟩
  have e : paM w m c r = digT (valM l + r) m := by
    unfold paM
    rw [hl]
    rfl
  rw [e] at q
  walk_at "rd"
  exact ⟨valM l + r, m, by simp, by omega, fun H2 e2 => q H2 (e1.trans e2)⟩
end
end PK


set_option maxHeartbeats 4000000
namespace PK
open PySem PySem.Spec PyProof.Rows L2 Evl
/-! ### readings with the ground's own frame of values, for blocks -/
section
variable {X : Cx} {K : PySem.W.Frag} {e o : Expr} {f : Str} {pos : Pos} {ta : TE} {tg : Expr}
theorem pe_fldK (hK : X.K = K) (he : PE X e ta) (hb : attributeBase e f X.env (eval e X.env) = eval e X.env) : PE X (.Attribute e f pos) (tFld K ta f) := by
  subst hK
  exact pe_fld he hb
theorem ix_listK (hK : X.K = K) : IxR X (rIxL K) := by
  subst hK
  exact ix_list
theorem ix_tupK (hK : X.K = K) : IxR X (rIxT K) := by
  subst hK
  exact ix_tup
theorem pi_listK (hK : X.K = K) {l : Expr} {tl : TE} (hl : PE X l tl) : PI X tg l (iList K tl) := by
  subst hK
  exact pi_list hl
theorem sl_listK (hK : X.K = K) : SlR X (rSlL K) := by
  subst hK
  exact sl_list
theorem call_listK (hK : X.K = K) : CallR X (.type "list") (rListS K) := by
  subst hK
  exact call_list_of
theorem call_lenK (hK : X.K = K) : CallR X (.builtin "len") (fun xs H Q => ∃ x n, xs = [x] ∧ LenV K x H n ∧ Q (.int n) H) := by
  subst hK
  exact call_len
end
theorem yesT {A B : Hp → Prop} {σ : L2.St} {H : Hp} (h : A H) : tYes σ H fun b H3 => if b = true then A H3 else B H3 := iteT (A := A H) (B := B H) h
/-! ### a clause of a comprehension -/
section
variable {K : PySem.W.Frag} {σ : L2.St} {H : Hp} {te : TE} {ta : TA}
theorem cl_it {J : It} {n : Nat} {G : Hp → Prop} {Y : Nat → Hp → V → Hp → Prop} (w : Walk J n G Y) {g : TG} {tt : TT} {body : TH} {vs : List Nat} {H1 : Hp} {Nx : Hp → Prop} (Pv : Nat → Hp → Prop) (h0 : Pv 0 H1) (hG : ∀ i H, i ≤ n → Pv i H → G H)
    (hs : ∀ i x H H', i < n → Pv i H → Y i H x H' → g x (wipe σ vs) H' fun σ2 H2 => wipe σ2 vs = wipe σ vs ∧ tt σ2 H2 fun b H3 => if b = true then body σ2 H3 (Pv (i + 1)) else Pv (i + 1) H3) (hd : ∀ H, Pv n H → Nx H) :
    ∃ W : Nat → Nat → Hp → Prop, (∃ m, W 0 m H1) ∧ ∀ i m H, W i m H →
      (J.stop i H ∧ Nx H) ∨ (J.go i H ∧ ∃ N1 : Hp → Prop, (∀ H', N1 H' → ∃ m', m' < m ∧ W (i + 1) m' H') ∧ ∀ x H', J.yld i H x H' → g x (wipe σ vs) H' fun σ2 H2 => wipe σ2 vs = wipe σ vs ∧ tt σ2 H2 fun b H3 =>
        if b = true then body σ2 H3 N1 else N1 H3) := by
  refine ⟨fun i m H => m = n - i ∧ i ≤ n ∧ Pv i H, ⟨n, by simp, Nat.zero_le _, h0⟩, ?_⟩
  rintro i m H ⟨rfl, hi, p⟩
  have q := hG i H hi p
  by_cases hlt : i < n
  · refine .inr ⟨w.goes i H hlt q, Pv (i + 1), fun H' p' => ⟨n - (i + 1), by omega, rfl, hlt, p'⟩, fun x H' y => hs i x H H' hlt p (w.yields i H x H' hlt q y)⟩
  · have e : i = n := by omega
    subst e
    exact .inl ⟨w.stops H q, hd H p⟩
/-- for name in range(n) within a comprehension -/
theorem cl_rng {tt : TT} {body : TH} {j n : Nat} {vs : List Nat} {Nx : Hp → Prop} (h : ∀ Q : List V → Hp → Prop, Q [.int (n : Int)] H → ta σ H Q) (hn : n ≤ 10000) (hw : ∀ x, wipe ((wipe σ vs).set j (some x)) vs = wipe σ vs) (Pv : Nat → Hp → Prop) (h0 : Pv 0 H)
    (hs : ∀ i H', i < n → Pv i H' → tt ((wipe σ vs).set j (some (.int (i : Int)))) H' fun b H3 => if b = true then body ((wipe σ vs).set j (some (.int (i : Int)))) H3 (Pv (i + 1)) else Pv (i + 1) H3) (hd : ∀ H', Pv n H' → Nx H') : tClause (iRng1 ta) (gName j) tt vs body σ H Nx := by
  refine h _ ⟨_, rfl, by omega, by omega, ?_⟩
  rw [Int.toNat_natCast]
  refine cl_it walk_range Pv h0 (fun _ _ _ _ => trivial) (fun i x H1 H2 hi p y => ?_) hd
  obtain ⟨rfl, rfl⟩ := y
  dsimp only
  rw [Int.zero_add]
  exact ⟨hw _, hs i H2 hi p⟩
/-- the first clause: over range(n) -/
theorem c0_rng {tt : TT} {body : Addr → TH} {j n : Nat} {vs : List Nat} {Q : VK} (h : ∀ Q : List V → Hp → Prop, Q [.int (n : Int)] H → ta σ H Q) (hn : n ≤ 10000) (hw : ∀ x, wipe ((wipe σ vs).set j (some x)) vs = wipe σ vs) (Pv : Addr → Nat → Hp → Prop) (h0 : ∀ D, H D = none → Pv D 0 (upd H D (.lst [])))
    (hs : ∀ D i H', H D = none → i < n → Pv D i H' → tt ((wipe σ vs).set j (some (.int (i : Int)))) H' fun b H3 => if b = true then body D ((wipe σ vs).set j (some (.int (i : Int)))) H3 (Pv D (i + 1)) else Pv D (i + 1) H3) (hd : ∀ D H', H D = none → Pv D n H' → Q (.ref D) H') : tLc3 (iRng1 ta) (gName j) tt vs body σ H Q := by
  refine h _ ⟨_, rfl, by omega, by omega, fun D hD => ?_⟩
  rw [Int.toNat_natCast]
  refine cl_it walk_range (Pv D) (h0 D hD) (fun _ _ _ _ => trivial) (fun i x H1 H2 hi p y => ?_) fun H' p => hd D H' hD p
  obtain ⟨rfl, rfl⟩ := y
  dsimp only
  rw [Int.zero_add]
  exact ⟨hw _, hs D i H2 hD hi p⟩
/-- the first clause: over a list that stands -/
theorem c0_list {tt : TT} {te0 : TE} {body : Addr → TH} {j : Nat} {a : Addr} {xs : List V} {vs : List Nat} {Q : VK} (h : ∀ Q : VK, Q (.ref a) H → te0 σ H Q) (hx : SqL K H a xs) (hw : ∀ x, wipe ((wipe σ vs).set j (some x)) vs = wipe σ vs) (Pv : Addr → Nat → Hp → Prop) (h0 : ∀ D, H D = none → Pv D 0 (upd H D (.lst [])))
    (hl : ∀ D i H', H D = none → Pv D i H' → SqL K H' a xs)
    (hs : ∀ D i x H', H D = none → xs[i]? = some x → Pv D i H' → tt ((wipe σ vs).set j (some x)) H' fun b H3 => if b = true then body D ((wipe σ vs).set j (some x)) H3 (Pv D (i + 1)) else Pv D (i + 1) H3) (hd : ∀ D H', H D = none → Pv D xs.length H' → Q (.ref D) H') : tLc3 (iList K te0) (gName j) tt vs body σ H Q := by
  refine h _ ⟨_, rfl, ⟨xs, hx⟩, fun D hD => ?_⟩
  refine cl_it walk_list (Pv D) (h0 D hD) (fun i H' _ p => hl D i H' hD p) (fun i x H1 H2 hi p y => ?_) fun H' p => hd D H' hD p
  obtain ⟨rfl, hx⟩ := y
  exact ⟨hw _, hs D i x H2 hD hx p⟩
/-- for name in a list that stands, within a comprehension -/
theorem cl_list {tt : TT} {te0 : TE} {body : TH} {j : Nat} {a : Addr} {xs : List V} {vs : List Nat} {Nx : Hp → Prop} (h : ∀ Q : VK, Q (.ref a) H → te0 σ H Q) (hx : SqL K H a xs) (hw : ∀ x, wipe ((wipe σ vs).set j (some x)) vs = wipe σ vs) (Pv : Nat → Hp → Prop) (h0 : Pv 0 H)
    (hl : ∀ i H', Pv i H' → SqL K H' a xs)
    (hs : ∀ i x H', xs[i]? = some x → Pv i H' → tt ((wipe σ vs).set j (some x)) H' fun b H3 => if b = true then body ((wipe σ vs).set j (some x)) H3 (Pv (i + 1)) else Pv (i + 1) H3) (hd : ∀ H', Pv xs.length H' → Nx H') : tClause (iList K te0) (gName j) tt vs body σ H Nx := by
  refine h _ ⟨_, rfl, ⟨xs, hx⟩, ?_⟩
  refine cl_it walk_list Pv h0 (fun i H' _ p => hl i H' p) (fun i x H1 H2 hi p y => ?_) hd
  obtain ⟨rfl, hx⟩ := y
  exact ⟨hw _, hs i x H2 hx p⟩
theorem lc2_is {wi : TI} {g : TG} {tt : TT} {wi1 : TI} {g1 : TG} {tt1 : TT} {te : TE} {vs vs1 : List Nat} : tLc2 wi g tt wi1 g1 tt1 te vs vs1 = tLc3 wi g tt vs fun D => tClause wi1 g1 tt1 vs1 (tLast te D) := rfl
/-- values by two ranges -/
theorem lc2_rng {ta1 : TA} {j j1 n n1 : Nat} {vs vs1 : List Nat} {Q : VK} (h : ∀ Q : List V → Hp → Prop, Q [.int (n : Int)] H → ta σ H Q) (hn : n ≤ 100) (hn1 : n1 ≤ 100) (hw : ∀ x, wipe ((wipe σ vs).set j (some x)) vs = wipe σ vs)
    (hw1 : ∀ x y, wipe ((wipe ((wipe σ vs).set j (some x)) vs1).set j1 (some y)) vs1 = wipe ((wipe σ vs).set j (some x)) vs1)
    (h1 : ∀ (i : Nat) H' (Q : List V → Hp → Prop), i < n → Ex H H' → Q [.int (n1 : Int)] H' → ta1 ((wipe σ vs).set j (some (.int (i : Int)))) H' Q) (v : Nat → Nat → V)
    (he : ∀ (i k : Nat) H' (R : VK), i < n → k < n1 → Ex H H' → (∀ H4, Ex H' H4 → R (v i k) H4) → te ((wipe ((wipe σ vs).set j (some (.int (i : Int)))) vs1).set j1 (some (.int (k : Int)))) H' R)
    (q : ∀ p H', H p = none → Ex H H' → H' p = some (.lst ((List.range n).flatMap fun i => (List.range n1).map (v i))) → Q (.ref p) H') :
    tLc3 (iRng1 ta) (gName j) tYes vs (fun D => tClause (iRng1 ta1) (gName j1) tYes vs1 (tLast te D)) σ H Q := by
  have lenA : ∀ i, ((List.range i).flatMap fun i => (List.range n1).map (v i)).length = i * n1 := fun i => by
    induction i with
    | zero => simp
    | succ i ih => rw [List.range_succ, List.flatMap_append, List.length_append, ih]; simp [Nat.add_mul]
  refine c0_rng h (by omega) hw (fun D i H' => Ex H H' ∧ H' D = some (.lst ((List.range i).flatMap fun i => (List.range n1).map (v i)))) (fun D hD => ⟨Ex.new hD, upd_same⟩) (fun D i H' hD hi p => ?_) fun D H' hD p => q D H' hD p.1 p.2
  refine yesT ?_
  refine cl_rng (n := n1) (fun Q q => h1 i H' Q hi p.1 q) (by omega) (fun y => hw1 _ y) (fun k H'' => Ex H H'' ∧ H'' D = some (.lst (((List.range i).flatMap fun i => (List.range n1).map (v i)) ++ (List.range k).map (v i)))) ⟨p.1, by rw [List.range_zero, List.map_nil, List.append_nil]; exact p.2⟩ (fun k H'' hk p2 => ?_) fun H'' p2 => ⟨p2.1, ?_⟩
  · refine yesT ?_
    refine he i k H'' _ hi hk p2.1 fun H4 e4 => ⟨_, e4 _ _ p2.2, ?_, Ex.mut (p2.1.trans e4) hD, ?_⟩
    · rw [List.length_append, lenA]
      have := Nat.mul_le_mul (show i ≤ 100 by omega) hn1
      simp
      exact sz_lt (by omega)
    · rw [upd_same, List.range_succ, List.map_append, List.append_assoc]
      rfl
  · rw [p2.2, List.range_succ, List.flatMap_append]
    simp
end
end PK

set_option maxHeartbeats 4000000
namespace PK
open PySem PySem.Spec PyProof.Rows L2 Evl
local macro_rules | `(tactic| walk_at "rd") => `(tactic| simp only [tSeq, tAsg, tRet, tIfS, tTest, tOp, tUn, tVar, tC, tCons, tNil, tCB, tHas, gName, rI0, rI, rU, tNext, tNot, tAnd, tOr, tChain, tIf, tB, tNever, tRetN, tDrop, tTup, tLst, tMeth, tMake, tM0, tM1, tBits, tTruI, tBM, gSub, tSl, tNoPart, tPart, gcE, gnE, bs_length, tListRevR, tRg1, tFldE, sFldE, tPar3, cxK, nxK, List.append_nil,
  L2.start, List.map_cons, List.map_nil, List.length_cons, List.length_nil, List.replicate, List.cons_append, List.nil_append, List.getElem?_cons_zero, List.getElem?_cons_succ, List.set_cons_zero, List.set_cons_succ,
  Option.some.injEq, V.int.injEq, V.bl.injEq, V.str.injEq, V.ref.injEq, exists_eq_left', exists_eq_left, exists_and_left, List.cons.injEq, and_true, true_and, eq_self_iff_true, Nat.reduceAdd, Nat.reduceSub, Nat.zero_add])
/-! ### frames -/
structure Fr where
  W : Nat
  Hh : Nat
  D : Nat
  C : Nat
  T : Nat
def Fr.ok (F : Fr) : Prop := (1 ≤ F.W ∧ F.W ≤ 4) ∧ (1 ≤ F.Hh ∧ F.Hh ≤ 4) ∧ (1 ≤ F.D ∧ F.D ≤ 3) ∧ (F.C = 1 ∨ F.C = 3) ∧ (F.T = 1 ∨ F.T = 2)
def Fr.across (F : Fr) : Nat := (F.W + F.T - 1) / F.T
def Fr.down (F : Fr) : Nat := (F.Hh + F.T - 1) / F.T
def Fr.tiles (F : Fr) : Nat := F.across * F.down
def Fr.pixels (F : Fr) : Nat := F.W * F.Hh
def Fr.left (F : Fr) (t : Nat) : Nat := t % F.across * F.T
def Fr.top (F : Fr) (t : Nat) : Nat := t / F.across * F.T
def Fr.tw (F : Fr) (t : Nat) : Nat := min F.T (F.W - F.left t)
def Fr.th (F : Fr) (t : Nat) : Nat := min F.T (F.Hh - F.top t)
def Fr.px (F : Fr) (t : Nat) : List Nat := (List.range (F.th t)).flatMap fun y => (List.range (F.tw t)).map fun x => (F.top t + y) * F.W + F.left t + x
def fsF (F : Fr) : List (Str × V) := [("width", .int F.W), ("height", .int F.Hh), ("depth", .int F.D), ("channels", .int F.C), ("tile", .int F.T)]
def FrAt (CF : Addr) (H : Hp) (a : Addr) (F : Fr) : Prop := ∃ dx, H a = some (.ins CF dx (fsF F))
theorem FrAt.mono {CF : Addr} {H H' : Hp} {a : Addr} {F : Fr} (e : Ex H H') (h : FrAt CF H a F) : FrAt CF H' a F := by
  obtain ⟨dx, h⟩ := h
  exact ⟨dx, e _ _ h⟩
section
variable {P : Program} {w : World} {K : PySem.W.Frag} {mg : Str → Option Value} {base : Heap} {CF CP CA : Addr}
theorem frE (T : Top K mg CF CP CA) {H : Hp} {a : Addr} {F : Fr} (h : FrAt CF H a F) : (∀ Q, rFldV K "width" (.ref a) H Q = Q (.int F.W) H) ∧ (∀ Q, rFldV K "height" (.ref a) H Q = Q (.int F.Hh) H) ∧ (∀ Q, rFldV K "depth" (.ref a) H Q = Q (.int F.D) H) ∧
    (∀ Q, rFldV K "channels" (.ref a) H Q = Q (.int F.C) H) ∧ (∀ Q, rFldV K "tile" (.ref a) H Q = Q (.int F.T) H) := by
  obtain ⟨dx, h⟩ := h
  exact ⟨fun Q => fld_iff h T.clF T.aF_width rfl, fun Q => fld_iff h T.clF T.aF_height rfl, fun Q => fld_iff h T.clF T.aF_depth rfl, fun Q => fld_iff h T.clF T.aF_channels rfl, fun Q => fld_iff h T.clF T.aF_tile rfl⟩
theorem fdiv_nat (n k : Nat) : Int.fdiv (n : Int) (k : Int) = ((n / k : Nat) : Int) := by
  rw [Int.fdiv_eq_ediv_of_nonneg _ (by omega)]
  rfl
theorem Fr.ok.T {F : Fr} (h : F.ok) : F.T = 1 ∨ F.T = 2 := h.2.2.2.2
theorem Fr.ok.b {F : Fr} (h : F.ok) : F.W ≤ 4 ∧ F.Hh ≤ 4 ∧ F.D ≤ 3 ∧ F.C ≤ 3 ∧ F.T ≤ 2 ∧ 1 ≤ F.W ∧ 1 ≤ F.Hh ∧ 1 ≤ F.D ∧ 1 ≤ F.C ∧ 1 ≤ F.T := by
  obtain ⟨h1, h2, h3, h4, h5⟩ := h
  omega
theorem cdivP {i j : Int} (h0 : 0 < j) (h : j.natAbs < 1073741824) : CDivP i j := ⟨h0, PyProof.noPylong_small h⟩
def spAcross (CF : Addr) : Sp := fun vs H Q _ => ∃ (a : Addr) (F : Fr), vs = [.ref a] ∧ FrAt CF H a F ∧ F.ok ∧ Q (.int F.across) H
theorem has_Frame_across (T : Top K mg CF CP CA) : HasM P w K mg base CX0 1 CF "across" ["self"] (spAcross CF) := by
  refine hasM0 T.m_Frame_across sc_Frame_across (fun vs H Q E h => by
    repeat (obtain ⟨_, h⟩ := h)
    subst_vars
    rfl) fun f cdv A outer s H vs Q E hr h => ?_
  obtain ⟨a, F, rfl, hF, ok, q⟩ := h
  refine ⟨_, (pss_one (ps_ret (pe_op op_fdivN (pe_op op_sub (pe_op op_add (pe_fld (pv 0) rfl) (pe_fld (pv 0) rfl)) pe_int) (pe_fld (pv 0) rfl)))), ?_⟩
  simp only [tSeq, tAsg, tRet, tIfS, tTest, tOp, tUn, tVar, tC, tCons, tNil, tCB, tHas, gName, rI0, rI, rU, tNext, tNot, tAnd, tOr, tChain, tIf, tB, tNever, tRetN, tDrop, tTup, tLst, tMeth, tMake, tM0, tM1, tBits, tTruI, tBM, gSub, tSl, tNoPart, tPart, gcE, gnE, bs_length, tListRevR, tRg1, tFldE, sFldE, tPar3, cxK, nxK, List.append_nil, L2.start, List.map_cons, List.map_nil, List.length_cons, List.length_nil, List.replicate, List.cons_append, List.nil_append, List.getElem?_cons_zero, List.getElem?_cons_succ, List.set_cons_zero, List.set_cons_succ, Option.some.injEq, V.int.injEq, V.bl.injEq, V.str.injEq, V.ref.injEq, exists_eq_left', exists_eq_left, exists_and_left, List.cons.injEq, and_true, true_and, eq_self_iff_true, Nat.reduceAdd, Nat.reduceSub, Nat.zero_add, frE T hF]
  have e : (F.W : Int) + (F.T : Int) - 1 = ((F.W + F.T - 1 : Nat) : Int) := by have := ok.b; omega
  rw [e, fdiv_nat]
  have := ok.b
  exact ⟨⟨by omega, by omega⟩, q⟩
def spDown (CF : Addr) : Sp := fun vs H Q _ => ∃ (a : Addr) (F : Fr), vs = [.ref a] ∧ FrAt CF H a F ∧ F.ok ∧ Q (.int F.down) H
theorem has_Frame_down (T : Top K mg CF CP CA) : HasM P w K mg base CX0 1 CF "down" ["self"] (spDown CF) := by
  refine hasM0 T.m_Frame_down sc_Frame_down (fun vs H Q E h => by
    repeat (obtain ⟨_, h⟩ := h)
    subst_vars
    rfl) fun f cdv A outer s H vs Q E hr h => ?_
  obtain ⟨a, F, rfl, hF, ok, q⟩ := h
  refine ⟨_, (pss_one (ps_ret (pe_op op_fdivN (pe_op op_sub (pe_op op_add (pe_fld (pv 0) rfl) (pe_fld (pv 0) rfl)) pe_int) (pe_fld (pv 0) rfl)))), ?_⟩
  simp only [tSeq, tAsg, tRet, tIfS, tTest, tOp, tUn, tVar, tC, tCons, tNil, tCB, tHas, gName, rI0, rI, rU, tNext, tNot, tAnd, tOr, tChain, tIf, tB, tNever, tRetN, tDrop, tTup, tLst, tMeth, tMake, tM0, tM1, tBits, tTruI, tBM, gSub, tSl, tNoPart, tPart, gcE, gnE, bs_length, tListRevR, tRg1, tFldE, sFldE, tPar3, cxK, nxK, List.append_nil, L2.start, List.map_cons, List.map_nil, List.length_cons, List.length_nil, List.replicate, List.cons_append, List.nil_append, List.getElem?_cons_zero, List.getElem?_cons_succ, List.set_cons_zero, List.set_cons_succ, Option.some.injEq, V.int.injEq, V.bl.injEq, V.str.injEq, V.ref.injEq, exists_eq_left', exists_eq_left, exists_and_left, List.cons.injEq, and_true, true_and, eq_self_iff_true, Nat.reduceAdd, Nat.reduceSub, Nat.zero_add, frE T hF]
  have e : (F.Hh : Int) + (F.T : Int) - 1 = ((F.Hh + F.T - 1 : Nat) : Int) := by have := ok.b; omega
  rw [e, fdiv_nat]
  have := ok.b
  exact ⟨⟨by omega, by omega⟩, q⟩
theorem Fr.across_le {F : Fr} (h : F.ok) : 1 ≤ F.across ∧ F.across ≤ 4 ∧ 1 ≤ F.down ∧ F.down ≤ 4 := by
  have hb := h.b
  unfold Fr.across Fr.down
  rcases h.T with e | e <;> rw [e] <;> omega
def spTiles (CF : Addr) : Sp := fun vs H Q _ => ∃ (a : Addr) (F : Fr), vs = [.ref a] ∧ FrAt CF H a F ∧ F.ok ∧ Q (.int F.tiles) H
theorem has_Frame_tiles (T : Top K mg CF CP CA) : HasM P w K mg base CX0 2 CF "tiles" ["self"] (spTiles CF) := by
  obtain ⟨f_Frame_across, fd_Frame_across, mm_Frame_across, b_Frame_across, F_Frame_across⟩ := (has_Frame_across (P := P) (w := w) (base := base) T).ex
  obtain ⟨f_Frame_down, fd_Frame_down, mm_Frame_down, b_Frame_down, F_Frame_down⟩ := (has_Frame_down (P := P) (w := w) (base := base) T).ex
  refine hasM0 T.m_Frame_tiles sc_Frame_tiles (fun vs H Q E h => by
    repeat (obtain ⟨_, h⟩ := h)
    subst_vars
    rfl) fun f cdv A outer s H vs Q E hr h => ?_
  obtain ⟨a, F, rfl, hF, ok, q⟩ := h
  refine ⟨_, (pss_one (ps_ret (pe_op op_mul (pe_meth0 (pv 0) T.clF mm_Frame_across F_Frame_across (hr.mono (by decide)) b_Frame_across .nil pass0) (pe_meth0 (pv 0) T.clF mm_Frame_down F_Frame_down (hr.mono (by decide)) b_Frame_down .nil pass0)))), ?_⟩
  obtain ⟨dx, hF0⟩ := hF
  simp only [tSeq, tAsg, tRet, tIfS, tTest, tOp, tUn, tVar, tC, tCons, tNil, tCB, tHas, gName, rI0, rI, rU, tNext, tNot, tAnd, tOr, tChain, tIf, tB, tNever, tRetN, tDrop, tTup, tLst, tMeth, tMake, tM0, tM1, tBits, tTruI, tBM, gSub, tSl, tNoPart, tPart, gcE, gnE, bs_length, tListRevR, tRg1, tFldE, sFldE, tPar3, cxK, nxK, List.append_nil, L2.start, List.map_cons, List.map_nil, List.length_cons, List.length_nil, List.replicate, List.cons_append, List.nil_append, List.getElem?_cons_zero, List.getElem?_cons_succ, List.set_cons_zero, List.set_cons_succ, Option.some.injEq, V.int.injEq, V.bl.injEq, V.str.injEq, V.ref.injEq, exists_eq_left', exists_eq_left, exists_and_left, List.cons.injEq, and_true, true_and, eq_self_iff_true, Nat.reduceAdd, Nat.reduceSub, Nat.zero_add, frE T ⟨dx, hF0⟩]
  have hl := Fr.across_le ok
  refine ⟨dx, fsF F, hF0, rfl, a, F, rfl, ⟨dx, hF0⟩, ok, dx, fsF F, hF0, rfl, a, F, rfl, ⟨dx, hF0⟩, ok, _, rfl, _, rfl, .inl ⟨by omega, by omega⟩, ?_⟩
  rw [← Int.natCast_mul]
  exact q
def spPixels (CF : Addr) : Sp := fun vs H Q _ => ∃ (a : Addr) (F : Fr), vs = [.ref a] ∧ FrAt CF H a F ∧ F.ok ∧ Q (.int F.pixels) H
theorem has_Frame_pixels (T : Top K mg CF CP CA) : HasM P w K mg base CX0 1 CF "pixels" ["self"] (spPixels CF) := by
  refine hasM0 T.m_Frame_pixels sc_Frame_pixels (fun vs H Q E h => by
    repeat (obtain ⟨_, h⟩ := h)
    subst_vars
    rfl) fun f cdv A outer s H vs Q E hr h => ?_
  obtain ⟨a, F, rfl, hF, ok, q⟩ := h
  refine ⟨_, (pss_one (ps_ret (pe_op op_mul (pe_fld (pv 0) rfl) (pe_fld (pv 0) rfl)))), ?_⟩
  simp only [tSeq, tAsg, tRet, tIfS, tTest, tOp, tUn, tVar, tC, tCons, tNil, tCB, tHas, gName, rI0, rI, rU, tNext, tNot, tAnd, tOr, tChain, tIf, tB, tNever, tRetN, tDrop, tTup, tLst, tMeth, tMake, tM0, tM1, tBits, tTruI, tBM, gSub, tSl, tNoPart, tPart, gcE, gnE, bs_length, tListRevR, tRg1, tFldE, sFldE, tPar3, cxK, nxK, List.append_nil, L2.start, List.map_cons, List.map_nil, List.length_cons, List.length_nil, List.replicate, List.cons_append, List.nil_append, List.getElem?_cons_zero, List.getElem?_cons_succ, List.set_cons_zero, List.set_cons_succ, Option.some.injEq, V.int.injEq, V.bl.injEq, V.str.injEq, V.ref.injEq, exists_eq_left', exists_eq_left, exists_and_left, List.cons.injEq, and_true, true_and, eq_self_iff_true, Nat.reduceAdd, Nat.reduceSub, Nat.zero_add, frE T hF]
  have := ok.b
  exact ⟨.inl ⟨by omega, by omega⟩, by rw [← Int.natCast_mul]; exact q⟩
theorem fr_all : ((List.range 4).all fun w => (List.range 4).all fun h => (List.range 2).all fun t => (List.range (Fr.tiles ⟨w + 1, h + 1, 0, 0, t + 1⟩)).all fun i => let F : Fr := ⟨w + 1, h + 1, 0, 0, t + 1⟩; decide (F.left i < F.W ∧ F.top i < F.Hh ∧ (F.tw i = 1 ∨ F.tw i = 2) ∧ (F.th i = 1 ∨ F.th i = 2) ∧ (F.px i).length = F.tw i * F.th i ∧ F.tiles ≤ 16) && (F.px i).all fun x => decide (x < F.pixels)) = true := by decide +kernel
theorem Fr.facts {F : Fr} (h : F.ok) {i : Nat} (hi : i < F.tiles) : F.left i < F.W ∧ F.top i < F.Hh ∧ (F.tw i = 1 ∨ F.tw i = 2) ∧ (F.th i = 1 ∨ F.th i = 2) ∧ (F.px i).length = F.tw i * F.th i ∧ F.tiles ≤ 16 ∧ ∀ x ∈ F.px i, x < F.pixels := by
  have hb := h.b
  have e := List.all_eq_true.mp (List.all_eq_true.mp (List.all_eq_true.mp fr_all (F.W - 1) (List.mem_range.mpr (by omega))) (F.Hh - 1) (List.mem_range.mpr (by omega))) (F.T - 1) (List.mem_range.mpr (by omega))
  rw [show F.W - 1 + 1 = F.W by omega, show F.Hh - 1 + 1 = F.Hh by omega, show F.T - 1 + 1 = F.T by omega] at e
  have e2 := List.all_eq_true.mp e i (List.mem_range.mpr hi)
  simp only [Bool.and_eq_true, decide_eq_true_eq, List.all_eq_true] at e2
  obtain ⟨⟨a1, a2, a3, a4, a5, a6⟩, a7⟩ := e2
  exact ⟨a1, a2, a3, a4, a5, a6, a7⟩
def spCorner (CF : Addr) : Sp := fun vs H Q _ => ∃ (a : Addr) (F : Fr) (t : Nat), vs = [.ref a, .int (t : Int)] ∧ FrAt CF H a F ∧ F.ok ∧ t < F.tiles ∧ ∀ p H', H p = none → Ex H H' → H' p = some (.tup [.int (F.left t : Nat), .int (F.top t : Nat)]) → Q (.ref p) H'
theorem has_tile_corner (T : Top K mg CF CP CA) : Has P w K mg base CX0 2 "tile_corner" ["frame", "tile"] (spCorner CF) := by
  obtain ⟨f_Frame_across, fd_Frame_across, mm_Frame_across, b_Frame_across, F_Frame_across⟩ := (has_Frame_across (P := P) (w := w) (base := base) T).ex
  refine has0 T.d_tile_corner sc_tile_corner (fun vs H Q E h => by
    repeat (obtain ⟨_, h⟩ := h)
    subst_vars
    rfl) fun f cdv A outer s H vs Q E hr h => ?_
  obtain ⟨a, F, t, rfl, hF, ok, ht, q⟩ := h
  refine ⟨_, (pss_cons (ps_asg (pe_callB call_divmodW rfl T.n_divmod (by decide +kernel) (pa_cons (pv 1) (pa_cons (pe_meth0 (pv 0) T.clF mm_Frame_across F_Frame_across (hr.mono (by decide)) b_Frame_across .nil pass0) pa_nil))) (pg_tup rfl (pgs_cons (pg_name (i := 2) sc_tile_corner.nd rfl (by first | exact .inl rfl | exact .inr rfl)) (pgs_cons (pg_name (i := 3) sc_tile_corner.nd rfl (by first | exact .inl rfl | exact .inr rfl)) pgs_nil))))
      (pss_one (ps_ret (pe_tup (pa_cons (pe_op op_mul (pv 3) (pe_fld (pv 0) rfl)) (pa_cons (pe_op op_mul (pv 2) (pe_fld (pv 0) rfl)) pa_nil)))))), ?_⟩
  obtain ⟨dx, hF0⟩ := hF
  simp only [tSeq, tAsg, tRet, tIfS, tTest, tOp, tUn, tVar, tC, tCons, tNil, tCB, tHas, gName, rI0, rI, rU, tNext, tNot, tAnd, tOr, tChain, tIf, tB, tNever, tRetN, tDrop, tTup, tLst, tMeth, tMake, tM0, tM1, tBits, tTruI, tBM, gSub, tSl, tNoPart, tPart, gcE, gnE, bs_length, tListRevR, tRg1, tFldE, sFldE, tPar3, cxK, nxK, List.append_nil, L2.start, List.map_cons, List.map_nil, List.length_cons, List.length_nil, List.replicate, List.cons_append, List.nil_append, List.getElem?_cons_zero, List.getElem?_cons_succ, List.set_cons_zero, List.set_cons_succ, Option.some.injEq, V.int.injEq, V.bl.injEq, V.str.injEq, V.ref.injEq, exists_eq_left', exists_eq_left, exists_and_left, List.cons.injEq, and_true, true_and, eq_self_iff_true, Nat.reduceAdd, Nat.reduceSub, Nat.zero_add, frE T ⟨dx, hF0⟩]
  have hl := Fr.across_le ok
  refine ⟨dx, fsF F, hF0, rfl, a, F, rfl, ⟨dx, hF0⟩, ok, _, _, ⟨rfl, rfl⟩, cdivP (by omega) (by omega), fun p hp => gtup (st_of upd_same) rfl ?_⟩
  have hF1 : FrAt CF (upd H p (.tup [.int ((t : Int) / (F.across : Int)), .int ((t : Int) % (F.across : Int))])) a F := FrAt.mono (Ex.new hp) ⟨dx, hF0⟩
  simp only [tSeq, tAsg, tRet, tIfS, tTest, tOp, tUn, tVar, tC, tCons, tNil, tCB, tHas, gName, rI0, rI, rU, tNext, tNot, tAnd, tOr, tChain, tIf, tB, tNever, tRetN, tDrop, tTup, tLst, tMeth, tMake, tM0, tM1, tBits, tTruI, tBM, gSub, tSl, tNoPart, tPart, gcE, gnE, bs_length, tListRevR, tRg1, tFldE, sFldE, tPar3, cxK, nxK, List.append_nil, L2.start, List.map_cons, List.map_nil, List.length_cons, List.length_nil, List.replicate, List.cons_append, List.nil_append, List.getElem?_cons_zero, List.getElem?_cons_succ, List.set_cons_zero, List.set_cons_succ, Option.some.injEq, V.int.injEq, V.bl.injEq, V.str.injEq, V.ref.injEq, exists_eq_left', exists_eq_left, exists_and_left, List.cons.injEq, and_true, true_and, eq_self_iff_true, Nat.reduceAdd, Nat.reduceSub, Nat.zero_add, frE T hF1]
  have e1 : (t : Int) % (F.across : Int) * (F.T : Int) = (F.left t : Nat) := by
    unfold Fr.left
    rw [Int.natCast_mul, Int.natCast_emod]
  have e2 : (t : Int) / (F.across : Int) * (F.T : Int) = (F.top t : Nat) := by
    unfold Fr.top
    rw [Int.natCast_mul, Int.natCast_ediv]
  have hT := ok.T
  refine ⟨.inr ⟨by omega, by omega⟩, .inr ⟨by omega, by omega⟩, by decide, fun p1 hp1 => ?_⟩
  rw [e1, e2]
  exact q p1 _ (fresh_back (Ex.new hp) hp1) ((Ex.new hp).trans (Ex.new hp1)) upd_same
theorem min_eq {i j : Nat} : (if (j : Int) < (i : Int) then (j : Int) else (i : Int)) = ((min i j : Nat) : Int) := by
  by_cases h : j < i
  · rw [if_pos (by omega)]; omega
  · rw [if_neg (by omega)]; omega
def spSize (CF : Addr) : Sp := fun vs H Q _ => ∃ (a : Addr) (F : Fr) (t : Nat), vs = [.ref a, .int (t : Int)] ∧ FrAt CF H a F ∧ F.ok ∧ t < F.tiles ∧ ∀ p H', H p = none → Ex H H' → H' p = some (.tup [.int (F.tw t : Nat), .int (F.th t : Nat)]) → Q (.ref p) H'
theorem has_tile_size (T : Top K mg CF CP CA) : Has P w K mg base CX0 3 "tile_size" ["frame", "tile"] (spSize CF) := by
  have G_tile_corner := has_tile_corner (P := P) (w := w) (base := base) T
  refine has0 T.d_tile_size sc_tile_size (fun vs H Q E h => by
    repeat (obtain ⟨_, h⟩ := h)
    subst_vars
    rfl) fun f cdv A outer s H vs Q E hr h => ?_
  obtain ⟨a, F, t, rfl, hF, ok, ht, q⟩ := h
  refine ⟨_, (pss_cons (ps_asg (pe_has G_tile_corner (hr.mono (by decide)) (pa_cons (pv 0) (pa_cons (pv 1) pa_nil))) (pg_tup rfl (pgs_cons (pg_name (i := 2) sc_tile_size.nd rfl (by first | exact .inl rfl | exact .inr rfl)) (pgs_cons (pg_name (i := 3) sc_tile_size.nd rfl (by first | exact .inl rfl | exact .inr rfl)) pgs_nil))))
      (pss_one (ps_ret (pe_tup (pa_cons (pe_callB (call_min2 rfl) rfl T.n_min (by decide +kernel) (pa_cons (pe_fld (pv 0) rfl) (pa_cons (pe_op op_sub (pe_fld (pv 0) rfl) (pv 2)) pa_nil))) (pa_cons (pe_callB (call_min2 rfl) rfl T.n_min (by decide +kernel) (pa_cons (pe_fld (pv 0) rfl) (pa_cons (pe_op op_sub (pe_fld (pv 0) rfl) (pv 3)) pa_nil))) pa_nil)))))), ?_⟩
  simp only [tSeq, tAsg, tRet, tIfS, tTest, tOp, tUn, tVar, tC, tCons, tNil, tCB, tHas, gName, rI0, rI, rU, tNext, tNot, tAnd, tOr, tChain, tIf, tB, tNever, tRetN, tDrop, tTup, tLst, tMeth, tMake, tM0, tM1, tBits, tTruI, tBM, gSub, tSl, tNoPart, tPart, gcE, gnE, bs_length, tListRevR, tRg1, tFldE, sFldE, tPar3, cxK, nxK, List.append_nil, L2.start, List.map_cons, List.map_nil, List.length_cons, List.length_nil, List.replicate, List.cons_append, List.nil_append, List.getElem?_cons_zero, List.getElem?_cons_succ, List.set_cons_zero, List.set_cons_succ, Option.some.injEq, V.int.injEq, V.bl.injEq, V.str.injEq, V.ref.injEq, exists_eq_left', exists_eq_left, exists_and_left, List.cons.injEq, and_true, true_and, eq_self_iff_true, Nat.reduceAdd, Nat.reduceSub, Nat.zero_add]
  refine ⟨a, F, t, rfl, hF, ok, ht, fun p H1 hp e1 h1 => gtup (st_of h1) rfl ?_⟩
  simp only [tSeq, tAsg, tRet, tIfS, tTest, tOp, tUn, tVar, tC, tCons, tNil, tCB, tHas, gName, rI0, rI, rU, tNext, tNot, tAnd, tOr, tChain, tIf, tB, tNever, tRetN, tDrop, tTup, tLst, tMeth, tMake, tM0, tM1, tBits, tTruI, tBM, gSub, tSl, tNoPart, tPart, gcE, gnE, bs_length, tListRevR, tRg1, tFldE, sFldE, tPar3, cxK, nxK, List.append_nil, L2.start, List.map_cons, List.map_nil, List.length_cons, List.length_nil, List.replicate, List.cons_append, List.nil_append, List.getElem?_cons_zero, List.getElem?_cons_succ, List.set_cons_zero, List.set_cons_succ, Option.some.injEq, V.int.injEq, V.bl.injEq, V.str.injEq, V.ref.injEq, exists_eq_left', exists_eq_left, exists_and_left, List.cons.injEq, and_true, true_and, eq_self_iff_true, Nat.reduceAdd, Nat.reduceSub, Nat.zero_add, frE T (hF.mono e1)]
  obtain ⟨f1, f2, _⟩ := Fr.facts ok ht
  have m1 : (F.W : Int) - (F.left t : Int) = ((F.W - F.left t : Nat) : Int) := by omega
  have m2 : (F.Hh : Int) - (F.top t : Int) = ((F.Hh - F.top t : Nat) : Int) := by omega
  rw [m1, m2]
  refine ⟨_, _, ⟨rfl, rfl⟩, _, _, ⟨rfl, rfl⟩, by decide, fun p2 hp2 => ?_⟩
  rw [min_eq, min_eq]
  exact q p2 _ (fresh_back e1 hp2) (e1.trans (Ex.new hp2)) upd_same
def intsN (l : List Nat) : List V := l.map fun n : Nat => V.int (n : Int)
def spPx (CF : Addr) : Sp := fun vs H Q _ => ∃ (a : Addr) (F : Fr) (t : Nat), vs = [.ref a, .int (t : Int)] ∧ FrAt CF H a F ∧ F.ok ∧ t < F.tiles ∧ ∀ p H', H p = none → Ex H H' → H' p = some (.lst (intsN (F.px t))) → Q (.ref p) H'
theorem has_tile_pixels (T : Top K mg CF CP CA) : Has P w K mg base CX0 4 "tile_pixels" ["frame", "tile"] (spPx CF) := by
  have G_tile_corner := has_tile_corner (P := P) (w := w) (base := base) T
  have G_tile_size := has_tile_size (P := P) (w := w) (base := base) T
  refine has0 T.d_tile_pixels sc_tile_pixels (fun vs H Q E h => by
    repeat (obtain ⟨_, h⟩ := h)
    subst_vars
    rfl) fun f cdv A outer s H vs Q E hr h => ?_
  obtain ⟨a, F, t, rfl, hF, ok, ht, q⟩ := h
  refine ⟨_, (pss_cons (ps_asg (pe_has G_tile_corner (hr.mono (by decide)) (pa_cons (pv 0) (pa_cons (pv 1) pa_nil))) (pg_tup rfl (pgs_cons (pg_name (i := 2) sc_tile_pixels.nd rfl (by first | exact .inl rfl | exact .inr rfl)) (pgs_cons (pg_name (i := 3) sc_tile_pixels.nd rfl (by first | exact .inl rfl | exact .inr rfl)) pgs_nil))))
      (pss_cons (ps_asg (pe_has G_tile_size (hr.mono (by decide)) (pa_cons (pv 0) (pa_cons (pv 1) pa_nil))) (pg_tup rfl (pgs_cons (pg_name (i := 4) sc_tile_pixels.nd rfl (by first | exact .inl rfl | exact .inr rfl)) (pgs_cons (pg_name (i := 5) sc_tile_pixels.nd rfl (by first | exact .inl rfl | exact .inr rfl)) pgs_nil))))
      (pss_one (ps_ret (pe_lc2 (own := [("y", 6), ("x", 7)]) (vs1 := [7]) rfl sc_tile_pixels.nd (pi_range1 rfl T.n_range (pa_cons (pv 5) pa_nil)) (blkOk_by (N := ["frame", "tile", "left", "top", "width", "height", "y", "x"]) (sc := defScope s_tile_pixels) (by decide +kernel)) (by decide) (fun _ _ _ _ _ => by exact (pg_name (i := 6) sc_tile_pixels.nd rfl (by first | exact .inl rfl | exact .inr rfl))) (fun _ _ _ _ _ => by exact pts_nil) (fun _ _ _ _ _ => by exact (pi_range1 rfl T.n_range (pa_cons (pv 4) pa_nil))) (fun _ _ _ _ _ => by exact (pg_name (i := 7) sc_tile_pixels.nd rfl (by first | exact .inl rfl | exact .inr rfl))) (fun _ _ _ _ _ => by exact pts_nil) (fun _ _ _ _ _ => by exact (pe_op op_add (pe_op op_add (pe_op op_mul (pe_op op_add (pv 3) (pv 6)) (pe_fldK (K := K) rfl (pv 0) rfl)) (pv 2)) (pv 7)))))))), ?_⟩
  simp only [tSeq, tAsg, tRet, tIfS, tTest, tOp, tUn, tVar, tC, tCons, tNil, tCB, tHas, gName, rI0, rI, rU, tNext, tNot, tAnd, tOr, tChain, tIf, tB, tNever, tRetN, tDrop, tTup, tLst, tMeth, tMake, tM0, tM1, tBits, tTruI, tBM, gSub, tSl, tNoPart, tPart, gcE, gnE, bs_length, tListRevR, tRg1, tFldE, sFldE, tPar3, cxK, nxK, List.append_nil, L2.start, List.map_cons, List.map_nil, List.length_cons, List.length_nil, List.replicate, List.cons_append, List.nil_append, List.getElem?_cons_zero, List.getElem?_cons_succ, List.set_cons_zero, List.set_cons_succ, Option.some.injEq, V.int.injEq, V.bl.injEq, V.str.injEq, V.ref.injEq, exists_eq_left', exists_eq_left, exists_and_left, List.cons.injEq, and_true, true_and, eq_self_iff_true, Nat.reduceAdd, Nat.reduceSub, Nat.zero_add]
  refine ⟨a, F, t, rfl, hF, ok, ht, fun p H1 hp e1 h1 => gtup (st_of h1) rfl ?_⟩
  simp only [tSeq, tAsg, tRet, tIfS, tTest, tOp, tUn, tVar, tC, tCons, tNil, tCB, tHas, gName, rI0, rI, rU, tNext, tNot, tAnd, tOr, tChain, tIf, tB, tNever, tRetN, tDrop, tTup, tLst, tMeth, tMake, tM0, tM1, tBits, tTruI, tBM, gSub, tSl, tNoPart, tPart, gcE, gnE, bs_length, tListRevR, tRg1, tFldE, sFldE, tPar3, cxK, nxK, List.append_nil, L2.start, List.map_cons, List.map_nil, List.length_cons, List.length_nil, List.replicate, List.cons_append, List.nil_append, List.getElem?_cons_zero, List.getElem?_cons_succ, List.set_cons_zero, List.set_cons_succ, Option.some.injEq, V.int.injEq, V.bl.injEq, V.str.injEq, V.ref.injEq, exists_eq_left', exists_eq_left, exists_and_left, List.cons.injEq, and_true, true_and, eq_self_iff_true, Nat.reduceAdd, Nat.reduceSub, Nat.zero_add, frE T (hF.mono e1)]
  refine ⟨a, F, t, rfl, hF.mono e1, ok, ht, fun p2 H2 hp2 e2 h2 => gtup (st_of h2) rfl ?_⟩
  simp only [tSeq, tAsg, tRet, tIfS, tTest, tOp, tUn, tVar, tC, tCons, tNil, tCB, tHas, gName, rI0, rI, rU, tNext, tNot, tAnd, tOr, tChain, tIf, tB, tNever, tRetN, tDrop, tTup, tLst, tMeth, tMake, tM0, tM1, tBits, tTruI, tBM, gSub, tSl, tNoPart, tPart, gcE, gnE, bs_length, tListRevR, tRg1, tFldE, sFldE, tPar3, cxK, nxK, List.append_nil, L2.start, List.map_cons, List.map_nil, List.length_cons, List.length_nil, List.replicate, List.cons_append, List.nil_append, List.getElem?_cons_zero, List.getElem?_cons_succ, List.set_cons_zero, List.set_cons_succ, Option.some.injEq, V.int.injEq, V.bl.injEq, V.str.injEq, V.ref.injEq, exists_eq_left', exists_eq_left, exists_and_left, List.cons.injEq, and_true, true_and, eq_self_iff_true, Nat.reduceAdd, Nat.reduceSub, Nat.zero_add, frE T (hF.mono (e1.trans e2)), lc2_is]
  obtain ⟨f1, f2, f3, f4, f5, f6, f7⟩ := Fr.facts ok ht
  have hb := ok.b
  refine lc2_rng (n := F.th t) (n1 := F.tw t) (fun Q q => ⟨_, rfl, q⟩) (by omega) (by omega) (fun _ => rfl) (fun _ _ => rfl) (fun i H' Q hi e3 q => ⟨_, rfl, q⟩) (fun y x => .int (((F.top t + y) * F.W + F.left t + x : Nat) : Int)) (fun i k H3 R hi hk e3 hR => ?_) fun p3 H3 hp3 e3 h3 => ?_
  · show tOp _ _ _ _ _ _
    simp only [wipe, List.set_cons_zero, List.set_cons_succ, List.foldl_cons, List.foldl_nil]
    simp only [tSeq, tAsg, tRet, tIfS, tTest, tOp, tUn, tVar, tC, tCons, tNil, tCB, tHas, gName, rI0, rI, rU, tNext, tNot, tAnd, tOr, tChain, tIf, tB, tNever, tRetN, tDrop, tTup, tLst, tMeth, tMake, tM0, tM1, tBits, tTruI, tBM, gSub, tSl, tNoPart, tPart, gcE, gnE, bs_length, tListRevR, tRg1, tFldE, sFldE, tPar3, cxK, nxK, List.append_nil, L2.start, List.map_cons, List.map_nil, List.length_cons, List.length_nil, List.replicate, List.cons_append, List.nil_append, List.getElem?_cons_zero, List.getElem?_cons_succ, List.set_cons_zero, List.set_cons_succ, Option.some.injEq, V.int.injEq, V.bl.injEq, V.str.injEq, V.ref.injEq, exists_eq_left', exists_eq_left, exists_and_left, List.cons.injEq, and_true, true_and, eq_self_iff_true, Nat.reduceAdd, Nat.reduceSub, Nat.zero_add, frE T (hF.mono ((e1.trans e2).trans e3))]
    refine ⟨.inr ⟨by omega, by omega⟩, ?_⟩
    have e : ((F.top t : Int) + (i : Int)) * (F.W : Int) + (F.left t : Int) + (k : Int) = (((F.top t + i) * F.W + F.left t + k : Nat) : Int) := by
      rw [Int.natCast_add, Int.natCast_add, Int.natCast_mul, Int.natCast_add]
    rw [e]
    exact hR H3 (Ex.refl _)
  · refine q p3 H3 (fresh_back (e1.trans e2) hp3) ((e1.trans e2).trans e3) (h3.trans ?_)
    unfold intsN Fr.px
    rw [List.map_flatMap]
    simp only [List.map_map]
    rfl
end
/-! ### keys -/
abbrev Key := Nat × Nat × Nat
def keyT (k : Key) : HO := .tup [.int (k.1 : Int), .int (k.2.1 : Int), .int (k.2.2 : Int)]
def KeyAt (H : Hp) (v : V) (k : Key) : Prop := ∃ a, v = .ref a ∧ H a = some (keyT k)
inductive All2 {α β : Type} (R : α → β → Prop) : List α → List β → Prop
  | nil : All2 R [] []
  | cons {a b as bs} : R a b → All2 R as bs → All2 R (a :: as) (b :: bs)
theorem All2.mono {α β : Type} {R S : α → β → Prop} (h : ∀ a b, R a b → S a b) : ∀ {as bs}, All2 R as bs → All2 S as bs
  | _, _, .nil => .nil
  | _, _, .cons r rr => .cons (h _ _ r) (rr.mono h)
theorem All2.snoc {α β : Type} {R : α → β → Prop} {a b} (h : R a b) : ∀ {as bs}, All2 R as bs → All2 R (as ++ [a]) (bs ++ [b])
  | _, _, .nil => .cons h .nil
  | _, _, .cons r rr => .cons r (rr.snoc h)
theorem All2.length {α β : Type} {R : α → β → Prop} : ∀ {as : List α} {bs : List β}, All2 R as bs → as.length = bs.length
  | _, _, .nil => rfl
  | _, _, .cons _ rr => by rw [List.length_cons, List.length_cons, rr.length]
theorem All2.get {α β : Type} {R : α → β → Prop} : ∀ {as : List α} {bs : List β} {i : Nat} {a : α}, All2 R as bs → as[i]? = some a → ∃ b, bs[i]? = some b ∧ R a b
  | _, _, _, _, .nil, h => by simp at h
  | _, _, 0, _, .cons r _, h => by
    simp only [List.getElem?_cons_zero, Option.some.injEq] at h
    subst h
    exact ⟨_, rfl, r⟩
  | _, _, i + 1, _, .cons _ rr, h => by
    simp only [List.getElem?_cons_succ] at h ⊢
    exact rr.get h
theorem All2.get' {α β : Type} {R : α → β → Prop} : ∀ {as : List α} {bs : List β} {i : Nat} {b : β}, All2 R as bs → bs[i]? = some b → ∃ a, as[i]? = some a ∧ R a b
  | _, _, _, _, .nil, h => by simp at h
  | _, _, 0, _, .cons r _, h => by
    simp only [List.getElem?_cons_zero, Option.some.injEq] at h
    subst h
    exact ⟨_, rfl, r⟩
  | _, _, i + 1, _, .cons _ rr, h => by
    simp only [List.getElem?_cons_succ] at h ⊢
    exact rr.get' h
def KeysAt (H : Hp) (xs : List V) (ks : List Key) : Prop := All2 (KeyAt H) xs ks
theorem KeyAt.mono {H H' : Hp} {v : V} {k : Key} (e : Ex H H') (h : KeyAt H v k) : KeyAt H' v k := by
  obtain ⟨a, ea, h⟩ := h
  exact ⟨a, ea, e _ _ h⟩
theorem KeyAt.lst {H : Hp} {v : V} {k : Key} {D : Addr} {xs ys : List V} (hD : H D = some (.lst xs)) (h : KeyAt H v k) : KeyAt (upd H D (.lst ys)) v k := by
  obtain ⟨a, ea, h⟩ := h
  refine ⟨a, ea, ?_⟩
  rw [upd_ne ?_]
  · exact h
  · rintro rfl
    rw [hD] at h
    cases h
theorem KeysAt.mono {H H' : Hp} {xs : List V} {ks : List Key} (e : Ex H H') (h : KeysAt H xs ks) : KeysAt H' xs ks := All2.mono (fun _ _ r => r.mono e) h
theorem KeysAt.lst {H : Hp} {xs : List V} {ks : List Key} {D : Addr} {us ys : List V} (hD : H D = some (.lst us)) (h : KeysAt H xs ks) : KeysAt (upd H D (.lst ys)) xs ks := All2.mono (fun _ _ r => r.lst hD) h
def Fr.keys (F : Fr) : List Key := (List.range F.D).flatMap fun i => (List.range F.C).flatMap fun c => (List.range F.tiles).map fun t => (c, t, F.D - 1 - i)
theorem Fr.tiles_le {F : Fr} (h : F.ok) : 1 ≤ F.tiles ∧ F.tiles ≤ 16 := by
  have hl := F.across_le h
  unfold Fr.tiles
  have h1 := Nat.mul_le_mul hl.2.1 hl.2.2.2
  have h2 := Nat.mul_le_mul hl.1 hl.2.2.1
  omega
theorem flatMap_snoc {β : Type} (f : Nat → List β) (n : Nat) : (List.range (n + 1)).flatMap f = (List.range n).flatMap f ++ f n := by
  rw [List.range_succ, List.flatMap_append]
  simp
theorem map_snoc {β : Type} (f : Nat → β) (n : Nat) : (List.range (n + 1)).map f = (List.range n).map f ++ [f n] := by
  rw [List.range_succ, List.map_append]
  rfl
section
variable {P : Program} {w : World} {K : PySem.W.Frag} {mg : Str → Option Value} {base : Heap} {CF CP CA : Addr}
def spKeys (CF : Addr) : Sp := fun vs H Q _ => ∃ (a : Addr) (F : Fr), vs = [.ref a] ∧ FrAt CF H a F ∧ F.ok ∧ ∀ p H' xs, H p = none → Ex H H' → H' p = some (.lst xs) → KeysAt H' xs F.keys → Q (.ref p) H'
theorem has_all_keys (T : Top K mg CF CP CA) : Has P w K mg base CX0 3 "all_keys" ["frame"] (spKeys CF) := by
  obtain ⟨f_Frame_tiles, fd_Frame_tiles, mm_Frame_tiles, b_Frame_tiles, F_Frame_tiles⟩ := (has_Frame_tiles (P := P) (w := w) (base := base) T).ex
  refine has0 T.d_all_keys sc_all_keys (fun vs H Q E h => by
    repeat (obtain ⟨_, h⟩ := h)
    subst_vars
    rfl) fun f cdv A outer s H vs Q E hr h => ?_
  obtain ⟨a, F, rfl, hF, ok, q⟩ := h
  refine ⟨_, (pss_cons (ps_set (i := 1) sc_all_keys.nd rfl (by first | exact .inl rfl | exact .inr rfl) (pe_meth0 (pv 0) T.clF mm_Frame_tiles F_Frame_tiles (hr.mono (by decide)) b_Frame_tiles .nil pass0))
      (pss_cons (ps_set (i := 2) sc_all_keys.nd rfl (by first | exact .inl rfl | exact .inr rfl) (pe_listRevR T.n_list T.n_reversed (prg_1 rfl T.n_range (pe_fld (pv 0) rfl))))
      (pss_one (ps_ret (pe_lc3 (own := [("plane", 3), ("channel", 4), ("tile", 5)]) (vs1 := [4, 5]) (vs2 := [5]) rfl sc_all_keys.nd (pi_list (pv 2)) (blkOk_by (N := ["frame", "tiles", "planes", "plane", "channel", "tile"]) (sc := defScope s_all_keys) (by decide +kernel)) (by decide) (by decide) (fun _ _ _ _ _ => ⟨by exact (pg_name (i := 3) sc_all_keys.nd rfl (by first | exact .inl rfl | exact .inr rfl)), by exact pts_nil, by exact (pi_range1 rfl T.n_range (pa_cons (pe_fldK (K := K) rfl (pv 0) rfl) pa_nil)), by exact (pg_name (i := 4) sc_all_keys.nd rfl (by first | exact .inl rfl | exact .inr rfl)), by exact pts_nil, by exact (pi_range1 rfl T.n_range (pa_cons (pv 1) pa_nil)), by exact (pg_name (i := 5) sc_all_keys.nd rfl (by first | exact .inl rfl | exact .inr rfl)), by exact pts_nil, by exact (pe_tup (pa_cons (pv 4) (pa_cons (pv 5) (pa_cons (pv 3) pa_nil))))⟩)))))), ?_⟩
  have hF' := hF
  obtain ⟨dx, hF0⟩ := hF'
  simp only [tSeq, tAsg, tRet, tIfS, tTest, tOp, tUn, tVar, tC, tCons, tNil, tCB, tHas, gName, rI0, rI, rU, tNext, tNot, tAnd, tOr, tChain, tIf, tB, tNever, tRetN, tDrop, tTup, tLst, tMeth, tMake, tM0, tM1, tBits, tTruI, tBM, gSub, tSl, tNoPart, tPart, gcE, gnE, bs_length, tListRevR, tRg1, tFldE, sFldE, tPar3, cxK, nxK, List.append_nil, L2.start, List.map_cons, List.map_nil, List.length_cons, List.length_nil, List.replicate, List.cons_append, List.nil_append, List.getElem?_cons_zero, List.getElem?_cons_succ, List.set_cons_zero, List.set_cons_succ, Option.some.injEq, V.int.injEq, V.bl.injEq, V.str.injEq, V.ref.injEq, exists_eq_left', exists_eq_left, exists_and_left, List.cons.injEq, and_true, true_and, eq_self_iff_true, Nat.reduceAdd, Nat.reduceSub, Nat.zero_add, frE T hF]
  have hb := ok.b
  have ht := F.tiles_le ok
  refine ⟨dx, fsF F, hF0, rfl, a, F, rfl, hF, ok, ?_⟩
  simp only [tSeq, tAsg, tRet, tIfS, tTest, tOp, tUn, tVar, tC, tCons, tNil, tCB, tHas, gName, rI0, rI, rU, tNext, tNot, tAnd, tOr, tChain, tIf, tB, tNever, tRetN, tDrop, tTup, tLst, tMeth, tMake, tM0, tM1, tBits, tTruI, tBM, gSub, tSl, tNoPart, tPart, gcE, gnE, bs_length, tListRevR, tRg1, tFldE, sFldE, tPar3, cxK, nxK, List.append_nil, L2.start, List.map_cons, List.map_nil, List.length_cons, List.length_nil, List.replicate, List.cons_append, List.nil_append, List.getElem?_cons_zero, List.getElem?_cons_succ, List.set_cons_zero, List.set_cons_succ, Option.some.injEq, V.int.injEq, V.bl.injEq, V.str.injEq, V.ref.injEq, exists_eq_left', exists_eq_left, exists_and_left, List.cons.injEq, and_true, true_and, eq_self_iff_true, Nat.reduceAdd, Nat.reduceSub, Nat.zero_add, frE T hF]
  refine ⟨F.D, rfl, by omega, fun p1 hp1 => ?_⟩
  have hF1 := hF.mono (Ex.new (o := .lst (dnV F.D)) hp1)
  have hdn : ∀ i, i < F.D → (dnV F.D)[i]? = some (.int ((F.D - 1 - i : Nat) : Int)) := fun i hi => by
    unfold dnV
    rw [List.getElem?_map, List.getElem?_range hi]
    show some (V.int ((F.D : Int) - 1 - (i : Int))) = _
    congr 2
    omega
  have hdl : (dnV F.D).length = F.D := by simp [dnV]
  let B : Nat → Nat → List Key := fun i c => (List.range F.tiles).map fun t => (c, t, F.D - 1 - i)
  let A : Nat → List Key := fun i => (List.range F.C).flatMap (B i)
  have lB : ∀ i c, (B i c).length = F.tiles := fun i c => by simp [B]
  have lA' : ∀ i n, ((List.range n).flatMap (B i)).length = n * F.tiles := fun i n => by
    induction n with
    | zero => simp
    | succ n ih => rw [flatMap_snoc, List.length_append, ih, lB, Nat.add_mul]; omega
  have lA : ∀ n, ((List.range n).flatMap A).length = n * (F.C * F.tiles) := fun n => by
    induction n with
    | zero => simp
    | succ n ih => rw [flatMap_snoc, List.length_append, ih, lA', Nat.add_mul]; omega
  refine c0_list (a := p1) (xs := dnV F.D) (fun Q q => ⟨_, rfl, q⟩) (sq_of upd_same) (fun _ => rfl)
    (fun D i H' => Ex (upd H p1 (.lst (dnV F.D))) H' ∧ ∃ acc, H' D = some (.lst acc) ∧ KeysAt H' acc ((List.range i).flatMap A))
    (fun D hD => ⟨Ex.new hD, [], upd_same, .nil⟩) (fun D i H' hD p => sq_of (p.1 _ _ upd_same)) ?_ ?_
  · rintro D i x H' hD hx ⟨e2, acc, hacc, hk⟩
    have hi : i < F.D := by rw [← hdl]; exact (List.getElem?_eq_some_iff.mp hx).1
    rw [hdn i hi] at hx
    obtain rfl := Option.some.inj hx
    refine yesT ?_
    refine cl_rng (n := F.C) (fun Q q => ?_) (by omega) (fun _ => rfl) (fun c H'' => Ex (upd H p1 (.lst (dnV F.D))) H'' ∧ ∃ acc, H'' D = some (.lst acc) ∧ KeysAt H'' acc ((List.range i).flatMap A ++ (List.range c).flatMap (B i)))
      ⟨e2, acc, hacc, by simpa using hk⟩ ?_ ?_
    · simp only [wipe, List.set_cons_zero, List.set_cons_succ, List.foldl_cons, List.foldl_nil]
      simp only [tSeq, tAsg, tRet, tIfS, tTest, tOp, tUn, tVar, tC, tCons, tNil, tCB, tHas, gName, rI0, rI, rU, tNext, tNot, tAnd, tOr, tChain, tIf, tB, tNever, tRetN, tDrop, tTup, tLst, tMeth, tMake, tM0, tM1, tBits, tTruI, tBM, gSub, tSl, tNoPart, tPart, gcE, gnE, bs_length, tListRevR, tRg1, tFldE, sFldE, tPar3, cxK, nxK, List.append_nil, L2.start, List.map_cons, List.map_nil, List.length_cons, List.length_nil, List.replicate, List.cons_append, List.nil_append, List.getElem?_cons_zero, List.getElem?_cons_succ, List.set_cons_zero, List.set_cons_succ, Option.some.injEq, V.int.injEq, V.bl.injEq, V.str.injEq, V.ref.injEq, exists_eq_left', exists_eq_left, exists_and_left, List.cons.injEq, and_true, true_and, eq_self_iff_true, Nat.reduceAdd, Nat.reduceSub, Nat.zero_add, frE T (hF1.mono e2)]
      exact q
    · rintro c H'' hc ⟨e3, acc2, hacc2, hk2⟩
      refine yesT ?_
      refine cl_rng (n := F.tiles) (fun Q q => ?_) (by omega) (fun _ => rfl) (fun t H'' => Ex (upd H p1 (.lst (dnV F.D))) H'' ∧ ∃ acc, H'' D = some (.lst acc) ∧ KeysAt H'' acc ((List.range i).flatMap A ++ (List.range c).flatMap (B i) ++ (List.range t).map fun t => (c, t, F.D - 1 - i)))
        ⟨e3, acc2, hacc2, by simpa using hk2⟩ ?_ ?_
      · simp only [wipe, List.set_cons_zero, List.set_cons_succ, List.foldl_cons, List.foldl_nil]
        simp only [tSeq, tAsg, tRet, tIfS, tTest, tOp, tUn, tVar, tC, tCons, tNil, tCB, tHas, gName, rI0, rI, rU, tNext, tNot, tAnd, tOr, tChain, tIf, tB, tNever, tRetN, tDrop, tTup, tLst, tMeth, tMake, tM0, tM1, tBits, tTruI, tBM, gSub, tSl, tNoPart, tPart, gcE, gnE, bs_length, tListRevR, tRg1, tFldE, sFldE, tPar3, cxK, nxK, List.append_nil, L2.start, List.map_cons, List.map_nil, List.length_cons, List.length_nil, List.replicate, List.cons_append, List.nil_append, List.getElem?_cons_zero, List.getElem?_cons_succ, List.set_cons_zero, List.set_cons_succ, Option.some.injEq, V.int.injEq, V.bl.injEq, V.str.injEq, V.ref.injEq, exists_eq_left', exists_eq_left, exists_and_left, List.cons.injEq, and_true, true_and, eq_self_iff_true, Nat.reduceAdd, Nat.reduceSub, Nat.zero_add]
        exact q
      · rintro t H3 ht3 ⟨e4, acc3, hacc3, hk3⟩
        refine yesT ?_
        simp only [wipe, List.set_cons_zero, List.set_cons_succ, List.foldl_cons, List.foldl_nil, tLast]
        simp only [tSeq, tAsg, tRet, tIfS, tTest, tOp, tUn, tVar, tC, tCons, tNil, tCB, tHas, gName, rI0, rI, rU, tNext, tNot, tAnd, tOr, tChain, tIf, tB, tNever, tRetN, tDrop, tTup, tLst, tMeth, tMake, tM0, tM1, tBits, tTruI, tBM, gSub, tSl, tNoPart, tPart, gcE, gnE, bs_length, tListRevR, tRg1, tFldE, sFldE, tPar3, cxK, nxK, List.append_nil, L2.start, List.map_cons, List.map_nil, List.length_cons, List.length_nil, List.replicate, List.cons_append, List.nil_append, List.getElem?_cons_zero, List.getElem?_cons_succ, List.set_cons_zero, List.set_cons_succ, Option.some.injEq, V.int.injEq, V.bl.injEq, V.str.injEq, V.ref.injEq, exists_eq_left', exists_eq_left, exists_and_left, List.cons.injEq, and_true, true_and, eq_self_iff_true, Nat.reduceAdd, Nat.reduceSub, Nat.zero_add]
        refine ⟨by decide, fun p4 hp4 => ?_⟩
        have hDp : D ≠ p4 := ne_of_none hacc3 hp4
        have hl3 := hk3.length
        rw [List.length_append, List.length_append, lA, lA', List.length_map, List.length_range] at hl3
        have w1 : i * (F.C * F.tiles) ≤ 3 * (3 * 16) := Nat.mul_le_mul (by omega) (Nat.mul_le_mul (by omega) (by omega))
        have w2 : c * F.tiles ≤ 3 * 16 := Nat.mul_le_mul (by omega) (by omega)
        have hD4 : (upd H3 p4 (.tup [.int (c : Int), .int (t : Int), .int ((F.D - 1 - i : Nat) : Int)])) D = some (.lst acc3) := by rw [upd_ne hDp]; exact hacc3
        refine ⟨acc3, hD4, sz_lt (by omega), Ex.mut (e4.trans (Ex.new hp4)) hD, _, upd_same, ?_⟩
        rw [map_snoc, ← List.append_assoc]
        exact All2.snoc (KeyAt.lst hD4 ⟨p4, rfl, upd_same⟩) ((hk3.mono (Ex.new hp4)).lst hD4)
      · rintro H3 ⟨e4, acc3, hacc3, hk3⟩
        refine ⟨e4, acc3, hacc3, ?_⟩
        rw [flatMap_snoc, ← List.append_assoc]
        exact hk3
    · rintro H'' ⟨e3, acc2, hacc2, hk2⟩
      refine ⟨e3, acc2, hacc2, ?_⟩
      rw [flatMap_snoc]
      exact hk2
  · rintro D H' hD ⟨e2, acc, hacc, hk⟩
    rw [hdl] at hk
    exact q D H' acc (fresh_back (Ex.new hp1) hD) ((Ex.new hp1).trans e2) hacc hk
def spCheckKey (CF : Addr) : Sp := fun vs H Q _ => ∃ (a k : Addr) (F : Fr) (key : Key), vs = [.ref a, .ref k] ∧ FrAt CF H a F ∧ F.ok ∧ H k = some (keyT key) ∧ (key.1 < F.C ∧ key.2.1 < F.tiles ∧ key.2.2 < F.D) ∧ Q .non H
theorem has_check_key (T : Top K mg CF CP CA) : Has P w K mg base CX0 3 "check_key" ["frame", "key"] (spCheckKey CF) := by
  obtain ⟨f_Frame_tiles, fd_Frame_tiles, mm_Frame_tiles, b_Frame_tiles, F_Frame_tiles⟩ := (has_Frame_tiles (P := P) (w := w) (base := base) T).ex
  refine has0 T.d_check_key sc_check_key (fun vs H Q E h => by
    repeat (obtain ⟨_, h⟩ := h)
    subst_vars
    rfl) fun f cdv A outer s H vs Q E hr h => ?_
  obtain ⟨a, k, F, key, rfl, hF, ok, hk, hr1, q⟩ := h
  refine ⟨_, (pss_cons (ps_asg (pv 1) (pg_tup rfl (pgs_cons (pg_name (i := 2) sc_check_key.nd rfl (by first | exact .inl rfl | exact .inr rfl)) (pgs_cons (pg_name (i := 3) sc_check_key.nd rfl (by first | exact .inl rfl | exact .inr rfl)) (pgs_cons (pg_name (i := 4) sc_check_key.nd rfl (by first | exact .inl rfl | exact .inr rfl)) pgs_nil)))))
      (pss_cons (ps_if (pt_not (pt_chain op_le op_lt pe_int (pv 2) (pe_fld (pv 0) rfl))) (pss_one ps_never) pss_nil)
      (pss_cons (ps_if (pt_not (pt_chain op_le op_lt pe_int (pv 3) (pe_meth0 (pv 0) T.clF mm_Frame_tiles F_Frame_tiles (hr.mono (by decide)) b_Frame_tiles .nil pass0))) (pss_one ps_never) pss_nil)
      (pss_one (ps_if (pt_not (pt_chain op_le op_lt pe_int (pv 4) (pe_fld (pv 0) rfl))) (pss_one ps_never) pss_nil))))), ?_⟩
  simp only [tSeq, tAsg, tRet, tIfS, tTest, tOp, tUn, tVar, tC, tCons, tNil, tCB, tHas, gName, rI0, rI, rU, tNext, tNot, tAnd, tOr, tChain, tIf, tB, tNever, tRetN, tDrop, tTup, tLst, tMeth, tMake, tM0, tM1, tBits, tTruI, tBM, gSub, tSl, tNoPart, tPart, gcE, gnE, bs_length, tListRevR, tRg1, tFldE, sFldE, tPar3, cxK, nxK, List.append_nil, L2.start, List.map_cons, List.map_nil, List.length_cons, List.length_nil, List.replicate, List.cons_append, List.nil_append, List.getElem?_cons_zero, List.getElem?_cons_succ, List.set_cons_zero, List.set_cons_succ, Option.some.injEq, V.int.injEq, V.bl.injEq, V.str.injEq, V.ref.injEq, exists_eq_left', exists_eq_left, exists_and_left, List.cons.injEq, and_true, true_and, eq_self_iff_true, Nat.reduceAdd, Nat.reduceSub, Nat.zero_add]
  refine gtup (st_of hk) rfl ?_
  simp only [tSeq, tAsg, tRet, tIfS, tTest, tOp, tUn, tVar, tC, tCons, tNil, tCB, tHas, gName, rI0, rI, rU, tNext, tNot, tAnd, tOr, tChain, tIf, tB, tNever, tRetN, tDrop, tTup, tLst, tMeth, tMake, tM0, tM1, tBits, tTruI, tBM, gSub, tSl, tNoPart, tPart, gcE, gnE, bs_length, tListRevR, tRg1, tFldE, sFldE, tPar3, cxK, nxK, List.append_nil, L2.start, List.map_cons, List.map_nil, List.length_cons, List.length_nil, List.replicate, List.cons_append, List.nil_append, List.getElem?_cons_zero, List.getElem?_cons_succ, List.set_cons_zero, List.set_cons_succ, Option.some.injEq, V.int.injEq, V.bl.injEq, V.str.injEq, V.ref.injEq, exists_eq_left', exists_eq_left, exists_and_left, List.cons.injEq, and_true, true_and, eq_self_iff_true, Nat.reduceAdd, Nat.reduceSub, Nat.zero_add, frE T hF]
  obtain ⟨dx, hF0⟩ := id hF
  rw [if_pos (decide_eq_true (by omega)), if_neg (by simp; omega), if_pos (decide_eq_true (by omega))]
  refine ⟨dx, fsF F, hF0, rfl, a, F, rfl, hF, ok, _, rfl, ?_⟩
  rw [if_neg (by simp; omega), if_pos (decide_eq_true (by omega))]
  simp only [tSeq, tAsg, tRet, tIfS, tTest, tOp, tUn, tVar, tC, tCons, tNil, tCB, tHas, gName, rI0, rI, rU, tNext, tNot, tAnd, tOr, tChain, tIf, tB, tNever, tRetN, tDrop, tTup, tLst, tMeth, tMake, tM0, tM1, tBits, tTruI, tBM, gSub, tSl, tNoPart, tPart, gcE, gnE, bs_length, tListRevR, tRg1, tFldE, sFldE, tPar3, cxK, nxK, List.append_nil, L2.start, List.map_cons, List.map_nil, List.length_cons, List.length_nil, List.replicate, List.cons_append, List.nil_append, List.getElem?_cons_zero, List.getElem?_cons_succ, List.set_cons_zero, List.set_cons_succ, Option.some.injEq, V.int.injEq, V.bl.injEq, V.str.injEq, V.ref.injEq, exists_eq_left', exists_eq_left, exists_and_left, List.cons.injEq, and_true, true_and, eq_self_iff_true, Nat.reduceAdd, Nat.reduceSub, Nat.zero_add, frE T hF]
  rw [if_neg (by simp; omega)]
  exact q
def spShape : Sp := fun vs H Q _ => ∃ (W Hh D C : Nat), vs = [.int (W : Int), .int (Hh : Int), .int (D : Int), .int (C : Int)] ∧ ((1 ≤ W ∧ W ≤ 64) ∧ (1 ≤ Hh ∧ Hh ≤ 64) ∧ (1 ≤ D ∧ D ≤ 8) ∧ (C = 1 ∨ C = 3)) ∧ Q .non H
theorem has_check_shape (T : Top K mg CF CP CA) : Has P w K mg base CX0 1 "check_shape" ["width", "height", "depth", "channels"] spShape := by
  refine has0 T.d_check_shape sc_check_shape (fun vs H Q E h => by
    repeat (obtain ⟨_, h⟩ := h)
    subst_vars
    rfl) fun f cdv A outer s H vs Q E hr h => ?_
  obtain ⟨W, Hh, D, C, rfl, ⟨⟨h1, h2⟩, ⟨h3, h4⟩, ⟨h5, h6⟩, h7⟩, q⟩ := h
  refine ⟨_, (pss_cons (ps_if (pt_not (pt_chain op_le op_le pe_int (pv 0) (pe_gint T.c_SIDE_MOST))) (pss_one ps_never) pss_nil)
      (pss_cons (ps_if (pt_not (pt_chain op_le op_le pe_int (pv 1) (pe_gint T.c_SIDE_MOST))) (pss_one ps_never) pss_nil)
      (pss_cons (ps_if (pt_not (pt_chain op_le op_le pe_int (pv 2) (pe_gint T.c_DEPTH_MOST))) (pss_one ps_never) pss_nil)
      (pss_one (ps_if (PW.pt (pw_and (pt_cmpR op_ne (pv 3) pe_int (nomark _)) (pw_and1 (pt_cmpR op_ne (pv 3) pe_int (nomark _))))) (pss_one ps_never) pss_nil))))), ?_⟩
  simp only [tSeq, tAsg, tRet, tIfS, tTest, tOp, tUn, tVar, tC, tCons, tNil, tCB, tHas, gName, rI0, rI, rU, tNext, tNot, tAnd, tOr, tChain, tIf, tB, tNever, tRetN, tDrop, tTup, tLst, tMeth, tMake, tM0, tM1, tBits, tTruI, tBM, gSub, tSl, tNoPart, tPart, gcE, gnE, bs_length, tListRevR, tRg1, tFldE, sFldE, tPar3, cxK, nxK, List.append_nil, L2.start, List.map_cons, List.map_nil, List.length_cons, List.length_nil, List.replicate, List.cons_append, List.nil_append, List.getElem?_cons_zero, List.getElem?_cons_succ, List.set_cons_zero, List.set_cons_succ, Option.some.injEq, V.int.injEq, V.bl.injEq, V.str.injEq, V.ref.injEq, exists_eq_left', exists_eq_left, exists_and_left, List.cons.injEq, and_true, true_and, eq_self_iff_true, Nat.reduceAdd, Nat.reduceSub, Nat.zero_add]
  rw [if_pos (decide_eq_true (by omega)), if_neg (by simp; omega), if_pos (decide_eq_true (by omega)), if_neg (by simp; omega), if_pos (decide_eq_true (by omega)), if_neg (by simp; omega)]
  rcases h7 with rfl | rfl
  · exact ⟨rfl, _, rfl, iteF q⟩
  · exact ⟨rfl, _, rfl, iteT ⟨rfl, _, rfl, iteF q⟩⟩
def spSizeOk : Sp := fun vs H Q _ => ∃ (W Hh C : Nat), vs = [.int (W : Int), .int (Hh : Int), .int (C : Int)] ∧ W ≤ 64 ∧ Hh ≤ 64 ∧ C ≤ 3 ∧ W * Hh * C ≤ 3072 ∧ Q .non H
theorem has_check_size (T : Top K mg CF CP CA) : Has P w K mg base CX0 1 "check_size" ["width", "height", "channels"] spSizeOk := by
  refine has0 T.d_check_size sc_check_size (fun vs H Q E h => by
    repeat (obtain ⟨_, h⟩ := h)
    subst_vars
    rfl) fun f cdv A outer s H vs Q E hr h => ?_
  obtain ⟨W, Hh, C, rfl, h1, h2, h3, h4, q⟩ := h
  refine ⟨_, (pss_one (ps_if (pt_cmpR op_gt (pe_op op_mul (pe_op op_mul (pv 0) (pv 1)) (pv 2)) (pe_gint T.c_VALUES_MOST) (nomark _)) (pss_one ps_never) pss_nil)), ?_⟩
  simp only [tSeq, tAsg, tRet, tIfS, tTest, tOp, tUn, tVar, tC, tCons, tNil, tCB, tHas, gName, rI0, rI, rU, tNext, tNot, tAnd, tOr, tChain, tIf, tB, tNever, tRetN, tDrop, tTup, tLst, tMeth, tMake, tM0, tM1, tBits, tTruI, tBM, gSub, tSl, tNoPart, tPart, gcE, gnE, bs_length, tListRevR, tRg1, tFldE, sFldE, tPar3, cxK, nxK, List.append_nil, L2.start, List.map_cons, List.map_nil, List.length_cons, List.length_nil, List.replicate, List.cons_append, List.nil_append, List.getElem?_cons_zero, List.getElem?_cons_succ, List.set_cons_zero, List.set_cons_succ, Option.some.injEq, V.int.injEq, V.bl.injEq, V.str.injEq, V.ref.injEq, exists_eq_left', exists_eq_left, exists_and_left, List.cons.injEq, and_true, true_and, eq_self_iff_true, Nat.reduceAdd, Nat.reduceSub, Nat.zero_add]
  refine ⟨.inl ⟨by omega, by omega⟩, .inr ⟨by omega, by omega⟩, ?_⟩
  have e : (W : Int) * (Hh : Int) * (C : Int) = ((W * Hh * C : Nat) : Int) := by rw [Int.natCast_mul, Int.natCast_mul]
  rw [e, if_neg (by simp; omega)]
  exact q
def spFrameI (CF : Addr) : Sp := fun vs H Q _ => ∃ (a dx : Addr) (F : Fr), vs = [.ref a, .int (F.W : Int), .int (F.Hh : Int), .int (F.D : Int), .int (F.C : Int), .int (F.T : Int)] ∧ F.ok ∧ H a = some (.ins CF dx []) ∧ Q .non (upd H a (.ins CF dx (fsF F)))
theorem has_Frame_init (T : Top K mg CF CP CA) : HasI P w K mg base CX0 2 CF ["self", "width", "height", "depth", "channels", "tile"] (spFrameI CF) := by
  have G_check_shape := has_check_shape (P := P) (w := w) (base := base) T
  have G_check_size := has_check_size (P := P) (w := w) (base := base) T
  refine hasI0 T.iF sc_Frame_init (fun vs H Q E h => by
    repeat (obtain ⟨_, h⟩ := h)
    subst_vars
    rfl) fun f cdv A outer s H vs Q E hr h => ?_
  obtain ⟨a, dx, F, rfl, ok, ha, q⟩ := h
  refine ⟨_, (pss_cons (ps_expr (pe_has G_check_shape (hr.mono (by decide)) (pa_cons (pv 1) (pa_cons (pv 2) (pa_cons (pv 3) (pa_cons (pv 4) pa_nil))))))
      (pss_cons (ps_if (pt_not (pt_chain op_le op_le pe_int (pv 5) (pe_gint T.c_TILE_MOST))) (pss_one ps_never) pss_nil)
      (pss_cons (ps_expr (pe_has G_check_size (hr.mono (by decide)) (pa_cons (pv 1) (pa_cons (pv 2) (pa_cons (pv 4) pa_nil)))))
      (pss_cons (ps_fld (pv 0) (pv 1) rfl)
      (pss_cons (ps_fld (pv 0) (pv 2) rfl)
      (pss_cons (ps_fld (pv 0) (pv 3) rfl)
      (pss_cons (ps_fld (pv 0) (pv 4) rfl)
      (pss_one (ps_fld (pv 0) (pv 5) rfl))))))))), ?_⟩
  simp only [tSeq, tAsg, tRet, tIfS, tTest, tOp, tUn, tVar, tC, tCons, tNil, tCB, tHas, gName, rI0, rI, rU, tNext, tNot, tAnd, tOr, tChain, tIf, tB, tNever, tRetN, tDrop, tTup, tLst, tMeth, tMake, tM0, tM1, tBits, tTruI, tBM, gSub, tSl, tNoPart, tPart, gcE, gnE, bs_length, tListRevR, tRg1, tFldE, sFldE, tPar3, cxK, nxK, List.append_nil, L2.start, List.map_cons, List.map_nil, List.length_cons, List.length_nil, List.replicate, List.cons_append, List.nil_append, List.getElem?_cons_zero, List.getElem?_cons_succ, List.set_cons_zero, List.set_cons_succ, Option.some.injEq, V.int.injEq, V.bl.injEq, V.str.injEq, V.ref.injEq, exists_eq_left', exists_eq_left, exists_and_left, List.cons.injEq, and_true, true_and, eq_self_iff_true, Nat.reduceAdd, Nat.reduceSub, Nat.zero_add]
  have hb := ok.b
  refine ⟨F.W, F.Hh, F.D, F.C, rfl, by have := ok.2.2.2.1; omega, ?_⟩
  dsimp only
  rw [if_pos (decide_eq_true (by omega)), if_neg (by simp; omega)]
  refine ⟨F.W, F.Hh, F.C, rfl, by omega, by omega, by omega, ?_, ?_⟩
  · have := Nat.mul_le_mul (Nat.mul_le_mul (show F.W ≤ 4 by omega) (show F.Hh ≤ 4 by omega)) (show F.C ≤ 3 by omega)
    omega
  refine setF ha T.clF T.aF_width (by decide) (setF upd_same T.clF T.aF_height ?_ (setF upd_same T.clF T.aF_depth ?_ (setF upd_same T.clF T.aF_channels ?_ (setF upd_same T.clF T.aF_tile ?_ ?_))))
  · show 1 < 1000
    decide
  · show 2 < 1000
    decide
  · show 3 < 1000
    decide
  · show 4 < 1000
    decide
  · have e : putF "tile" (V.int F.T) (putF "channels" (V.int F.C) (putF "depth" (V.int F.D) (putF "height" (V.int F.Hh) (putF "width" (V.int F.W) [])))) = fsF F := by rfl
    rw [e, upd_upd, upd_upd, upd_upd, upd_upd]
    exact q
end
end PK


set_option maxHeartbeats 4000000
namespace PK
open PySem PySem.Spec PyProof.Rows L2 Evl
theorem rEqI {i j : Int} {H : Hp} {Q : VK} : rEq (.int i) (.int j) H Q = Q (.bl (decide (i = j))) H := propext ⟨fun q => by
    have := q.2
    simpa using this, fun q => ⟨rfl, by simpa using q⟩⟩
theorem rNeI {i j : Int} {H : Hp} {Q : VK} : rNe (.int i) (.int j) H Q = Q (.bl (!decide (i = j))) H := propext ⟨fun q => by
    have := q.2
    simpa using this, fun q => ⟨rfl, by simpa using q⟩⟩
theorem natI {i j : Nat} : ((i : Int) = (j : Int)) = (i = j) := propext Int.ofNat_inj
theorem xor_bit {a b : Nat} (ha : a < 2) (hb : b < 2) : Builtin.bitXor (a : Int) (b : Int) = (((a + b) % 2 : Nat) : Int) := by
  have h1 : a = 0 ∨ a = 1 := by omega
  have h2 : b = 0 ∨ b = 1 := by omega
  rcases h1 with rfl | rfl <;> rcases h2 with rfl | rfl <;> decide +kernel
theorem xor_one {a b : Nat} : Builtin.bitAnd (Builtin.bitXor (a : Int) (b : Int)) 1 = (((a + b) % 2 : Nat) : Int) := by
  rw [Bits.bitXor_pp (by omega) (by omega), Int.toNat_natCast, Int.toNat_natCast, and_one]
  have h1 : (a ^^^ b) % 2 = a % 2 ^^^ b % 2 := by
    have := Nat.xor_mod_two_pow (a := a) (b := b) (n := 1)
    simpa using this
  rw [h1]
  have ha : a % 2 = 0 ∨ a % 2 = 1 := by omega
  have hb : b % 2 = 0 ∨ b % 2 = 1 := by omega
  congr 1
  rcases ha with e | e <;> rcases hb with f | f <;> rw [e, f, Nat.add_mod, e, f] <;> decide
/-! ### new objects, in a row -/
def ObjAt (H : Hp) (v : V) (o : HO) : Prop := ∃ a, v = .ref a ∧ H a = some o
def ObjD (D : Addr) (H : Hp) (v : V) (o : HO) : Prop := ∃ a, v = .ref a ∧ a ≠ D ∧ H a = some o
theorem ObjAt.mono {H H' : Hp} {v : V} {o : HO} (e : Ex H H') (h : ObjAt H v o) : ObjAt H' v o := by
  obtain ⟨a, ea, h⟩ := h
  exact ⟨a, ea, e _ _ h⟩
theorem ObjD.mono {D : Addr} {H H' : Hp} {v : V} {o : HO} (e : Ex H H') (h : ObjD D H v o) : ObjD D H' v o := by
  obtain ⟨a, ea, n, h⟩ := h
  exact ⟨a, ea, n, e _ _ h⟩
theorem ObjD.upd {D : Addr} {H : Hp} {v : V} {o u : HO} (h : ObjD D H v o) : ObjD D (upd H D u) v o := by
  obtain ⟨a, ea, n, h⟩ := h
  exact ⟨a, ea, n, by rw [upd_ne n]; exact h⟩
theorem ObjD.at' {D : Addr} {H : Hp} {v : V} {o : HO} (h : ObjD D H v o) : ObjAt H v o := by
  obtain ⟨a, ea, _, h⟩ := h
  exact ⟨a, ea, h⟩
section
variable {K : PySem.W.Frag} {σ : L2.St} {H : Hp} {te : TE} {ta : TA}
theorem lc_obs {J : It} {n : Nat} {G : Hp → Prop} {Y : Nat → Hp → V → Hp → Prop} (w : Walk J n G Y) (o : Nat → HO) {g : TG} {vs : List Nat} {H1 : Hp} {A : Addr} {Qd : Hp → Prop} (hA : H1 A = none) (hn : n ≤ 10000) (hG : ∀ H, Ex H1 H → G H)
    (hs : ∀ i x H H' (R : V → Hp → Prop), i < n → Ex H1 H → Y i H x H' → (∀ p H4, H p = none → Ex H H4 → H4 p = some (o i) → R (.ref p) H4) → g x (wipe σ vs) H' fun σ2 H2 => wipe σ2 vs = wipe σ vs ∧ te σ2 H2 R)
    (hd : ∀ H xs, Ex H1 H → H A = some (.lst xs) → All2 (ObjAt H) xs ((List.range n).map o) → Qd H) :
    ∃ W : Nat → Nat → Hp → Prop, (∃ m, W 0 m (upd H1 A (.lst []))) ∧ ∀ i m H, W i m H →
      (J.stop i H ∧ Qd H) ∨ (J.go i H ∧ ∃ Nx : Hp → Prop, (∀ H', Nx H' → ∃ m', m' < m ∧ W (i + 1) m' H') ∧ ∀ x H', J.yld i H x H' → g x (wipe σ vs) H' fun σ2 H2 => wipe σ2 vs = wipe σ vs ∧ tYes σ2 H2 fun b H3 =>
        if b = true then te σ2 H3 fun y H4 => ∃ acc, H4 A = some (.lst acc) ∧ acc.length < sizeLine ∧ Nx (upd H4 A (.lst (acc ++ [y]))) else Nx H3) := by
  refine lc_it w (fun i H => Ex H1 H ∧ ∃ xs, H A = some (.lst xs) ∧ All2 (ObjD A H) xs ((List.range i).map o)) ⟨Ex.new hA, [], upd_same, .nil⟩ (fun i H _ p => hG H p.1) (fun i x H H' hi p y => ?_) fun H p => ?_
  · obtain ⟨e1, xs, hx, hr⟩ := p
    refine hs i x H H' (fun y H4 => ∃ acc, H4 A = some (.lst acc) ∧ acc.length < sizeLine ∧ Ex H1 (upd H4 A (.lst (acc ++ [y]))) ∧ ∃ xs, (upd H4 A (.lst (acc ++ [y]))) A = some (.lst xs) ∧ All2 (ObjD A (upd H4 A (.lst (acc ++ [y])))) xs ((List.range (i + 1)).map o)) hi e1 y fun p H4 hp e4 h4 => ?_
    have hpA : p ≠ A := (ne_of_none hx hp).symm
    refine ⟨xs, e4 _ _ hx, ?_, Ex.mut (e1.trans e4) hA, _, upd_same, ?_⟩
    · have := hr.length
      rw [List.length_map, List.length_range] at this
      exact sz_lt (by omega)
    · rw [map_snoc]
      exact All2.snoc ⟨p, rfl, hpA, by rw [upd_ne hpA]; exact h4⟩ (All2.mono (fun _ _ r => (r.mono e4).upd) hr)
  · obtain ⟨e1, xs, hx, hr⟩ := p
    exact hd H xs e1 hx (All2.mono (fun _ _ r => r.at') hr)
/-- new objects, over range(k) -/
theorem lo_rng {tl : TE} {j k : Nat} {vs : List Nat} {Q : VK} (h : ∀ Q : List V → Hp → Prop, Q [.int (k : Int)] H → ta σ H Q) (hk : k ≤ 10000) (o : Nat → HO) (hw : ∀ x, wipe ((wipe σ vs).set j (some x)) vs = wipe σ vs)
    (he : ∀ i H1 (R : VK), i < k → Ex H H1 → (∀ p H4, H1 p = none → Ex H1 H4 → H4 p = some (o i) → R (.ref p) H4) → tl ((wipe σ vs).set j (some (.int (i : Int)))) H1 R)
    (q : ∀ p H1 xs, H p = none → Ex H H1 → H1 p = some (.lst xs) → All2 (ObjAt H1) xs ((List.range k).map o) → Q (.ref p) H1) : tLc (iRng1 ta) (gName j) tYes tl vs σ H Q := by
  refine h _ ⟨_, rfl, by omega, by omega, fun D hD => ?_⟩
  rw [Int.toNat_natCast]
  refine lc_obs walk_range o hD (by omega) (fun _ _ => trivial) (fun i x H1 H2 R hi e1 y hR => ?_) fun H1 xs e1 h1 h2 => q D H1 xs hD e1 h1 h2
  obtain ⟨rfl, rfl⟩ := y
  dsimp only
  rw [Int.zero_add]
  exact ⟨hw _, he i H2 R hi e1 hR⟩
/-- new objects, over a list that stands -/
theorem lo_list {tl te0 : TE} {j : Nat} {vs : List Nat} {Q : VK} {a : Addr} {xs : List V} (h : ∀ Q : VK, Q (.ref a) H → te0 σ H Q) (hx : SqL K H a xs) (hk : xs.length ≤ 10000) (o : Nat → HO) (hw : ∀ x, wipe ((wipe σ vs).set j (some x)) vs = wipe σ vs)
    (he : ∀ i x H1 (R : VK), xs[i]? = some x → Ex H H1 → (∀ p H4, H1 p = none → Ex H1 H4 → H4 p = some (o i) → R (.ref p) H4) → tl ((wipe σ vs).set j (some x)) H1 R)
    (q : ∀ p H1 ys, H p = none → Ex H H1 → H1 p = some (.lst ys) → All2 (ObjAt H1) ys ((List.range xs.length).map o) → Q (.ref p) H1) : tLc (iList K te0) (gName j) tYes tl vs σ H Q := by
  refine h _ ⟨_, rfl, ⟨xs, hx⟩, fun D hD => ?_⟩
  refine lc_obs walk_list o hD hk (fun H' e => ex_l e hx) (fun i x H1 H2 R hi e1 y hR => ?_) fun H1 ys e1 h1 h2 => q D H1 ys hD e1 h1 h2
  obtain ⟨rfl, hx⟩ := y
  exact ⟨hw _, he i x H2 R hx e1 hR⟩
end
section
variable {K : PySem.W.Frag} {σ : L2.St} {H : Hp} {D : Ends} {tu : TS}
/-- for name in a list that stands -/
theorem s_list {te0 : TE} {j : Nat} {a : Addr} {xs : List V} (h : ∀ Q : VK, Q (.ref a) H → te0 σ H Q) (hx : SqL K H a xs) (Pv : Nat → L2.St → Hp → Prop) (h0 : Pv 0 σ H) (hl : ∀ i σ' H', Pv i σ' H' → SqL K H' a xs)
    (hs : ∀ i x σ' H', xs[i]? = some x → Pv i σ' H' → tu { D with nx := Pv (i + 1), ct := Pv (i + 1), bk := D.nx } (σ'.set j (some x)) H') (hd : ∀ σ' H', Pv xs.length σ' H' → D.nx σ' H') : tFor (iList K te0) (gName j) tu D σ H :=
  h _ ⟨a, rfl, ⟨xs, hx⟩, for_list Pv h0 (fun i σ' H' _ p => hl i σ' H' p) (fun i x σ' H' hi p => hs i x σ' H' hi p) hd⟩
/-- the same, its target a tuple of names -/
theorem s_listT {te0 : TE} {g : TG} {a : Addr} {xs : List V} (h : ∀ Q : VK, Q (.ref a) H → te0 σ H Q) (hx : SqL K H a xs) (Pv : Nat → L2.St → Hp → Prop) (h0 : Pv 0 σ H) (hl : ∀ i σ' H', Pv i σ' H' → SqL K H' a xs)
    (hs : ∀ i x σ' H', xs[i]? = some x → Pv i σ' H' → g x σ' H' fun σ2 H2 => tu { D with nx := Pv (i + 1), ct := Pv (i + 1), bk := D.nx } σ2 H2) (hd : ∀ σ' H', Pv xs.length σ' H' → D.nx σ' H') : tFor (iList K te0) g tu D σ H :=
  h _ ⟨a, rfl, ⟨xs, hx⟩, for_list Pv h0 (fun i σ' H' _ p => hl i σ' H' p) (fun i x σ' H' hi p => hs i x σ' H' hi p) hd⟩
/-- for name in reversed(a list that stands) -/
theorem s_rlist {ta : TA} {j : Nat} {a : Addr} {xs : List V} (h : ∀ Q : List V → Hp → Prop, Q [.ref a] H → ta σ H Q) (hx : SqL K H a xs) (Pv : Nat → L2.St → Hp → Prop) (h0 : Pv 0 σ H) (hl : ∀ i σ' H', Pv i σ' H' → SqL K H' a xs)
    (hs : ∀ i x σ' H', i < xs.length → xs[xs.length - 1 - i]? = some x → Pv i σ' H' → tu { D with nx := Pv (i + 1), ct := Pv (i + 1), bk := D.nx } (σ'.set j (some x)) H') (hd : ∀ σ' H', Pv xs.length σ' H' → D.nx σ' H') : tFor (iRev K ta) (gName j) tu D σ H :=
  h _ ⟨a, xs, rfl, hx, for_it walk_rev Pv h0 (fun i σ' H' _ p => hl i σ' H' p) (fun i x σ' H' H2 hi p y => by
    obtain ⟨rfl, hx⟩ := y
    exact hs i x σ' H2 hi hx p) hd⟩
/-- for x, c in zip(list, text of bits) -/
theorem s_zipBits {ta : TA} {j k : Nat} {a : Addr} {xs : List V} {l : List Bool} (h : ∀ Q : List V → Hp → Prop, Q [.ref a, .str (bs l)] H → ta σ H Q) (hx : SqL K H a xs) (hlen : xs.length = l.length) (Pv : Nat → L2.St → Hp → Prop) (h0 : Pv 0 σ H) (hl : ∀ i σ' H', Pv i σ' H' → SqL K H' a xs)
    (hs : ∀ i x b σ' H' p, xs[i]? = some x → l[i]? = some b → Pv i σ' H' → H' p = none → tu { D with nx := Pv (i + 1), ct := Pv (i + 1), bk := D.nx } ((σ'.set j (some x)).set k (some (.str (b1 b)))) (upd H' p (.tup [x, .str (b1 b)])))
    (hd : ∀ σ' H', Pv l.length σ' H' → D.nx σ' H') : tFor (iZipS K ta) (gTup K 2 (gCons (gName j) (gCons (gName k) gNil))) tu D σ H := by
  have e : (bs l).cps.size = l.length := bs_length l
  refine h _ ⟨a, xs, bs l, rfl, hx, for_it (walk_zipS (n := l.length) (by rw [e, hlen]; simp)) Pv h0 (fun i σ' H' _ p => hl i σ' H' p) (fun i x σ' H' H2 hi p y => ?_) hd⟩
  obtain ⟨T, x1, x2, rfl, hT, rfl, h1, h2⟩ := y
  have hb : l[i]? = some l[i] := by simp
  have hc2 : (bs l).cps[i]? = some (if l[i] then 49 else 48) := bs_get hb
  have h2' : (bs l).cps[i]?.map (fun c => V.str ⟨#[c]⟩) = some x2 := h2
  rw [hc2] at h2'
  obtain rfl := Option.some.inj h2'
  exact ⟨T, _, rfl, SqT.of upd_same, rfl, _, _, rfl, _, _, rfl, rfl, hs i x1 l[i] σ' H' T h1 hb p hT⟩
theorem lenL {a : Addr} {xs : List V} (h : SqL K H a xs) : LenV K (.ref a) H xs.length := .inl ⟨xs, h, rfl⟩
end
/-- new objects by the turns that pass a test, over a list that stands -/
theorem lo_listF {K : PySem.W.Frag} {σ : L2.St} {H : Hp} {tl te0 : TE} {tt : TT} {j : Nat} {vs : List Nat} {Q : VK} {a : Addr} {xs : List V} (h : ∀ Q : VK, Q (.ref a) H → te0 σ H Q) (hx : SqL K H a xs) (hk : xs.length ≤ 10000) (f : Nat → Bool) (o : Nat → HO) (hw : ∀ x, wipe ((wipe σ vs).set j (some x)) vs = wipe σ vs)
    (ht : ∀ i x H1 (R : Bool → Hp → Prop), xs[i]? = some x → Ex H H1 → (∀ H4, Ex H1 H4 → R (f i) H4) → tt ((wipe σ vs).set j (some x)) H1 R)
    (he : ∀ i x H1 (R : VK), xs[i]? = some x → f i = true → Ex H H1 → (∀ p H4, H1 p = none → Ex H1 H4 → H4 p = some (o i) → R (.ref p) H4) → tl ((wipe σ vs).set j (some x)) H1 R)
    (q : ∀ p H1 ys, H p = none → Ex H H1 → H1 p = some (.lst ys) → All2 (ObjAt H1) ys (((List.range xs.length).filter f).map o) → Q (.ref p) H1) : tLc (iList K te0) (gName j) tt tl vs σ H Q := by
  refine h _ ⟨_, rfl, ⟨xs, hx⟩, fun D hD => ?_⟩
  refine lc_it walk_list (fun i H' => Ex H H' ∧ ∃ ys, H' D = some (.lst ys) ∧ All2 (ObjD D H') ys (((List.range i).filter f).map o)) ⟨Ex.new hD, [], upd_same, .nil⟩ (fun i H' _ p => ex_l p.1 hx) (fun i x H1 H2 hi p y => ?_) fun H1 p => ?_
  · obtain ⟨rfl, hx⟩ := y
    obtain ⟨e1, ys, hy, hr⟩ := p
    refine ⟨hw x, ht i x H2 _ hx e1 fun H3 e3 => ?_⟩
    cases hf : f i
    · refine iteF ⟨e1.trans e3, ys, e3 _ _ hy, ?_⟩
      rw [List.range_succ, List.filter_append, List.filter_cons, hf, List.filter_nil]
      simpa using All2.mono (fun _ _ r => r.mono e3) hr
    · refine iteT (he i x H3 _ hx hf (e1.trans e3) fun p H4 hp e4 h4 => ?_)
      have e34 := e3.trans e4
      have hpD : p ≠ D := (ne_of_none (e3 _ _ hy) hp).symm
      refine ⟨ys, e34 _ _ hy, ?_, Ex.mut (e1.trans e34) hD, _, upd_same, ?_⟩
      · have h1 := hr.length
        have h2 := List.length_filter_le f (List.range i)
        rw [List.length_map] at h1
        rw [List.length_range] at h2
        exact sz_lt (by omega)
      · rw [List.range_succ, List.filter_append, List.filter_cons, hf, List.filter_nil, List.map_append]
        exact All2.snoc ⟨p, rfl, hpD, by rw [upd_ne hpD]; exact h4⟩ (All2.mono (fun _ _ r => (r.mono e34).upd) hr)
  · obtain ⟨e1, ys, hy, hr⟩ := p
    exact q D H1 ys hD e1 hy (All2.mono (fun _ _ r => r.at') hr)
theorem lcE {K : PySem.W.Frag} {te0 : TE} {g : TG} {tt : TT} {te : TE} {vs : List Nat} {σ : L2.St} {H : Hp} {Q : VK} : tLc (iList K te0) g tt te vs σ H Q = te0 σ H fun v H1 => tLc (iList K (tC v)) g tt te vs σ H1 Q := rfl
theorem lc3E {K : PySem.W.Frag} {te0 : TE} {g : TG} {tt : TT} {b : Addr → TH} {vs : List Nat} {σ : L2.St} {H : Hp} {Q : VK} : tLc3 (iList K te0) g tt vs b σ H Q = te0 σ H fun v H1 => tLc3 (iList K (tC v)) g tt vs b σ H1 Q := rfl
theorem forE {K : PySem.W.Frag} {te0 : TE} {g : TG} {tu : TS} {D : Ends} {σ : L2.St} {H : Hp} : tFor (iList K te0) g tu D σ H = te0 σ H fun v H1 => tFor (iList K (tC v)) g tu D σ H1 := rfl
def tVs (vs : List V) : TA := fun _ H Q => Q vs H
theorem zipE {K : PySem.W.Frag} {ta : TA} {g : TG} {tu : TS} {D : Ends} {σ : L2.St} {H : Hp} : tFor (iZipS K ta) g tu D σ H = ta σ H fun vs H1 => tFor (iZipS K (tVs vs)) g tu D σ H1 := rfl
theorem revE {K : PySem.W.Frag} {ta : TA} {g : TG} {tu : TS} {D : Ends} {σ : L2.St} {H : Hp} : tFor (iRev K ta) g tu D σ H = ta σ H fun vs H1 => tFor (iRev K (tVs vs)) g tu D σ H1 := rfl
/-! ### slices -/
theorem sIx_nat (n d k : Nat) : HT.sIx n d (some (k : Int)) = min k n := by
  unfold HT.sIx
  simp
  omega
theorem cut_bs (l : List Bool) (lo hi : Option Int) : cutS (bs l) lo hi = bs ((l.drop (HT.sIx l.length 0 lo)).take (HT.sIx l.length l.length hi - HT.sIx l.length 0 lo)) := by
  unfold cutS
  rw [bs_length]
  simp [bs]
theorem cut_from0 (l : List Bool) : cutS (bs l) (some 0) none = bs l := by
  rw [cut_bs]
  have h1 : HT.sIx l.length 0 (some 0) = 0 := by
    have := sIx_nat l.length 0 0
    simpa using this
  have h2 : HT.sIx l.length l.length none = l.length := rfl
  rw [h1, h2]
  simp
theorem cut_to (l : List Bool) (k : Nat) : cutS (bs l) none (some (k : Int)) = bs (l.take k) := by
  rw [cut_bs, sIx_nat]
  have h1 : HT.sIx l.length 0 none = 0 := rfl
  rw [h1, List.drop_zero, Nat.sub_zero]
  congr 1
  apply List.ext_getElem?
  intro i
  rw [List.getElem?_take, List.getElem?_take]
  by_cases h2 : i < l.length
  · by_cases h3 : i < k
    · rw [if_pos (by omega), if_pos h3]
    · rw [if_neg (by omega), if_neg h3]
  · rw [List.getElem?_eq_none (by omega)]
    split <;> split <;> rfl
/-! ### lists of lists of numbers -/
def rowO (r : List Nat) : HO := .lst (intsN r)
def RowsAt (H : Hp) (xs : List V) (rows : List (List Nat)) : Prop := All2 (fun v r => ObjAt H v (rowO r)) xs rows
theorem RowsAt.mono {H H' : Hp} {xs : List V} {rows : List (List Nat)} (e : Ex H H') (h : RowsAt H xs rows) : RowsAt H' xs rows := All2.mono (fun _ _ r => r.mono e) h
theorem RowsAt.get {H : Hp} {xs : List V} {rows : List (List Nat)} {i : Nat} {r : List Nat} (h : RowsAt H xs rows) (hi : rows[i]? = some r) : ∃ a, xs[i]? = some (.ref a) ∧ H a = some (rowO r) := by
  obtain ⟨v, hv, a, rfl, ha⟩ := All2.get' h hi
  exact ⟨a, hv, ha⟩
theorem RowsAt.get' {H : Hp} {xs : List V} {rows : List (List Nat)} {i : Nat} {v : V} (h : RowsAt H xs rows) (hi : xs[i]? = some v) : ∃ r a, rows[i]? = some r ∧ v = .ref a ∧ H a = some (rowO r) := by
  obtain ⟨r, hv, a, rfl, ha⟩ := All2.get h hi
  exact ⟨r, a, hv, rfl, ha⟩
theorem all2_map {α β γ : Type} {R : α → γ → Prop} {f : β → γ} : ∀ {as : List α} {bs : List β}, All2 R as (bs.map f) → All2 (fun a b => R a (f b)) as bs
  | [], [], _ => .nil
  | _ :: _, _ :: _, .cons r rr => .cons r (all2_map rr)
theorem range_get {α : Type} (l : List α) (d : α) : (List.range l.length).map (fun i => l.getD i d) = l := by
  apply List.ext_getElem?
  intro i
  by_cases h : i < l.length
  · rw [List.getElem?_map, List.getElem?_range h, List.getElem?_eq_getElem h]
    simp [h]
  · rw [List.getElem?_eq_none (by simpa using h), List.getElem?_eq_none (by omega)]
theorem range_getF {α β : Type} (l : List α) (d : α) (f : α → β) : (List.range l.length).map (fun i => f (l.getD i d)) = l.map f := by
  have := congrArg (List.map f) (range_get l d)
  rw [List.map_map] at this
  exact this
theorem listS {K : PySem.W.Frag} {H : Hp} {p : Addr} {ys : List V} {Q : VK} (h : SqL K H p ys) (q : ∀ l, H l = none → Q (.ref l) (upd H l (.lst ys))) : rListS K [.ref p] H Q := ⟨p, ys, rfl, .inl h, q⟩
theorem intsN_get {l : List Nat} {i : Nat} {n : Nat} (h : l[i]? = some n) : (intsN l)[i]? = some (.int (n : Int)) := by
  unfold intsN
  rw [List.getElem?_map, h]
  rfl
theorem intsN_len {l : List Nat} : (intsN l).length = l.length := by simp [intsN]
end PK

set_option maxHeartbeats 4000000
namespace PK
open PySem PySem.Spec PyProof.Rows L2 Evl
local macro_rules | `(tactic| walk_at "rd") => `(tactic| simp only [tSeq, tAsg, tRet, tIfS, tTest, tOp, tUn, tVar, tC, tCons, tNil, tCB, tHas, gName, rI0, rI, rU, tNext, tNot, tAnd, tOr, tChain, tIf, tB, tNever, tRetN, tDrop, tTup, tLst, tMeth, tMake, tM0, tM1, tBits, tTruI, tBM, gSub, tSl, tNoPart, tPart, gcE, gnE, bs_length, tListRevR, tRg1, tFldE, sFldE, tPar3, cxK, nxK, List.append_nil,
  L2.start, List.map_cons, List.map_nil, List.length_cons, List.length_nil, List.replicate, List.cons_append, List.nil_append, List.getElem?_cons_zero, List.getElem?_cons_succ, List.set_cons_zero, List.set_cons_succ,
  Option.some.injEq, V.int.injEq, V.bl.injEq, V.str.injEq, V.ref.injEq, exists_eq_left', exists_eq_left, exists_and_left, List.cons.injEq, and_true, true_and, eq_self_iff_true, Nat.reduceAdd, Nat.reduceSub, Nat.zero_add])
/-! ### pictures -/
structure Pic where
  W : Nat
  Hh : Nat
  D : Nat
  C : Nat
  rows : List (List Nat)
def Pic.ok (p : Pic) : Prop := (1 ≤ p.W ∧ p.W ≤ 4) ∧ (1 ≤ p.Hh ∧ p.Hh ≤ 4) ∧ (1 ≤ p.D ∧ p.D ≤ 8) ∧ (p.C = 1 ∨ p.C = 3) ∧ p.rows.length = p.C ∧ ∀ r ∈ p.rows, r.length = p.W * p.Hh ∧ ∀ v ∈ r, v < 2 ^ p.D
def fsP (p : Pic) (r : Addr) : List (Str × V) := [("width", .int p.W), ("height", .int p.Hh), ("depth", .int p.D), ("channels", .int p.C), ("_rows", .ref r)]
def fsP4 (p : Pic) : List (Str × V) := [("width", .int p.W), ("height", .int p.Hh), ("depth", .int p.D), ("channels", .int p.C)]
def PicAt (CP : Addr) (H : Hp) (a : Addr) (p : Pic) : Prop := ∃ dx r xs, H a = some (.ins CP dx (fsP p r)) ∧ H r = some (.lst xs) ∧ RowsAt H xs p.rows
theorem PicAt.mono {CP : Addr} {H H' : Hp} {a : Addr} {p : Pic} (e : Ex H H') (h : PicAt CP H a p) : PicAt CP H' a p := by
  obtain ⟨dx, r, xs, h1, h2, h3⟩ := h
  exact ⟨dx, r, xs, e _ _ h1, e _ _ h2, h3.mono e⟩
section
variable {P : Program} {w : World} {K : PySem.W.Frag} {mg : Str → Option Value} {base : Heap} {CF CP CA : Addr}
theorem piE (T : Top K mg CF CP CA) {H : Hp} {a : Addr} {p : Pic} {dx r : Addr} (h : H a = some (.ins CP dx (fsP p r))) : (∀ Q, rFldV K "width" (.ref a) H Q = Q (.int p.W) H) ∧ (∀ Q, rFldV K "height" (.ref a) H Q = Q (.int p.Hh) H) ∧ (∀ Q, rFldV K "depth" (.ref a) H Q = Q (.int p.D) H) ∧
    (∀ Q, rFldV K "channels" (.ref a) H Q = Q (.int p.C) H) ∧ (∀ Q, rFldV K "_rows" (.ref a) H Q = Q (.ref r) H) :=
  ⟨fun Q => fld_iff h T.clP T.aP_width rfl, fun Q => fld_iff h T.clP T.aP_height rfl, fun Q => fld_iff h T.clP T.aP_depth rfl, fun Q => fld_iff h T.clP T.aP_channels rfl, fun Q => fld_iff h T.clP T.aP_rows rfl⟩
def spAreVals : Sp := fun vs H Q _ => ∃ (p : Pic) (v : Addr) (xs : List V), vs = [.int ((p.W * p.Hh : Nat) : Int), .int (p.D : Int), .int (p.C : Int), .ref v] ∧ p.ok ∧ H v = some (.lst xs) ∧ RowsAt H xs p.rows ∧ Q (.bl true) H
theorem has_are_values (T : Top K mg CF CP CA) : Has P w K mg base CX0 1 "_are_values" ["pixels", "depth", "channels", "values"] spAreVals := by
  refine has0 T.d_are_values sc_are_values (fun vs H Q E h => by
    repeat (obtain ⟨_, h⟩ := h)
    subst_vars
    rfl) fun f cdv A outer s H vs Q E hr h => ?_
  obtain ⟨p, v, xs, rfl, ok, hv, hrw, q⟩ := h
  refine ⟨_, (pss_cons (ps_if (pt_cmpR op_ne (pe_callB call_len rfl T.n_len boot_len (pa_cons (pv 3) pa_nil)) (pv 2) (nomark _)) (pss_one (ps_ret pe_bl)) pss_nil)
      (pss_cons (ps_set (i := 4) sc_are_values.nd rfl (by first | exact .inl rfl | exact .inr rfl) (pe_op op_shl pe_int (pv 1)))
      (pss_cons (ps_for PassesOwn.never rfl (pi_list (pv 3)) (pg_name (i := 5) sc_are_values.nd rfl (by first | exact .inl rfl | exact .inr rfl)) (pss_cons (ps_if (pt_cmpR op_ne (pe_callB call_len rfl T.n_len boot_len (pa_cons (pv 5) pa_nil)) (pv 0) (nomark _)) (pss_one (ps_ret pe_bl)) pss_nil)
      (pss_one (ps_for PassesOwn.never rfl (pi_list (pv 5)) (pg_name (i := 6) sc_are_values.nd rfl (by first | exact .inl rfl | exact .inr rfl)) (pss_one (ps_if (pt_not (pt_chain op_le op_lt pe_int (pv 6) (pv 4))) (pss_one (ps_ret pe_bl)) pss_nil))))))
      (pss_one (ps_ret pe_bl))))), ?_⟩
  simp only [tSeq, tAsg, tRet, tIfS, tTest, tOp, tUn, tVar, tC, tCons, tNil, tCB, tHas, gName, rI0, rI, rU, tNext, tNot, tAnd, tOr, tChain, tIf, tB, tNever, tRetN, tDrop, tTup, tLst, tMeth, tMake, tM0, tM1, tBits, tTruI, tBM, gSub, tSl, tNoPart, tPart, gcE, gnE, bs_length, tListRevR, tRg1, tFldE, sFldE, tPar3, cxK, nxK, List.append_nil, L2.start, List.map_cons, List.map_nil, List.length_cons, List.length_nil, List.replicate, List.cons_append, List.nil_append, List.getElem?_cons_zero, List.getElem?_cons_succ, List.set_cons_zero, List.set_cons_succ, Option.some.injEq, V.int.injEq, V.bl.injEq, V.str.injEq, V.ref.injEq, exists_eq_left', exists_eq_left, exists_and_left, List.cons.injEq, and_true, true_and, eq_self_iff_true, Nat.reduceAdd, Nat.reduceSub, Nat.zero_add]
  obtain ⟨o1, o2, o3, o4, o5, o6⟩ := ok
  refine ⟨xs.length, lenL (sq_of hv), rfl, _, rfl, ?_⟩
  rw [hrw.length, o5, if_neg (by simp)]
  refine ⟨⟨by omega, by omega, by decide⟩, ?_⟩
  refine s_list (a := v) (xs := xs) (fun Q q => ⟨_, rfl, q⟩) (sq_of hv) (fun i σ' H' => H = H' ∧ ∃ v5 v6, σ' = [some (.int (p.W * p.Hh : Nat)), some (.int p.D), some (.int p.C), some (.ref v), some (.int (1 * 2 ^ ((p.D : Int).toNat))), v5, v6]) ⟨rfl, none, none, rfl⟩ ?_ ?_ ?_
  · rintro i σ' H' ⟨rfl, _⟩
    exact sq_of hv
  · rintro i x σ' H' hx ⟨rfl, v5, v6, rfl⟩
    obtain ⟨row, ra, hrow, rfl, hra⟩ := hrw.get' hx
    obtain ⟨hlen, hvs⟩ := o6 row (List.mem_of_getElem? hrow)
    simp only [tSeq, tAsg, tRet, tIfS, tTest, tOp, tUn, tVar, tC, tCons, tNil, tCB, tHas, gName, rI0, rI, rU, tNext, tNot, tAnd, tOr, tChain, tIf, tB, tNever, tRetN, tDrop, tTup, tLst, tMeth, tMake, tM0, tM1, tBits, tTruI, tBM, gSub, tSl, tNoPart, tPart, gcE, gnE, bs_length, tListRevR, tRg1, tFldE, sFldE, tPar3, cxK, nxK, List.append_nil, L2.start, List.map_cons, List.map_nil, List.length_cons, List.length_nil, List.replicate, List.cons_append, List.nil_append, List.getElem?_cons_zero, List.getElem?_cons_succ, List.set_cons_zero, List.set_cons_succ, Option.some.injEq, V.int.injEq, V.bl.injEq, V.str.injEq, V.ref.injEq, exists_eq_left', exists_eq_left, exists_and_left, List.cons.injEq, and_true, true_and, eq_self_iff_true, Nat.reduceAdd, Nat.reduceSub, Nat.zero_add]
    refine ⟨row.length, .inl ⟨_, sq_of hra, intsN_len.symm⟩, rfl, _, rfl, ?_⟩
    rw [hlen, if_neg (by simp)]
    refine s_list (a := ra) (xs := intsN row) (fun Q q => ⟨_, rfl, q⟩) (sq_of hra) (fun i σ' H' => H = H' ∧ ∃ v6, σ' = [some (.int (p.W * p.Hh : Nat)), some (.int p.D), some (.int p.C), some (.ref v), some (.int (1 * 2 ^ ((p.D : Int).toNat))), some (.ref ra), v6]) ⟨rfl, v6, rfl⟩ ?_ ?_ ?_
    · rintro i σ' H' ⟨rfl, _⟩
      exact sq_of hra
    · rintro j x σ' H' hx ⟨rfl, v6, rfl⟩
      unfold intsN at hx
      rw [List.getElem?_map] at hx
      obtain ⟨n, hn, rfl⟩ := Option.map_eq_some_iff.mp hx
      have hlt := hvs n (List.mem_of_getElem? hn)
      simp only [tSeq, tAsg, tRet, tIfS, tTest, tOp, tUn, tVar, tC, tCons, tNil, tCB, tHas, gName, rI0, rI, rU, tNext, tNot, tAnd, tOr, tChain, tIf, tB, tNever, tRetN, tDrop, tTup, tLst, tMeth, tMake, tM0, tM1, tBits, tTruI, tBM, gSub, tSl, tNoPart, tPart, gcE, gnE, bs_length, tListRevR, tRg1, tFldE, sFldE, tPar3, cxK, nxK, List.append_nil, L2.start, List.map_cons, List.map_nil, List.length_cons, List.length_nil, List.replicate, List.cons_append, List.nil_append, List.getElem?_cons_zero, List.getElem?_cons_succ, List.set_cons_zero, List.set_cons_succ, Option.some.injEq, V.int.injEq, V.bl.injEq, V.str.injEq, V.ref.injEq, exists_eq_left', exists_eq_left, exists_and_left, List.cons.injEq, and_true, true_and, eq_self_iff_true, Nat.reduceAdd, Nat.reduceSub, Nat.zero_add]
      have e : (1 : Int) * 2 ^ (p.D : Int).toNat = ((2 ^ p.D : Nat) : Int) := by
        rw [Int.toNat_natCast]
        simp
      rw [e, if_pos (decide_eq_true (by omega)), if_neg (by simp; exact_mod_cast hlt)]
      exact ⟨_, rfl⟩
    · rintro σ' H' ⟨rfl, v6, rfl⟩
      exact ⟨rfl, _, _, rfl⟩
  · rintro σ' H' ⟨rfl, v5, v6, rfl⟩
    simp only [tSeq, tAsg, tRet, tIfS, tTest, tOp, tUn, tVar, tC, tCons, tNil, tCB, tHas, gName, rI0, rI, rU, tNext, tNot, tAnd, tOr, tChain, tIf, tB, tNever, tRetN, tDrop, tTup, tLst, tMeth, tMake, tM0, tM1, tBits, tTruI, tBM, gSub, tSl, tNoPart, tPart, gcE, gnE, bs_length, tListRevR, tRg1, tFldE, sFldE, tPar3, cxK, nxK, List.append_nil, L2.start, List.map_cons, List.map_nil, List.length_cons, List.length_nil, List.replicate, List.cons_append, List.nil_append, List.getElem?_cons_zero, List.getElem?_cons_succ, List.set_cons_zero, List.set_cons_succ, Option.some.injEq, V.int.injEq, V.bl.injEq, V.str.injEq, V.ref.injEq, exists_eq_left', exists_eq_left, exists_and_left, List.cons.injEq, and_true, true_and, eq_self_iff_true, Nat.reduceAdd, Nat.reduceSub, Nat.zero_add]
    exact q
def spPicI (CP : Addr) : Sp := fun vs H Q _ => ∃ (a dx : Addr) (p : Pic) (v : Addr) (xs : List V), vs = [.ref a, .int (p.W : Int), .int (p.Hh : Int), .int (p.D : Int), .int (p.C : Int), .ref v] ∧ p.ok ∧ H a = some (.ins CP dx []) ∧ H v = some (.lst xs) ∧ RowsAt H xs p.rows ∧
  ∀ H', (∀ b o, b ≠ a → H b = some o → H' b = some o) → PicAt CP H' a p → Q .non H'
theorem has_Picture_init (T : Top K mg CF CP CA) : HasI P w K mg base CX0 2 CP ["self", "width", "height", "depth", "channels", "values"] (spPicI CP) := by
  have G_check_shape := has_check_shape (P := P) (w := w) (base := base) T
  have G_check_size := has_check_size (P := P) (w := w) (base := base) T
  have G_are_values := has_are_values (P := P) (w := w) (base := base) T
  refine hasI0 T.iP sc_Picture_init (fun vs H Q E h => by
    repeat (obtain ⟨_, h⟩ := h)
    subst_vars
    rfl) fun f cdv A outer s H vs Q E hr h => ?_
  obtain ⟨a, dx, p, v, xs, rfl, ok, ha, hv, hrw, q⟩ := h
  refine ⟨_, (pss_cons (ps_expr (pe_has G_check_shape (hr.mono (by decide)) (pa_cons (pv 1) (pa_cons (pv 2) (pa_cons (pv 3) (pa_cons (pv 4) pa_nil))))))
      (pss_cons (ps_expr (pe_has G_check_size (hr.mono (by decide)) (pa_cons (pv 1) (pa_cons (pv 2) (pa_cons (pv 4) pa_nil)))))
      (pss_cons (ps_if (pt_not (pt_val (pe_has G_are_values (hr.mono (by decide)) (pa_cons (pe_op op_mul (pv 1) (pv 2)) (pa_cons (pv 3) (pa_cons (pv 4) (pa_cons (pv 5) pa_nil))))))) (pss_one ps_never) pss_nil)
      (pss_cons (ps_fld (pv 0) (pv 1) rfl)
      (pss_cons (ps_fld (pv 0) (pv 2) rfl)
      (pss_cons (ps_fld (pv 0) (pv 3) rfl)
      (pss_cons (ps_fld (pv 0) (pv 4) rfl)
      (pss_one (ps_fld (pv 0) (pe_lc (own := [("row", 6)]) rfl sc_Picture_init.nd (pi_list (pv 5)) (blkOk_by (N := ["self", "width", "height", "depth", "channels", "values", "row"]) (sc := defScope s_Picture_init) (by decide +kernel)) (fun _ _ _ _ _ => by exact (pg_name (i := 6) sc_Picture_init.nd rfl (by first | exact .inl rfl | exact .inr rfl))) (fun _ _ _ _ _ => by exact pts_nil) (fun _ _ _ _ _ => by exact (pe_callTy (call_listK (K := K) rfl) rfl T.n_list (by decide +kernel) (pa_cons (pv 6) pa_nil)))) rfl))))))))), ?_⟩
  simp only [tSeq, tAsg, tRet, tIfS, tTest, tOp, tUn, tVar, tC, tCons, tNil, tCB, tHas, gName, rI0, rI, rU, tNext, tNot, tAnd, tOr, tChain, tIf, tB, tNever, tRetN, tDrop, tTup, tLst, tMeth, tMake, tM0, tM1, tBits, tTruI, tBM, gSub, tSl, tNoPart, tPart, gcE, gnE, bs_length, tListRevR, tRg1, tFldE, sFldE, tPar3, cxK, nxK, List.append_nil, L2.start, List.map_cons, List.map_nil, List.length_cons, List.length_nil, List.replicate, List.cons_append, List.nil_append, List.getElem?_cons_zero, List.getElem?_cons_succ, List.set_cons_zero, List.set_cons_succ, Option.some.injEq, V.int.injEq, V.bl.injEq, V.str.injEq, V.ref.injEq, exists_eq_left', exists_eq_left, exists_and_left, List.cons.injEq, and_true, true_and, eq_self_iff_true, Nat.reduceAdd, Nat.reduceSub, Nat.zero_add]
  obtain ⟨o1, o2, o3, o4, o5, o6⟩ := id ok
  refine ⟨p.W, p.Hh, p.D, p.C, rfl, by omega, p.W, p.Hh, p.C, rfl, by omega, by omega, by omega, ?_, .inl ⟨by omega, by omega⟩, p, v, xs, by rw [Int.natCast_mul], ok, hv, hrw, _, rfl, ?_⟩
  · have := Nat.mul_le_mul (Nat.mul_le_mul (show p.W ≤ 4 by omega) (show p.Hh ≤ 4 by omega)) (show p.C ≤ 3 by omega)
    omega
  rw [if_neg (by decide)]
  have hva : v ≠ a := by
    rintro rfl
    rw [ha] at hv
    cases hv
  refine setF ha T.clP T.aP_width (by decide) (setF upd_same T.clP T.aP_height (by show 1 < 1000; decide) (setF upd_same T.clP T.aP_depth (by show 2 < 1000; decide) (setF upd_same T.clP T.aP_channels (by show 3 < 1000; decide) ?_)))
  rw [upd_upd, upd_upd, upd_upd]
  have e0 : putF "channels" (V.int p.C) (putF "depth" (V.int p.D) (putF "height" (V.int p.Hh) (putF "width" (V.int p.W) []))) = fsP4 p := by rfl
  rw [e0]
  generalize hH1 : upd H a (.ins CP dx (fsP4 p)) = H1
  have h1a : H1 a = some (.ins CP dx (fsP4 p)) := by rw [← hH1]; exact upd_same
  have h1o : ∀ b o, b ≠ a → H b = some o → H1 b = some o := fun b o hb ho => by rw [← hH1, upd_ne hb]; exact ho
  have hrow1 : RowsAt H1 xs p.rows := All2.mono (fun x r hx => by
    obtain ⟨b, rfl, hb⟩ := hx
    refine ⟨b, rfl, h1o b _ ?_ hb⟩
    rintro rfl
    rw [ha] at hb
    cases hb) hrw
  refine lo_list (a := v) (xs := xs) (fun Q q => ⟨_, rfl, q⟩) (sq_of (h1o v _ hva hv)) (by rw [hrw.length, o5]; omega) (fun i => rowO (p.rows.getD i [])) (fun _ => rfl) ?_ ?_
  · intro i x H2 R hx e2 hR
    obtain ⟨row, ra, hrow, rfl, hra⟩ := hrow1.get' hx
    simp only [wipe, List.set_cons_zero, List.set_cons_succ, List.foldl_cons, List.foldl_nil]
    have e : p.rows.getD i [] = row := by simp [hrow]
    rw [e] at hR
    simp only [tSeq, tAsg, tRet, tIfS, tTest, tOp, tUn, tVar, tC, tCons, tNil, tCB, tHas, gName, rI0, rI, rU, tNext, tNot, tAnd, tOr, tChain, tIf, tB, tNever, tRetN, tDrop, tTup, tLst, tMeth, tMake, tM0, tM1, tBits, tTruI, tBM, gSub, tSl, tNoPart, tPart, gcE, gnE, bs_length, tListRevR, tRg1, tFldE, sFldE, tPar3, cxK, nxK, List.append_nil, L2.start, List.map_cons, List.map_nil, List.length_cons, List.length_nil, List.replicate, List.cons_append, List.nil_append, List.getElem?_cons_zero, List.getElem?_cons_succ, List.set_cons_zero, List.set_cons_succ, Option.some.injEq, V.int.injEq, V.bl.injEq, V.str.injEq, V.ref.injEq, exists_eq_left', exists_eq_left, exists_and_left, List.cons.injEq, and_true, true_and, eq_self_iff_true, Nat.reduceAdd, Nat.reduceSub, Nat.zero_add]
    exact listS (sq_of (e2 _ _ hra)) fun l hl => hR l _ hl (Ex.new hl) upd_same
  · intro r H2 ys hr0 e2 hr2 hys
    rw [hrw.length] at hys
    rw [range_getF] at hys
    have hys2 : RowsAt H2 ys p.rows := all2_map hys
    refine setF (e2 _ _ h1a) T.clP T.aP_rows (by show 4 < 1000; decide) ?_
    have hra : r ≠ a := (ne_of_none h1a hr0).symm
    refine q _ (fun b o hb ho => by rw [upd_ne hb]; exact e2 _ _ (h1o b o hb ho)) ⟨dx, r, ys, upd_same, by rw [upd_ne hra]; exact hr2, ?_⟩
    refine All2.mono (fun x row hx => ?_) hys2
    obtain ⟨b, rfl, hb⟩ := hx
    refine ⟨b, rfl, ?_⟩
    rw [upd_ne]
    · exact hb
    · rintro rfl
      rw [e2 _ _ h1a] at hb
      cases hb
def spPicV (CP : Addr) : Sp := fun vs H Q _ => ∃ (a : Addr) (p : Pic) (c x v : Nat) (row : List Nat), vs = [.ref a, .int (c : Int), .int (x : Int)] ∧ PicAt CP H a p ∧ p.rows[c]? = some row ∧ row[x]? = some v ∧ Q (.int (v : Int)) H
theorem has_Picture_value (T : Top K mg CF CP CA) : HasM P w K mg base CX0 1 CP "value" ["self", "channel", "pixel"] (spPicV CP) := by
  refine hasM0 T.m_Picture_value sc_Picture_value (fun vs H Q E h => by
    repeat (obtain ⟨_, h⟩ := h)
    subst_vars
    rfl) fun f cdv A outer s H vs Q E hr h => ?_
  obtain ⟨a, p, c, x, v, row, rfl, ⟨dx, r, xs, h1, h2, h3⟩, hc, hx, q⟩ := h
  refine ⟨_, (pss_one (ps_ret (pe_ix ix_list (pe_ix ix_list (pe_fld (pv 0) rfl) (pv 1) (fun _ _ => rfl)) (pv 2) (fun _ _ => rfl)))), ?_⟩
  simp only [tSeq, tAsg, tRet, tIfS, tTest, tOp, tUn, tVar, tC, tCons, tNil, tCB, tHas, gName, rI0, rI, rU, tNext, tNot, tAnd, tOr, tChain, tIf, tB, tNever, tRetN, tDrop, tTup, tLst, tMeth, tMake, tM0, tM1, tBits, tTruI, tBM, gSub, tSl, tNoPart, tPart, gcE, gnE, bs_length, tListRevR, tRg1, tFldE, sFldE, tPar3, cxK, nxK, List.append_nil, L2.start, List.map_cons, List.map_nil, List.length_cons, List.length_nil, List.replicate, List.cons_append, List.nil_append, List.getElem?_cons_zero, List.getElem?_cons_succ, List.set_cons_zero, List.set_cons_succ, Option.some.injEq, V.int.injEq, V.bl.injEq, V.str.injEq, V.ref.injEq, exists_eq_left', exists_eq_left, exists_and_left, List.cons.injEq, and_true, true_and, eq_self_iff_true, Nat.reduceAdd, Nat.reduceSub, Nat.zero_add, piE T h1]
  obtain ⟨ra, hra, hra2⟩ := h3.get hc
  exact ixL rfl (sq_of h2) hra (ixL rfl (sq_of hra2) (intsN_get hx) q)
def spPicRows (CP : Addr) : Sp := fun vs H Q _ => ∃ (a : Addr) (p : Pic), vs = [.ref a] ∧ PicAt CP H a p ∧ p.rows.length ≤ 10 ∧ ∀ l H' ys, H l = none → Ex H H' → H' l = some (.lst ys) → RowsAt H' ys p.rows → Q (.ref l) H'
theorem has_Picture_rows (T : Top K mg CF CP CA) : HasM P w K mg base CX0 1 CP "rows" ["self"] (spPicRows CP) := by
  refine hasM0 T.m_Picture_rows sc_Picture_rows (fun vs H Q E h => by
    repeat (obtain ⟨_, h⟩ := h)
    subst_vars
    rfl) fun f cdv A outer s H vs Q E hr h => ?_
  obtain ⟨a, p, rfl, ⟨dx, r, xs, h1, h2, h3⟩, hl, q⟩ := h
  refine ⟨_, (pss_one (ps_ret (pe_lc (own := [("row", 1)]) rfl sc_Picture_rows.nd (pi_list (pe_fld (pv 0) rfl)) (blkOk_by (N := ["self", "row"]) (sc := defScope s_Picture_rows) (by decide +kernel)) (fun _ _ _ _ _ => by exact (pg_name (i := 1) sc_Picture_rows.nd rfl (by first | exact .inl rfl | exact .inr rfl))) (fun _ _ _ _ _ => by exact pts_nil) (fun _ _ _ _ _ => by exact (pe_callTy (call_listK (K := K) rfl) rfl T.n_list (by decide +kernel) (pa_cons (pv 1) pa_nil)))))), ?_⟩
  simp only [tSeq, tAsg, tRet, tIfS, tTest, tOp, tUn, tVar, tC, tCons, tNil, tCB, tHas, gName, rI0, rI, rU, tNext, tNot, tAnd, tOr, tChain, tIf, tB, tNever, tRetN, tDrop, tTup, tLst, tMeth, tMake, tM0, tM1, tBits, tTruI, tBM, gSub, tSl, tNoPart, tPart, gcE, gnE, bs_length, tListRevR, tRg1, tFldE, sFldE, tPar3, cxK, nxK, List.append_nil, L2.start, List.map_cons, List.map_nil, List.length_cons, List.length_nil, List.replicate, List.cons_append, List.nil_append, List.getElem?_cons_zero, List.getElem?_cons_succ, List.set_cons_zero, List.set_cons_succ, Option.some.injEq, V.int.injEq, V.bl.injEq, V.str.injEq, V.ref.injEq, exists_eq_left', exists_eq_left, exists_and_left, List.cons.injEq, and_true, true_and, eq_self_iff_true, Nat.reduceAdd, Nat.reduceSub, Nat.zero_add, piE T h1]
  refine lo_list (a := r) (xs := xs) (fun Q q => ?_) (sq_of h2) (by rw [h3.length]; omega) (fun i => rowO (p.rows.getD i [])) (fun _ => rfl) ?_ ?_
  · simp only [tSeq, tAsg, tRet, tIfS, tTest, tOp, tUn, tVar, tC, tCons, tNil, tCB, tHas, gName, rI0, rI, rU, tNext, tNot, tAnd, tOr, tChain, tIf, tB, tNever, tRetN, tDrop, tTup, tLst, tMeth, tMake, tM0, tM1, tBits, tTruI, tBM, gSub, tSl, tNoPart, tPart, gcE, gnE, bs_length, tListRevR, tRg1, tFldE, sFldE, tPar3, cxK, nxK, List.append_nil, L2.start, List.map_cons, List.map_nil, List.length_cons, List.length_nil, List.replicate, List.cons_append, List.nil_append, List.getElem?_cons_zero, List.getElem?_cons_succ, List.set_cons_zero, List.set_cons_succ, Option.some.injEq, V.int.injEq, V.bl.injEq, V.str.injEq, V.ref.injEq, exists_eq_left', exists_eq_left, exists_and_left, List.cons.injEq, and_true, true_and, eq_self_iff_true, Nat.reduceAdd, Nat.reduceSub, Nat.zero_add, piE T h1]
    exact q
  · intro i x H2 R hx e2 hR
    obtain ⟨row, ra, hrow, rfl, hra⟩ := h3.get' hx
    simp only [wipe, List.set_cons_zero, List.set_cons_succ, List.foldl_cons, List.foldl_nil]
    have e : p.rows.getD i [] = row := by simp [hrow]
    rw [e] at hR
    simp only [tSeq, tAsg, tRet, tIfS, tTest, tOp, tUn, tVar, tC, tCons, tNil, tCB, tHas, gName, rI0, rI, rU, tNext, tNot, tAnd, tOr, tChain, tIf, tB, tNever, tRetN, tDrop, tTup, tLst, tMeth, tMake, tM0, tM1, tBits, tTruI, tBM, gSub, tSl, tNoPart, tPart, gcE, gnE, bs_length, tListRevR, tRg1, tFldE, sFldE, tPar3, cxK, nxK, List.append_nil, L2.start, List.map_cons, List.map_nil, List.length_cons, List.length_nil, List.replicate, List.cons_append, List.nil_append, List.getElem?_cons_zero, List.getElem?_cons_succ, List.set_cons_zero, List.set_cons_succ, Option.some.injEq, V.int.injEq, V.bl.injEq, V.str.injEq, V.ref.injEq, exists_eq_left', exists_eq_left, exists_and_left, List.cons.injEq, and_true, true_and, eq_self_iff_true, Nat.reduceAdd, Nat.reduceSub, Nat.zero_add]
    exact listS (sq_of (e2 _ _ hra)) fun l hl => hR l _ hl (Ex.new hl) upd_same
  · intro l H2 ys hl0 e2 hl2 hys
    rw [h3.length] at hys
    rw [range_getF] at hys
    exact q l H2 ys hl0 e2 hl2 (all2_map hys)
def spFits (CF CP : Addr) : Sp := fun vs H Q _ => ∃ (a b : Addr) (F : Fr) (p : Pic), vs = [.ref a, .ref b] ∧ FrAt CF H a F ∧ PicAt CP H b p ∧ Q (.bl (decide (F.W = p.W ∧ F.Hh = p.Hh ∧ F.D = p.D ∧ F.C = p.C))) H
theorem has_fits_frame (T : Top K mg CF CP CA) : Has P w K mg base CX0 1 "fits_frame" ["frame", "picture"] (spFits CF CP) := by
  refine has0 T.d_fits_frame sc_fits_frame (fun vs H Q E h => by
    repeat (obtain ⟨_, h⟩ := h)
    subst_vars
    rfl) fun f cdv A outer s H vs Q E hr h => ?_
  obtain ⟨a, b, F, p, rfl, hF, ⟨dx, r, xs, h1, h2, h3⟩, q⟩ := h
  refine ⟨_, (pss_cons (ps_if (PW.pt (pw_or (pt_cmpR op_ne (pe_fld (pv 0) rfl) (pe_fld (pv 1) rfl) (nomark _)) (pw_or1 (pt_cmpR op_ne (pe_fld (pv 0) rfl) (pe_fld (pv 1) rfl) (nomark _))))) (pss_one (ps_ret pe_bl)) pss_nil)
      (pss_one (ps_ret (pe_and (pe_cmpR op_eq (pe_fld (pv 0) rfl) (pe_fld (pv 1) rfl) (nomark _)) (pe_one (pe_cmpR op_eq (pe_fld (pv 0) rfl) (pe_fld (pv 1) rfl) (nomark _))))))), ?_⟩
  simp only [tSeq, tAsg, tRet, tIfS, tTest, tOp, tUn, tVar, tC, tCons, tNil, tCB, tHas, gName, rI0, rI, rU, tNext, tNot, tAnd, tOr, tChain, tIf, tB, tNever, tRetN, tDrop, tTup, tLst, tMeth, tMake, tM0, tM1, tBits, tTruI, tBM, gSub, tSl, tNoPart, tPart, gcE, gnE, bs_length, tListRevR, tRg1, tFldE, sFldE, tPar3, cxK, nxK, List.append_nil, L2.start, List.map_cons, List.map_nil, List.length_cons, List.length_nil, List.replicate, List.cons_append, List.nil_append, List.getElem?_cons_zero, List.getElem?_cons_succ, List.set_cons_zero, List.set_cons_succ, Option.some.injEq, V.int.injEq, V.bl.injEq, V.str.injEq, V.ref.injEq, exists_eq_left', exists_eq_left, exists_and_left, List.cons.injEq, and_true, true_and, eq_self_iff_true, Nat.reduceAdd, Nat.reduceSub, Nat.zero_add, rEqI, rNeI, tAndV, tOrV, tNotV, natI, frE T hF, piE T h1]
  by_cases c1 : F.W = p.W
  · by_cases c2 : F.Hh = p.Hh
    · by_cases c3 : F.D = p.D
      · simpa [c1, c2, c3] using q
      · simpa [c1, c2, c3] using q
    · simpa [c1, c2] using q
  · simpa [c1] using q
def gbM (v p : Nat) : Nat := (v / 2 ^ p + v / 2 ^ (p + 1)) % 2
def spGray : Sp := fun vs H Q _ => ∃ (v p : Nat), vs = [.int (v : Int), .int (p : Int)] ∧ Q (.int (gbM v p : Nat)) H
theorem has_gray_bit (T : Top K mg CF CP CA) : Has P w K mg base CX0 1 "gray_bit" ["value", "plane"] spGray := by
  refine has0 T.d_gray_bit sc_gray_bit (fun vs H Q E h => by
    repeat (obtain ⟨_, h⟩ := h)
    subst_vars
    rfl) fun f cdv A outer s H vs Q E hr h => ?_
  obtain ⟨v, p, rfl, q⟩ := h
  refine ⟨_, (pss_one (ps_ret (pe_op op_and (pe_op op_xor (pe_op op_shr (pv 0) (pv 1)) (pe_op op_shr (pv 0) (pe_op op_add (pv 1) pe_int))) pe_int))), ?_⟩
  simp only [tSeq, tAsg, tRet, tIfS, tTest, tOp, tUn, tVar, tC, tCons, tNil, tCB, tHas, gName, rI0, rI, rU, tNext, tNot, tAnd, tOr, tChain, tIf, tB, tNever, tRetN, tDrop, tTup, tLst, tMeth, tMake, tM0, tM1, tBits, tTruI, tBM, gSub, tSl, tNoPart, tPart, gcE, gnE, bs_length, tListRevR, tRg1, tFldE, sFldE, tPar3, cxK, nxK, List.append_nil, L2.start, List.map_cons, List.map_nil, List.length_cons, List.length_nil, List.replicate, List.cons_append, List.nil_append, List.getElem?_cons_zero, List.getElem?_cons_succ, List.set_cons_zero, List.set_cons_succ, Option.some.injEq, V.int.injEq, V.bl.injEq, V.str.injEq, V.ref.injEq, exists_eq_left', exists_eq_left, exists_and_left, List.cons.injEq, and_true, true_and, eq_self_iff_true, Nat.reduceAdd, Nat.reduceSub, Nat.zero_add, rEqI, rNeI, tAndV, tOrV, tNotV, natI]
  refine ⟨by omega, by omega, ?_⟩
  have e1 : (v : Int) / 2 ^ (p : Int).toNat = ((v / 2 ^ p : Nat) : Int) := by rw [Int.toNat_natCast]; simp
  have e2 : (v : Int) / 2 ^ ((p : Int) + 1).toNat = ((v / 2 ^ (p + 1) : Nat) : Int) := by
    rw [show ((p : Int) + 1).toNat = p + 1 by omega]
    simp
  rw [e1, e2, xor_one]
  exact q
theorem gb_lt (v p : Nat) : gbM v p < 2 := by
  unfold gbM
  omega
def voM (l : List Nat) : Nat × Nat := l.foldl (fun s g => (2 * s.1 + (s.2 + g) % 2, (s.2 + g) % 2)) (0, 0)
def spValueOf : Sp := fun vs H Q _ => ∃ (a : Addr) (l : List Nat), vs = [.ref a] ∧ H a = some (.lst (intsN l)) ∧ l.length ≤ 10 ∧ (∀ g ∈ l, g < 2) ∧ Q (.int ((voM l).1 : Nat)) H
theorem has_value_of (T : Top K mg CF CP CA) : Has P w K mg base CX0 1 "value_of" ["grays"] spValueOf := by
  refine has0 T.d_value_of sc_value_of (fun vs H Q E h => by
    repeat (obtain ⟨_, h⟩ := h)
    subst_vars
    rfl) fun f cdv A outer s H vs Q E hr h => ?_
  obtain ⟨a, l, rfl, ha, hl, hg, q⟩ := h
  refine ⟨_, (pss_cons (ps_set (i := 1) sc_value_of.nd rfl (by first | exact .inl rfl | exact .inr rfl) pe_int)
      (pss_cons (ps_set (i := 2) sc_value_of.nd rfl (by first | exact .inl rfl | exact .inr rfl) pe_int)
      (pss_cons (ps_for PassesOwn.never rfl (pi_list (pv 0)) (pg_name (i := 3) sc_value_of.nd rfl (by first | exact .inl rfl | exact .inr rfl)) (pss_cons (ps_set (i := 2) sc_value_of.nd rfl (by first | exact .inl rfl | exact .inr rfl) (pe_op op_xor (pv 2) (pv 3)))
      (pss_one (ps_set (i := 1) sc_value_of.nd rfl (by first | exact .inl rfl | exact .inr rfl) (pe_op op_add (pe_op op_mul pe_int (pv 1)) (pv 2))))))
      (pss_one (ps_ret (pv 1)))))), ?_⟩
  simp only [tSeq, tAsg, tRet, tIfS, tTest, tOp, tUn, tVar, tC, tCons, tNil, tCB, tHas, gName, rI0, rI, rU, tNext, tNot, tAnd, tOr, tChain, tIf, tB, tNever, tRetN, tDrop, tTup, tLst, tMeth, tMake, tM0, tM1, tBits, tTruI, tBM, gSub, tSl, tNoPart, tPart, gcE, gnE, bs_length, tListRevR, tRg1, tFldE, sFldE, tPar3, cxK, nxK, List.append_nil, L2.start, List.map_cons, List.map_nil, List.length_cons, List.length_nil, List.replicate, List.cons_append, List.nil_append, List.getElem?_cons_zero, List.getElem?_cons_succ, List.set_cons_zero, List.set_cons_succ, Option.some.injEq, V.int.injEq, V.bl.injEq, V.str.injEq, V.ref.injEq, exists_eq_left', exists_eq_left, exists_and_left, List.cons.injEq, and_true, true_and, eq_self_iff_true, Nat.reduceAdd, Nat.reduceSub, Nat.zero_add, rEqI, rNeI, tAndV, tOrV, tNotV, natI]
  have hv : ∀ i, i ≤ l.length → (voM (l.take i)).2 < 2 := fun i hi => by
    induction i with
    | zero => exact (by decide : (0 : Nat) < 2)
    | succ i ih =>
      have hb : l[i]? = some l[i] := by simp
      unfold voM
      rw [take_snoc hb, List.foldl_append]
      simp only [List.foldl_cons, List.foldl_nil]
      omega
  refine s_list (a := a) (xs := intsN l) (fun Q q => ⟨_, rfl, q⟩) (sq_of ha) (fun i σ' H' => H = H' ∧ ∃ v3, σ' = [some (.ref a), some (.int ((voM (l.take i)).1 : Nat)), some (.int ((voM (l.take i)).2 : Nat)), v3]) ⟨rfl, none, rfl⟩ ?_ ?_ ?_
  · rintro i σ' H' ⟨rfl, _⟩
    exact sq_of ha
  · rintro i x σ' H' hx ⟨rfl, v3, rfl⟩
    unfold intsN at hx
    rw [List.getElem?_map] at hx
    obtain ⟨n, hn, rfl⟩ := Option.map_eq_some_iff.mp hx
    have hlt := hg n (List.mem_of_getElem? hn)
    have hi := (List.getElem?_eq_some_iff.mp hn).1
    have e : voM (l.take (i + 1)) = (2 * (voM (l.take i)).1 + ((voM (l.take i)).2 + n) % 2, ((voM (l.take i)).2 + n) % 2) := by
      unfold voM
      rw [take_snoc hn, List.foldl_append]
      rfl
    simp only [tSeq, tAsg, tRet, tIfS, tTest, tOp, tUn, tVar, tC, tCons, tNil, tCB, tHas, gName, rI0, rI, rU, tNext, tNot, tAnd, tOr, tChain, tIf, tB, tNever, tRetN, tDrop, tTup, tLst, tMeth, tMake, tM0, tM1, tBits, tTruI, tBM, gSub, tSl, tNoPart, tPart, gcE, gnE, bs_length, tListRevR, tRg1, tFldE, sFldE, tPar3, cxK, nxK, List.append_nil, L2.start, List.map_cons, List.map_nil, List.length_cons, List.length_nil, List.replicate, List.cons_append, List.nil_append, List.getElem?_cons_zero, List.getElem?_cons_succ, List.set_cons_zero, List.set_cons_succ, Option.some.injEq, V.int.injEq, V.bl.injEq, V.str.injEq, V.ref.injEq, exists_eq_left', exists_eq_left, exists_and_left, List.cons.injEq, and_true, true_and, eq_self_iff_true, Nat.reduceAdd, Nat.reduceSub, Nat.zero_add, rEqI, rNeI, tAndV, tOrV, tNotV, natI]
    rw [e, xor_bit (hv i (by omega)) hlt]
    exact ⟨.inl ⟨by decide, by decide⟩, by simp, rfl, _, rfl⟩
  · rintro σ' H' ⟨rfl, v3, rfl⟩
    simp only [tSeq, tAsg, tRet, tIfS, tTest, tOp, tUn, tVar, tC, tCons, tNil, tCB, tHas, gName, rI0, rI, rU, tNext, tNot, tAnd, tOr, tChain, tIf, tB, tNever, tRetN, tDrop, tTup, tLst, tMeth, tMake, tM0, tM1, tBits, tTruI, tBM, gSub, tSl, tNoPart, tPart, gcE, gnE, bs_length, tListRevR, tRg1, tFldE, sFldE, tPar3, cxK, nxK, List.append_nil, L2.start, List.map_cons, List.map_nil, List.length_cons, List.length_nil, List.replicate, List.cons_append, List.nil_append, List.getElem?_cons_zero, List.getElem?_cons_succ, List.set_cons_zero, List.set_cons_succ, Option.some.injEq, V.int.injEq, V.bl.injEq, V.str.injEq, V.ref.injEq, exists_eq_left', exists_eq_left, exists_and_left, List.cons.injEq, and_true, true_and, eq_self_iff_true, Nat.reduceAdd, Nat.reduceSub, Nat.zero_add, rEqI, rNeI, tAndV, tOrV, tNotV, natI]
    rw [intsN_len, List.take_length]
    exact q
/-- the stored bit of a pixel -/
def sbM (p : Pic) (c x pl : Nat) : Nat :=
  if p.C = 1 then gbM ((p.rows.getD 0 []).getD x 0) pl
  else if c = 0 then gbM ((p.rows.getD 1 []).getD x 0) pl
  else (gbM ((p.rows.getD (if c = 1 then 0 else 2) []).getD x 0) pl + gbM ((p.rows.getD 1 []).getD x 0) pl) % 2
def spStoredB (CP : Addr) : Sp := fun vs H Q _ => ∃ (a : Addr) (p : Pic) (c x pl : Nat), vs = [.ref a, .int (c : Int), .int (x : Int), .int (pl : Int)] ∧ PicAt CP H a p ∧ p.ok ∧ c < p.C ∧ x < p.W * p.Hh ∧ Q (.int (sbM p c x pl : Nat)) H
theorem has_stored_bit (T : Top K mg CF CP CA) : Has P w K mg base CX0 2 "stored_bit" ["picture", "channel", "pixel", "plane"] (spStoredB CP) := by
  have G_gray_bit := has_gray_bit (P := P) (w := w) (base := base) T
  obtain ⟨f_Picture_value, fd_Picture_value, mm_Picture_value, b_Picture_value, F_Picture_value⟩ := (has_Picture_value (P := P) (w := w) (base := base) T).ex
  refine has0 T.d_stored_bit sc_stored_bit (fun vs H Q E h => by
    repeat (obtain ⟨_, h⟩ := h)
    subst_vars
    rfl) fun f cdv A outer s H vs Q E hr h => ?_
  obtain ⟨a, p, c, x, pl, rfl, hP, ok, hc, hx, q⟩ := h
  refine ⟨_, (pss_cons (ps_if (pt_cmpR op_eq (pe_fld (pv 0) rfl) pe_int (nomark _)) (pss_one (ps_ret (pe_has G_gray_bit (hr.mono (by decide)) (pa_cons (pe_meth (pv 0) T.clP mm_Picture_value F_Picture_value (hr.mono (by decide)) b_Picture_value .nil pass0 (pa_cons pe_int (pa_cons (pv 2) pa_nil))) (pa_cons (pv 3) pa_nil))))) pss_nil)
      (pss_cons (ps_set (i := 4) sc_stored_bit.nd rfl (by first | exact .inl rfl | exact .inr rfl) (pe_has G_gray_bit (hr.mono (by decide)) (pa_cons (pe_meth (pv 0) T.clP mm_Picture_value F_Picture_value (hr.mono (by decide)) b_Picture_value .nil pass0 (pa_cons pe_int (pa_cons (pv 2) pa_nil))) (pa_cons (pv 3) pa_nil))))
      (pss_cons (ps_if (pt_cmpR op_eq (pv 1) pe_int (nomark _)) (pss_one (ps_ret (pv 4))) pss_nil)
      (pss_cons (ps_set (i := 5) sc_stored_bit.nd rfl (by first | exact .inl rfl | exact .inr rfl) (pe_ifExp (pt_cmpR op_eq (pv 1) pe_int (nomark _)) pe_int pe_int))
      (pss_one (ps_ret (pe_op op_xor (pe_has G_gray_bit (hr.mono (by decide)) (pa_cons (pe_meth (pv 0) T.clP mm_Picture_value F_Picture_value (hr.mono (by decide)) b_Picture_value .nil pass0 (pa_cons (pv 5) (pa_cons (pv 2) pa_nil))) (pa_cons (pv 3) pa_nil))) (pv 4)))))))), ?_⟩
  obtain ⟨dx, r, xs, h1, h2, h3⟩ := id hP
  simp only [tSeq, tAsg, tRet, tIfS, tTest, tOp, tUn, tVar, tC, tCons, tNil, tCB, tHas, gName, rI0, rI, rU, tNext, tNot, tAnd, tOr, tChain, tIf, tB, tNever, tRetN, tDrop, tTup, tLst, tMeth, tMake, tM0, tM1, tBits, tTruI, tBM, gSub, tSl, tNoPart, tPart, gcE, gnE, bs_length, tListRevR, tRg1, tFldE, sFldE, tPar3, cxK, nxK, List.append_nil, L2.start, List.map_cons, List.map_nil, List.length_cons, List.length_nil, List.replicate, List.cons_append, List.nil_append, List.getElem?_cons_zero, List.getElem?_cons_succ, List.set_cons_zero, List.set_cons_succ, Option.some.injEq, V.int.injEq, V.bl.injEq, V.str.injEq, V.ref.injEq, exists_eq_left', exists_eq_left, exists_and_left, List.cons.injEq, and_true, true_and, eq_self_iff_true, Nat.reduceAdd, Nat.reduceSub, Nat.zero_add, rEqI, rNeI, tAndV, tOrV, tNotV, natI, piE T h1]
  obtain ⟨o1, o2, o3, o4, o5, o6⟩ := id ok
  have get : ∀ c, c < p.C → ∃ row v, p.rows[c]? = some row ∧ row[x]? = some v ∧ (p.rows.getD c []).getD x 0 = v := fun c hc => by
    have h1 : p.rows[c]? = some (p.rows[c]'(by omega)) := List.getElem?_eq_getElem _
    have h2 := (o6 _ (List.mem_of_getElem? h1)).1
    have h3 : (p.rows[c]'(by omega))[x]? = some ((p.rows[c]'(by omega))[x]'(by omega)) := List.getElem?_eq_getElem _
    refine ⟨_, _, h1, h3, ?_⟩
    simp [h1, h3]
  have hfs : ∀ {S : Prop}, S → ∃ x_1 x_2, H a = some (.ins CP x_1 x_2) ∧ List.lookup ("value" : Str) x_2 = none ∧ S := fun s => ⟨dx, fsP p r, h1, rfl, s⟩
  by_cases c1 : p.C = 1
  · rw [if_pos (by simp [c1])]
    obtain ⟨row, v, g1, g2, g3⟩ := get 0 (by omega)
    refine hfs ⟨a, p, 0, x, v, row, rfl, hP, g1, g2, v, pl, rfl, ?_⟩
    unfold sbM at q
    rw [if_pos c1, g3] at q
    exact q
  · rw [if_neg (by simp; omega)]
    obtain ⟨row, v, g1, g2, g3⟩ := get 1 (by omega)
    refine hfs ⟨a, p, 1, x, v, row, rfl, hP, g1, g2, v, pl, rfl, ?_⟩
    unfold sbM at q
    rw [if_neg c1] at q
    by_cases c2 : c = 0
    · rw [if_pos c2, g3] at q
      rw [if_pos (by simp [c2])]
      exact q
    · rw [if_neg c2] at q
      rw [if_neg (by simp; omega)]
      by_cases c3 : c = 1
      · rw [if_pos c3] at q
        rw [if_pos (by simp [c3])]
        obtain ⟨row2, v2, k1, k2, k3⟩ := get 0 (by omega)
        rw [g3, k3] at q
        refine hfs ⟨a, p, 0, x, v2, row2, rfl, hP, k1, k2, v2, pl, rfl, _, rfl, _, rfl, ?_⟩
        rw [xor_bit (gb_lt _ _) (gb_lt _ _)]
        exact q
      · rw [if_neg c3] at q
        rw [if_neg (by simp; omega)]
        obtain ⟨row2, v2, k1, k2, k3⟩ := get 2 (by omega)
        rw [g3, k3] at q
        refine hfs ⟨a, p, 2, x, v2, row2, rfl, hP, k1, k2, v2, pl, rfl, _, rfl, _, rfl, ?_⟩
        rw [xor_bit (gb_lt _ _) (gb_lt _ _)]
        exact q
def pbM (F : Fr) (p : Pic) (k : Key) : List Bool := (F.px k.2.1).map fun x => decide (sbM p k.1 x k.2.2 = 1)
def Fits (F : Fr) (p : Pic) : Prop := F.W = p.W ∧ F.Hh = p.Hh ∧ F.D = p.D ∧ F.C = p.C
def InR (F : Fr) (k : Key) : Prop := k.1 < F.C ∧ k.2.1 < F.tiles ∧ k.2.2 < F.D
theorem sb_lt (p : Pic) (c x pl : Nat) : sbM p c x pl < 2 := by
  unfold sbM
  split
  · exact gb_lt _ _
  · split
    · exact gb_lt _ _
    · omega
def spPackB (CF CP : Addr) : Sp := fun vs H Q _ => ∃ (a b k : Addr) (F : Fr) (p : Pic) (key : Key), vs = [.ref a, .ref b, .ref k] ∧ FrAt CF H a F ∧ PicAt CP H b p ∧ F.ok ∧ p.ok ∧ Fits F p ∧ H k = some (keyT key) ∧ InR F key ∧ ∀ H', Ex H H' → Q (.str (bs (pbM F p key))) H'
theorem has_packet_bits (T : Top K mg CF CP CA) : Has P w K mg base CX0 5 "packet_bits" ["frame", "picture", "key"] (spPackB CF CP) := by
  have G_check_key := has_check_key (P := P) (w := w) (base := base) T
  have G_fits_frame := has_fits_frame (P := P) (w := w) (base := base) T
  have G_stored_bit := has_stored_bit (P := P) (w := w) (base := base) T
  have G_tile_pixels := has_tile_pixels (P := P) (w := w) (base := base) T
  refine has0 T.d_packet_bits sc_packet_bits (fun vs H Q E h => by
    repeat (obtain ⟨_, h⟩ := h)
    subst_vars
    rfl) fun f cdv A outer s H vs Q E hr h => ?_
  obtain ⟨a, b, k, F, p, key, rfl, hF, hP, ok, okp, fits, hk, inr, q⟩ := h
  refine ⟨_, (pss_cons (ps_if (pt_not (pt_val (pe_has G_fits_frame (hr.mono (by decide)) (pa_cons (pv 0) (pa_cons (pv 1) pa_nil))))) (pss_one ps_never) pss_nil)
      (pss_cons (ps_expr (pe_has G_check_key (hr.mono (by decide)) (pa_cons (pv 0) (pa_cons (pv 2) pa_nil))))
      (pss_cons (ps_asg (pv 2) (pg_tup rfl (pgs_cons (pg_name (i := 3) sc_packet_bits.nd rfl (by first | exact .inl rfl | exact .inr rfl)) (pgs_cons (pg_name (i := 4) sc_packet_bits.nd rfl (by first | exact .inl rfl | exact .inr rfl)) (pgs_cons (pg_name (i := 5) sc_packet_bits.nd rfl (by first | exact .inl rfl | exact .inr rfl)) pgs_nil)))))
      (pss_one (ps_ret (pe_join pe_str (pe_lc (own := [("pixel", 6)]) rfl sc_packet_bits.nd (pi_list (pe_has G_tile_pixels (hr.mono (by decide)) (pa_cons (pv 0) (pa_cons (pv 4) pa_nil)))) (blkOk_by (N := ["frame", "picture", "key", "channel", "tile", "plane", "pixel"]) (sc := defScope s_packet_bits) (by decide +kernel)) (fun _ _ _ _ _ => by exact (pg_name (i := 6) sc_packet_bits.nd rfl (by first | exact .inl rfl | exact .inr rfl))) (fun _ _ _ _ _ => by exact pts_nil) (fun _ _ _ _ _ => by exact (pe_ifExp (pt_truI (pe_has G_stored_bit (hr.mono (by decide)) (pa_cons (pv 1) (pa_cons (pv 3) (pa_cons (pv 6) (pa_cons (pv 5) pa_nil))))) (by intro _; rfl)) pe_str pe_str))))))))), ?_⟩
  simp only [tSeq, tAsg, tRet, tIfS, tTest, tOp, tUn, tVar, tC, tCons, tNil, tCB, tHas, gName, rI0, rI, rU, tNext, tNot, tAnd, tOr, tChain, tIf, tB, tNever, tRetN, tDrop, tTup, tLst, tMeth, tMake, tM0, tM1, tBits, tTruI, tBM, gSub, tSl, tNoPart, tPart, gcE, gnE, bs_length, tListRevR, tRg1, tFldE, sFldE, tPar3, cxK, nxK, List.append_nil, L2.start, List.map_cons, List.map_nil, List.length_cons, List.length_nil, List.replicate, List.cons_append, List.nil_append, List.getElem?_cons_zero, List.getElem?_cons_succ, List.set_cons_zero, List.set_cons_succ, Option.some.injEq, V.int.injEq, V.bl.injEq, V.str.injEq, V.ref.injEq, exists_eq_left', exists_eq_left, exists_and_left, List.cons.injEq, and_true, true_and, eq_self_iff_true, Nat.reduceAdd, Nat.reduceSub, Nat.zero_add, rEqI, rNeI, tAndV, tOrV, tNotV, natI]
  refine ⟨a, b, F, p, rfl, hF, hP, _, rfl, ?_⟩
  rw [decide_eq_true (show F.W = p.W ∧ F.Hh = p.Hh ∧ F.D = p.D ∧ F.C = p.C from fits), if_neg (by decide)]
  refine ⟨a, k, F, key, rfl, hF, ok, hk, inr, gtup (st_of hk) rfl ?_⟩
  simp only [tSeq, tAsg, tRet, tIfS, tTest, tOp, tUn, tVar, tC, tCons, tNil, tCB, tHas, gName, rI0, rI, rU, tNext, tNot, tAnd, tOr, tChain, tIf, tB, tNever, tRetN, tDrop, tTup, tLst, tMeth, tMake, tM0, tM1, tBits, tTruI, tBM, gSub, tSl, tNoPart, tPart, gcE, gnE, bs_length, tListRevR, tRg1, tFldE, sFldE, tPar3, cxK, nxK, List.append_nil, L2.start, List.map_cons, List.map_nil, List.length_cons, List.length_nil, List.replicate, List.cons_append, List.nil_append, List.getElem?_cons_zero, List.getElem?_cons_succ, List.set_cons_zero, List.set_cons_succ, Option.some.injEq, V.int.injEq, V.bl.injEq, V.str.injEq, V.ref.injEq, exists_eq_left', exists_eq_left, exists_and_left, List.cons.injEq, and_true, true_and, eq_self_iff_true, Nat.reduceAdd, Nat.reduceSub, Nat.zero_add, rEqI, rNeI, tAndV, tOrV, tNotV, natI]
  rw [lcE]
  simp only [tSeq, tAsg, tRet, tIfS, tTest, tOp, tUn, tVar, tC, tCons, tNil, tCB, tHas, gName, rI0, rI, rU, tNext, tNot, tAnd, tOr, tChain, tIf, tB, tNever, tRetN, tDrop, tTup, tLst, tMeth, tMake, tM0, tM1, tBits, tTruI, tBM, gSub, tSl, tNoPart, tPart, gcE, gnE, bs_length, tListRevR, tRg1, tFldE, sFldE, tPar3, cxK, nxK, List.append_nil, L2.start, List.map_cons, List.map_nil, List.length_cons, List.length_nil, List.replicate, List.cons_append, List.nil_append, List.getElem?_cons_zero, List.getElem?_cons_succ, List.set_cons_zero, List.set_cons_succ, Option.some.injEq, V.int.injEq, V.bl.injEq, V.str.injEq, V.ref.injEq, exists_eq_left', exists_eq_left, exists_and_left, List.cons.injEq, and_true, true_and, eq_self_iff_true, Nat.reduceAdd, Nat.reduceSub, Nat.zero_add, rEqI, rNeI, tAndV, tOrV, tNotV, natI]
  have hpx : ∀ x ∈ F.px key.2.1, x < F.pixels := (Fr.facts ok inr.2.1).2.2.2.2.2.2
  have hpl : (F.px key.2.1).length ≤ 4 := by
    obtain ⟨_, _, h3, h4, h5, _⟩ := Fr.facts ok inr.2.1
    rw [h5]
    exact Nat.mul_le_mul (show F.tw key.2.1 ≤ 2 by omega) (show F.th key.2.1 ≤ 2 by omega)
  have hpp : F.pixels = p.W * p.Hh := by unfold Fr.pixels; rw [fits.1, fits.2.1]
  refine ⟨⟨_, rfl⟩, a, F, key.2.1, rfl, hF, ok, inr.2.1, fun la H1 hla e1 h1 => ?_⟩
  refine lc_list' (a := la) (xs := intsN (F.px key.2.1)) (fun Q q => q) (sq_of h1) (by rw [intsN_len]; omega) (fun i => .str (b1 ((pbM F p key).getD i false))) (fun _ => rfl) ?_ ?_
  · intro i x H2 R hx e2 hR
    unfold intsN at hx
    rw [List.getElem?_map] at hx
    obtain ⟨n, hn, rfl⟩ := Option.map_eq_some_iff.mp hx
    have hlt := hpx n (List.mem_of_getElem? hn)
    simp only [wipe, List.set_cons_zero, List.set_cons_succ, List.foldl_cons, List.foldl_nil]
    simp only [tSeq, tAsg, tRet, tIfS, tTest, tOp, tUn, tVar, tC, tCons, tNil, tCB, tHas, gName, rI0, rI, rU, tNext, tNot, tAnd, tOr, tChain, tIf, tB, tNever, tRetN, tDrop, tTup, tLst, tMeth, tMake, tM0, tM1, tBits, tTruI, tBM, gSub, tSl, tNoPart, tPart, gcE, gnE, bs_length, tListRevR, tRg1, tFldE, sFldE, tPar3, cxK, nxK, List.append_nil, L2.start, List.map_cons, List.map_nil, List.length_cons, List.length_nil, List.replicate, List.cons_append, List.nil_append, List.getElem?_cons_zero, List.getElem?_cons_succ, List.set_cons_zero, List.set_cons_succ, Option.some.injEq, V.int.injEq, V.bl.injEq, V.str.injEq, V.ref.injEq, exists_eq_left', exists_eq_left, exists_and_left, List.cons.injEq, and_true, true_and, eq_self_iff_true, Nat.reduceAdd, Nat.reduceSub, Nat.zero_add, rEqI, rNeI, tAndV, tOrV, tNotV, natI]
    refine ⟨b, p, key.1, n, key.2.2, rfl, hP.mono (e1.trans e2), okp, by rw [← fits.2.2.2]; exact inr.1, by rw [← hpp]; exact hlt, _, rfl, ?_⟩
    have hb : (pbM F p key).getD i false = decide (sbM p key.1 n key.2.2 = 1) := by
      unfold pbM
      simp [hn]
    have := sb_lt p key.1 n key.2.2
    have hR' := hR H2 (Ex.refl _)
    rw [hb] at hR'
    generalize hs : sbM p key.1 n key.2.2 = s1 at this hR' ⊢
    match s1, this with
    | 0, _ => exact iteF (by rw [← b1_zero]; exact hR')
    | 1, _ => exact iteT (by rw [← b1_one]; exact hR')
  · intro r H2 hr0 e2 h2
    rw [intsN_len] at h2
    have hl : (pbM F p key).length = (F.px key.2.1).length := by simp [pbM]
    refine ⟨r, rfl, (pbM F p key).map b1, .inl (sq_of (h2.trans ?_)), ?_, ?_⟩
    · rw [← hl, range_getF (f := fun b => V.str (b1 b)), List.map_map]
      rfl
    · rw [List.map_map, sum_const (f := (fun x : Str => x.length) ∘ b1) (c := 1) (fun _ _ => rfl)]
      have : (Str.ofString "").length = 0 := by decide +kernel
      rw [this, List.length_map]
      omega
    · rw [join_bits]
      exact q H2 (e1.trans e2)
end
end PK


set_option maxHeartbeats 4000000
namespace PK
open PySem PySem.Spec PyProof.Rows L2 Evl
local macro_rules | `(tactic| walk_at "rd") => `(tactic| simp only [tSeq, tAsg, tRet, tIfS, tTest, tOp, tUn, tVar, tC, tCons, tNil, tCB, tHas, gName, rI0, rI, rU, tNext, tNot, tAnd, tOr, tChain, tIf, tB, tNever, tRetN, tDrop, tTup, tLst, tMeth, tMake, tM0, tM1, tBits, tTruI, tBM, gSub, tSl, tNoPart, tPart, gcE, gnE, bs_length, tListRevR, tRg1, tFldE, sFldE, tPar3, cxK, nxK, List.append_nil,
  L2.start, List.map_cons, List.map_nil, List.length_cons, List.length_nil, List.replicate, List.cons_append, List.nil_append, List.getElem?_cons_zero, List.getElem?_cons_succ, List.set_cons_zero, List.set_cons_succ,
  Option.some.injEq, V.int.injEq, V.bl.injEq, V.str.injEq, V.ref.injEq, exists_eq_left', exists_eq_left, exists_and_left, List.cons.injEq, and_true, true_and, eq_self_iff_true, Nat.reduceAdd, Nat.reduceSub, Nat.zero_add])
/-! ### what has arrived -/
def kk (k : Key) : List L2.Key := [.inl (k.1 : Int), .inl (k.2.1 : Int), .inl (k.2.2 : Int)]
theorem kk_inj {k l : Key} (h : kk k = kk l) : k = l := by
  obtain ⟨a, b, c⟩ := k
  obtain ⟨d, e, f⟩ := l
  simp only [kk, List.cons.injEq, Sum.inl.injEq, Int.ofNat_inj, and_true] at h
  obtain ⟨h1, h2, h3⟩ := h
  rw [h1, h2, h3]
abbrev Dig := List (Key × List Bool)
def entD (e : Key × List Bool) : List L2.Key × V := (kk e.1, .str (bs e.2))
def getD (m : Dig) (k : Key) : Option (List Bool) := (m.find? fun e => decide (e.1 = k)).map (·.2)
def digs (m : Dig) (k : Key) : List Bool := (getD m k).getD []
theorem valV_ent (m : Dig) (k : Key) : valV (m.map entD) (kk k) = (getD m k).map fun c => V.str (bs c) := by
  unfold valV getD
  induction m with
  | nil => rfl
  | cons e m ih =>
    by_cases h : e.1 = k
    · have h2 : (entD e).1 = kk k := by unfold entD; rw [h]
      simp [List.find?_cons, h, h2]
      rfl
    · have h2 : ¬ (entD e).1 = kk k := fun z => h (kk_inj z)
      simp only [List.map_cons, List.find?_cons, h, h2, decide_false]
      exact ih
theorem putK_ent {m : Dig} {k : Key} {c : List Bool} (h : getD m k = none) : putK (m.map entD) (kk k) (.str (bs c)) = (m ++ [(k, c)]).map entD := by
  have h2 := valV_any (kk k) (m.map entD)
  rw [valV_ent, h] at h2
  unfold putK
  rw [h2]
  simp
  rfl
def fsA (fr d : Addr) : List (Str × V) := [("frame", .ref fr), ("_texts", .ref d)]
structure ArrAt (CF CA : Addr) (H : Hp) (a d fr : Addr) (F : Fr) (m : Dig) : Prop where
  ins : ∃ dx, H a = some (.ins CA dx (fsA fr d))
  frm : FrAt CF H fr F
  dic : H d = some (.dT (m.map entD))
theorem ArrAt.mono {CF CA : Addr} {H H' : Hp} {a d fr : Addr} {F : Fr} {m : Dig} (e : Ex H H') (h : ArrAt CF CA H a d fr F m) : ArrAt CF CA H' a d fr F m := by
  obtain ⟨⟨dx, h1⟩, h2, h3⟩ := h
  exact ⟨⟨dx, e _ _ h1⟩, h2.mono e, e _ _ h3⟩
section
variable {P : Program} {w : World} {K : PySem.W.Frag} {mg : Str → Option Value} {base : Heap} {CF CP CA : Addr}
theorem arE (T : Top K mg CF CP CA) {H : Hp} {a d fr dx : Addr} (h : H a = some (.ins CA dx (fsA fr d))) : (∀ Q, rFldV K "frame" (.ref a) H Q = Q (.ref fr) H) ∧ (∀ Q, rFldV K "_texts" (.ref a) H Q = Q (.ref d) H) :=
  ⟨fun Q => fld_iff h T.clA T.aA_frame rfl, fun Q => fld_iff h T.clA T.aA_texts rfl⟩
def pcM (F : Fr) (p : Pic) (k : Key) : List Bool := codeM (F.tw k.2.1) (pbM F p k)
theorem Fr.wm {F : Fr} (ok : F.ok) {t : Nat} (ht : t < F.tiles) : OkW (F.tw t) ∧ (F.px t).length = F.tw t * F.th t ∧ F.tw t * F.th t ≤ 4 ∧ 1 ≤ F.tw t * F.th t ∧ (F.tw t, F.tw t * F.th t) ∈ shapes := by
  obtain ⟨_, _, h3, h4, h5, _⟩ := Fr.facts ok ht
  refine ⟨h3, h5, ?_⟩
  rcases h3 with e | e <;> rcases h4 with g | g <;> rw [e, g] <;> decide
theorem pb_len {F : Fr} (ok : F.ok) {p : Pic} {k : Key} (hk : InR F k) : (pbM F p k).length = F.tw k.2.1 * F.th k.2.1 := by
  unfold pbM
  rw [List.length_map, (Fr.wm ok hk.2.1).2.1]
def spPackC (CF CP : Addr) : Sp := fun vs H Q _ => ∃ (a b k : Addr) (F : Fr) (p : Pic) (key : Key), vs = [.ref a, .ref b, .ref k] ∧ FrAt CF H a F ∧ PicAt CP H b p ∧ F.ok ∧ p.ok ∧ Fits F p ∧ H k = some (keyT key) ∧ InR F key ∧ ∀ H', Ex H H' → Q (.str (bs (pcM F p key))) H'
theorem has_packet_code (T : Top K mg CF CP CA) : Has P w K mg base CX0 6 "packet_code" ["frame", "picture", "key"] (spPackC CF CP) := by
  have G_packet_bits := has_packet_bits (P := P) (w := w) (base := base) T
  have G_encode := has_encode (P := P) (w := w) (base := base) T
  have G_tile_size := has_tile_size (P := P) (w := w) (base := base) T
  refine has0 T.d_packet_code sc_packet_code (fun vs H Q E h => by
    repeat (obtain ⟨_, h⟩ := h)
    subst_vars
    rfl) fun f cdv A outer s H vs Q E hr h => ?_
  obtain ⟨a, b, k, F, p, key, rfl, hF, hP, ok, okp, fits, hk, inr, q⟩ := h
  refine ⟨_, (pss_cons (ps_set (i := 3) sc_packet_code.nd rfl (by first | exact .inl rfl | exact .inr rfl) (pe_has G_packet_bits (hr.mono (by decide)) (pa_cons (pv 0) (pa_cons (pv 1) (pa_cons (pv 2) pa_nil)))))
      (pss_one (ps_ret (pe_has G_encode (hr.mono (by decide)) (pa_cons (pe_ix ix_tup (pe_has G_tile_size (hr.mono (by decide)) (pa_cons (pv 0) (pa_cons (pe_ix ix_tup (pv 2) pe_int (fun _ _ => rfl)) pa_nil))) pe_int (fun _ _ => rfl)) (pa_cons (pv 3) pa_nil)))))), ?_⟩
  simp only [tSeq, tAsg, tRet, tIfS, tTest, tOp, tUn, tVar, tC, tCons, tNil, tCB, tHas, gName, rI0, rI, rU, tNext, tNot, tAnd, tOr, tChain, tIf, tB, tNever, tRetN, tDrop, tTup, tLst, tMeth, tMake, tM0, tM1, tBits, tTruI, tBM, gSub, tSl, tNoPart, tPart, gcE, gnE, bs_length, tListRevR, tRg1, tFldE, sFldE, tPar3, cxK, nxK, List.append_nil, L2.start, List.map_cons, List.map_nil, List.length_cons, List.length_nil, List.replicate, List.cons_append, List.nil_append, List.getElem?_cons_zero, List.getElem?_cons_succ, List.set_cons_zero, List.set_cons_succ, Option.some.injEq, V.int.injEq, V.bl.injEq, V.str.injEq, V.ref.injEq, exists_eq_left', exists_eq_left, exists_and_left, List.cons.injEq, and_true, true_and, eq_self_iff_true, Nat.reduceAdd, Nat.reduceSub, Nat.zero_add, rEqI, rNeI, tAndV, tOrV, tNotV, natI, tDGet, tDIn, tDNotIn, sDPut, tDGet2, tDNewT, tDNewK]
  have wm := Fr.wm ok inr.2.1
  refine ⟨a, b, k, F, p, key, rfl, hF, hP, ok, okp, fits, hk, inr, fun H1 e1 => ?_⟩
  refine ixT (j := 1) rfl (st_of (e1 _ _ hk)) rfl ?_
  refine ⟨a, F, key.2.1, rfl, hF.mono e1, ok, inr.2.1, fun r H2 hr2 e2 h2 => ?_⟩
  refine ixT (j := 0) rfl (st_of h2) rfl ?_
  refine ⟨F.tw key.2.1, pbM F p key, rfl, wm.1, by rw [pb_len ok inr]; exact wm.2.2.1, fun H3 e3 => q H3 ((e1.trans e2).trans e3)⟩
def spArrI (CF CA : Addr) : Sp := fun vs H Q _ => ∃ (a dx fr : Addr) (F : Fr), vs = [.ref a, .ref fr] ∧ H a = some (.ins CA dx []) ∧ FrAt CF H fr F ∧
  ∀ d H', H d = none → (∀ b o, b ≠ a → H b = some o → H' b = some o) → ArrAt CF CA H' a d fr F [] → Q .non H'
theorem has_Arrived_init (T : Top K mg CF CP CA) : HasI P w K mg base CX0 1 CA ["self", "frame"] (spArrI CF CA) := by
  refine hasI0 T.iA sc_Arrived_init (fun vs H Q E h => by
    repeat (obtain ⟨_, h⟩ := h)
    subst_vars
    rfl) fun f cdv A outer s H vs Q E hr h => ?_
  obtain ⟨a, dx, fr, F, rfl, ha, hF, q⟩ := h
  refine ⟨_, (pss_cons (ps_fld (pv 0) (pv 1) rfl)
      (pss_one (ps_fld (pv 0) pe_dnewT rfl))), ?_⟩
  simp only [tSeq, tAsg, tRet, tIfS, tTest, tOp, tUn, tVar, tC, tCons, tNil, tCB, tHas, gName, rI0, rI, rU, tNext, tNot, tAnd, tOr, tChain, tIf, tB, tNever, tRetN, tDrop, tTup, tLst, tMeth, tMake, tM0, tM1, tBits, tTruI, tBM, gSub, tSl, tNoPart, tPart, gcE, gnE, bs_length, tListRevR, tRg1, tFldE, sFldE, tPar3, cxK, nxK, List.append_nil, L2.start, List.map_cons, List.map_nil, List.length_cons, List.length_nil, List.replicate, List.cons_append, List.nil_append, List.getElem?_cons_zero, List.getElem?_cons_succ, List.set_cons_zero, List.set_cons_succ, Option.some.injEq, V.int.injEq, V.bl.injEq, V.str.injEq, V.ref.injEq, exists_eq_left', exists_eq_left, exists_and_left, List.cons.injEq, and_true, true_and, eq_self_iff_true, Nat.reduceAdd, Nat.reduceSub, Nat.zero_add, rEqI, rNeI, tAndV, tOrV, tNotV, natI, tDGet, tDIn, tDNotIn, sDPut, tDGet2, tDNewT, tDNewK]
  refine setF ha T.clA T.aA_frame (by decide) fun d hd => setF (Ex.new hd _ _ upd_same) T.clA T.aA_texts (by show 1 < 1000; decide) ?_
  have hda : d ≠ a := (ne_of_none upd_same hd).symm
  have hd0 : H d = none := by rw [upd_ne hda] at hd; exact hd
  have hfa : fr ≠ a := by
    rintro rfl
    obtain ⟨dx', h⟩ := hF
    rw [ha] at h
    cases h
  have keep : ∀ b o, b ≠ a → H b = some o → (upd (upd (upd H a (.ins CA dx (putF "frame" (.ref fr) []))) d (.dT [])) a (.ins CA dx (putF "_texts" (.ref d) (putF "frame" (.ref fr) [])))) b = some o := fun b o hb ho => by
    rw [upd_ne hb, upd_ne (ne_of_none ho hd0), upd_ne hb]
    exact ho
  refine q d _ hd0 keep ⟨⟨dx, ?_⟩, ?_, ?_⟩
  · exact upd_same
  · obtain ⟨dx', h⟩ := hF
    exact ⟨dx', keep _ _ hfa h⟩
  · rw [upd_ne hda]
    exact upd_same
def spDigits (CF CA : Addr) : Sp := fun vs H Q _ => ∃ (a d fr k : Addr) (F : Fr) (m : Dig) (key : Key), vs = [.ref a, .ref k] ∧ ArrAt CF CA H a d fr F m ∧ F.ok ∧ H k = some (keyT key) ∧ InR F key ∧ Q (.str (bs (digs m key))) H
theorem has_Arrived_digits (T : Top K mg CF CP CA) : HasM P w K mg base CX0 4 CA "digits" ["self", "key"] (spDigits CF CA) := by
  have G_check_key := has_check_key (P := P) (w := w) (base := base) T
  refine hasM0 T.m_Arrived_digits sc_Arrived_digits (fun vs H Q E h => by
    repeat (obtain ⟨_, h⟩ := h)
    subst_vars
    rfl) fun f cdv A outer s H vs Q E hr h => ?_
  obtain ⟨a, d, fr, k, F, m, key, rfl, hA, ok, hk, inr, q⟩ := h
  refine ⟨_, (pss_cons (ps_expr (pe_has G_check_key (hr.mono (by decide)) (pa_cons (pe_fld (pv 0) rfl) (pa_cons (pv 1) pa_nil))))
      (pss_one (ps_ret (pe_dget2 (hu_of hr) (pe_fld (pv 0) rfl) (pv 1) pe_str ⟨rfl, rfl, rfl, rfl⟩)))), ?_⟩
  obtain ⟨⟨dx, h1⟩, h2, h3⟩ := id hA
  simp only [tSeq, tAsg, tRet, tIfS, tTest, tOp, tUn, tVar, tC, tCons, tNil, tCB, tHas, gName, rI0, rI, rU, tNext, tNot, tAnd, tOr, tChain, tIf, tB, tNever, tRetN, tDrop, tTup, tLst, tMeth, tMake, tM0, tM1, tBits, tTruI, tBM, gSub, tSl, tNoPart, tPart, gcE, gnE, bs_length, tListRevR, tRg1, tFldE, sFldE, tPar3, cxK, nxK, List.append_nil, L2.start, List.map_cons, List.map_nil, List.length_cons, List.length_nil, List.replicate, List.cons_append, List.nil_append, List.getElem?_cons_zero, List.getElem?_cons_succ, List.set_cons_zero, List.set_cons_succ, Option.some.injEq, V.int.injEq, V.bl.injEq, V.str.injEq, V.ref.injEq, exists_eq_left', exists_eq_left, exists_and_left, List.cons.injEq, and_true, true_and, eq_self_iff_true, Nat.reduceAdd, Nat.reduceSub, Nat.zero_add, rEqI, rNeI, tAndV, tOrV, tNotV, natI, tDGet, tDIn, tDNotIn, sDPut, tDGet2, tDNewT, tDNewK, arE T h1]
  refine ⟨fr, k, F, key, rfl, h2, ok, hk, inr, ?_⟩
  simp only [tSeq, tAsg, tRet, tIfS, tTest, tOp, tUn, tVar, tC, tCons, tNil, tCB, tHas, gName, rI0, rI, rU, tNext, tNot, tAnd, tOr, tChain, tIf, tB, tNever, tRetN, tDrop, tTup, tLst, tMeth, tMake, tM0, tM1, tBits, tTruI, tBM, gSub, tSl, tNoPart, tPart, gcE, gnE, bs_length, tListRevR, tRg1, tFldE, sFldE, tPar3, cxK, nxK, List.append_nil, L2.start, List.map_cons, List.map_nil, List.length_cons, List.length_nil, List.replicate, List.cons_append, List.nil_append, List.getElem?_cons_zero, List.getElem?_cons_succ, List.set_cons_zero, List.set_cons_succ, Option.some.injEq, V.int.injEq, V.bl.injEq, V.str.injEq, V.ref.injEq, exists_eq_left', exists_eq_left, exists_and_left, List.cons.injEq, and_true, true_and, eq_self_iff_true, Nat.reduceAdd, Nat.reduceSub, Nat.zero_add, rEqI, rNeI, tAndV, tOrV, tNotV, natI, tDGet, tDIn, tDNotIn, sDPut, tDGet2, tDNewT, tDNewK, arE T h1]
  refine ⟨.inr ⟨_, .inl h3⟩, _, DGet.t (k := kk key) h3 hk, ?_⟩
  rw [valV_ent]
  unfold digs at q
  cases hg : getD m key with
  | none => rw [hg] at q; exact q
  | some c => rw [hg] at q; exact q
theorem acc_if {c : Bool} {S T : Prop} (hs : T → S) (t : T) : if c = true then S else T := by
  cases c
  · exact iteF t
  · exact iteT (hs t)
def spAccept (CF CA : Addr) : Sp := fun vs H Q _ => ∃ (a d fr k : Addr) (F : Fr) (m : Dig) (key : Key) (c : List Bool), vs = [.ref a, .ref k, .int 0, .str (bs c)] ∧ ArrAt CF CA H a d fr F m ∧ F.ok ∧ H k = some (keyT key) ∧ InR F key ∧
  getD m key = none ∧ c.length ≤ 16 ∧ (fpM (F.tw key.2.1) (F.tw key.2.1 * F.th key.2.1) c).isSome = true ∧ m.length ≤ 1000 ∧
  ∀ v H', (∀ b o, b ≠ d → H b = some o → H' b = some o) → ArrAt CF CA H' a d fr F (if c = [] then m else m ++ [(key, c)]) → Q v H'
theorem has_Arrived_accept (T : Top K mg CF CP CA) : HasM P w K mg base CX0 7 CA "accept" ["self", "key", "start", "bits"] (spAccept CF CA) := by
  obtain ⟨f_Arrived_digits, fd_Arrived_digits, mm_Arrived_digits, b_Arrived_digits, F_Arrived_digits⟩ := (has_Arrived_digits (P := P) (w := w) (base := base) T).ex
  have G_tile_size := has_tile_size (P := P) (w := w) (base := base) T
  have G_find_prefix := has_find_prefix (P := P) (w := w) (base := base) T
  refine hasM0 T.m_Arrived_accept sc_Arrived_accept (fun vs H Q E h => by
    repeat (obtain ⟨_, h⟩ := h)
    subst_vars
    rfl) fun f cdv A outer s H vs Q E hr h => ?_
  obtain ⟨a, d, fr, k, F, m, key, c, rfl, hA, ok, hk, inr, hn, hc, hs, hml, q⟩ := h
  refine ⟨_, (pss_cons (ps_set (i := 4) sc_Arrived_accept.nd rfl (by first | exact .inl rfl | exact .inr rfl) (pe_meth (pv 0) T.clA mm_Arrived_digits F_Arrived_digits (hr.mono (by decide)) b_Arrived_digits .nil pass0 (pa_cons (pv 1) pa_nil)))
      (pss_cons (ps_if (pt_not (pt_chain op_le op_le pe_int (pv 2) (pe_gint T.c_START_MOST))) (pss_one ps_never) pss_nil)
      (pss_cons (ps_if (pt_cmpR op_gt (pe_callB call_len_str rfl T.n_len boot_len (pa_cons (pv 3) pa_nil)) (pe_gint T.c_DIGITS_MOST) (nomark _)) (pss_one ps_never) pss_nil)
      (pss_cons (ps_if (pt_cmpR op_lt (pe_callB call_len_str rfl T.n_len boot_len (pa_cons (pv 4) pa_nil)) (pv 2) (nomark _)) (pss_one ps_never) pss_nil)
      (pss_cons (ps_set (i := 5) sc_Arrived_accept.nd rfl (by first | exact .inl rfl | exact .inr rfl) (pe_slice sl_str (pv 4) (po_some (pv 2)) po_none))
      (pss_cons (ps_if (PW.pt (pw_and (pt_not (pt_val (pe_m1 PySem.F.slot_str_startswith PySem.F.type_str_startswith mt_startswith (pv 5) (pv 3)))) (pw_and1 (pt_not (pt_val (pe_m1 PySem.F.slot_str_startswith PySem.F.type_str_startswith mt_startswith (pv 3) (pv 5))))))) (pss_one ps_never) pss_nil)
      (pss_cons (ps_if (pt_cmpR op_le (pe_callB call_len_str rfl T.n_len boot_len (pa_cons (pv 3) pa_nil)) (pe_callB call_len_str rfl T.n_len boot_len (pa_cons (pv 5) pa_nil)) (nomark _)) (pss_one (ps_ret pe_int)) pss_nil)
      (pss_cons (ps_set (i := 6) sc_Arrived_accept.nd rfl (by first | exact .inl rfl | exact .inr rfl) (pe_op op_add_str (pe_slice sl_str (pv 4) po_none (po_some (pv 2))) (pv 3)))
      (pss_cons (ps_asg (pe_has G_tile_size (hr.mono (by decide)) (pa_cons (pe_fld (pv 0) rfl) (pa_cons (pe_ix ix_tup (pv 1) pe_int (fun _ _ => rfl)) pa_nil))) (pg_tup rfl (pgs_cons (pg_name (i := 7) sc_Arrived_accept.nd rfl (by first | exact .inl rfl | exact .inr rfl)) (pgs_cons (pg_name (i := 8) sc_Arrived_accept.nd rfl (by first | exact .inl rfl | exact .inr rfl)) pgs_nil))))
      (pss_cons (ps_if (pt_cmpR op_isN (pe_has G_find_prefix (hr.mono (by decide)) (pa_cons (pv 7) (pa_cons (pe_op op_mul (pv 7) (pv 8)) (pa_cons (pv 6) pa_nil)))) pe_non (nomark _)) (pss_one ps_never) pss_nil)
      (pss_cons (ps_dput (hu_of hr) (pe_fld (pv 0) rfl) (pv 1) (pv 6) rfl)
      (pss_one (ps_ret (pe_op op_sub (pe_callB call_len_str rfl T.n_len boot_len (pa_cons (pv 6) pa_nil)) (pe_callB call_len_str rfl T.n_len boot_len (pa_cons (pv 4) pa_nil)))))))))))))))), ?_⟩
  obtain ⟨⟨dx, h1⟩, h2, h3⟩ := id hA
  simp only [tSeq, tAsg, tRet, tIfS, tTest, tOp, tUn, tVar, tC, tCons, tNil, tCB, tHas, gName, rI0, rI, rU, tNext, tNot, tAnd, tOr, tChain, tIf, tB, tNever, tRetN, tDrop, tTup, tLst, tMeth, tMake, tM0, tM1, tBits, tTruI, tBM, gSub, tSl, tNoPart, tPart, gcE, gnE, bs_length, tListRevR, tRg1, tFldE, sFldE, tPar3, cxK, nxK, List.append_nil, L2.start, List.map_cons, List.map_nil, List.length_cons, List.length_nil, List.replicate, List.cons_append, List.nil_append, List.getElem?_cons_zero, List.getElem?_cons_succ, List.set_cons_zero, List.set_cons_succ, Option.some.injEq, V.int.injEq, V.bl.injEq, V.str.injEq, V.ref.injEq, exists_eq_left', exists_eq_left, exists_and_left, List.cons.injEq, and_true, true_and, eq_self_iff_true, Nat.reduceAdd, Nat.reduceSub, Nat.zero_add, rEqI, rNeI, tAndV, tOrV, tNotV, natI, tDGet, tDIn, tDNotIn, sDPut, tDGet2, tDNewT, tDNewK, arE T h1]
  have hd0 : digs m key = [] := by unfold digs; rw [hn]; rfl
  refine ⟨dx, fsA fr d, h1, rfl, a, d, fr, k, F, m, key, rfl, hA, ok, hk, inr, ?_⟩
  rw [hd0]
  dsimp only
  rw [if_pos (by decide), if_neg (by decide)]
  refine ⟨sz_of (by omega), ?_⟩
  rw [if_neg (by simp; omega)]
  have l0 : (bs []).length = 0 := by rw [bs_length]; rfl
  refine ⟨_, rfl, by rw [l0]; decide, ?_⟩
  rw [l0, if_neg (by decide)]
  refine ⟨_, rfl, by rw [l0]; decide, ?_⟩
  rw [cut_from0]
  dsimp only
  refine ⟨⟨_, rfl⟩, _, rfl, acc_if (fun t => ⟨⟨_, rfl⟩, _, rfl, by rw [starts_bs, if_neg (by simp)]; exact t⟩) ?_⟩
  refine ⟨sz_of (by omega), _, rfl, by rw [l0]; decide, ?_⟩
  rw [l0]
  by_cases hcn : c = []
  · rw [if_pos (by simp [hcn])]
    refine q _ H (fun b o _ ho => ho) ?_
    rw [if_pos hcn]
    exact hA
  · have hc1 : 1 ≤ c.length := by
      cases c with
      | nil => exact absurd rfl hcn
      | cons => simp
    rw [if_neg (by simp; omega)]
    rw [if_neg hcn] at q
    have e0 : cutS (bs []) none (some 0) = bs [] := cut_to [] 0
    refine ⟨_, rfl, by rw [l0]; decide, ?_⟩
    dsimp only
    rw [e0]
    refine ⟨_, rfl, by rw [l0]; exact sz_of (by omega), ?_⟩
    rw [bs_append, List.nil_append]
    simp only [tSeq, tAsg, tRet, tIfS, tTest, tOp, tUn, tVar, tC, tCons, tNil, tCB, tHas, gName, rI0, rI, rU, tNext, tNot, tAnd, tOr, tChain, tIf, tB, tNever, tRetN, tDrop, tTup, tLst, tMeth, tMake, tM0, tM1, tBits, tTruI, tBM, gSub, tSl, tNoPart, tPart, gcE, gnE, bs_length, tListRevR, tRg1, tFldE, sFldE, tPar3, cxK, nxK, List.append_nil, L2.start, List.map_cons, List.map_nil, List.length_cons, List.length_nil, List.replicate, List.cons_append, List.nil_append, List.getElem?_cons_zero, List.getElem?_cons_succ, List.set_cons_zero, List.set_cons_succ, Option.some.injEq, V.int.injEq, V.bl.injEq, V.str.injEq, V.ref.injEq, exists_eq_left', exists_eq_left, exists_and_left, List.cons.injEq, and_true, true_and, eq_self_iff_true, Nat.reduceAdd, Nat.reduceSub, Nat.zero_add, rEqI, rNeI, tAndV, tOrV, tNotV, natI, tDGet, tDIn, tDNotIn, sDPut, tDGet2, tDNewT, tDNewK, arE T h1]
    refine ixT (j := 1) rfl (st_of hk) rfl ?_
    have wm := Fr.wm ok inr.2.1
    refine ⟨fr, F, key.2.1, rfl, h2, ok, inr.2.1, fun r H2 hr2 e2 h2' => gtup (st_of h2') rfl ?_⟩
    have hA2 := hA.mono e2
    obtain ⟨⟨dx2, h12⟩, h22, h32⟩ := id hA2
    simp only [tSeq, tAsg, tRet, tIfS, tTest, tOp, tUn, tVar, tC, tCons, tNil, tCB, tHas, gName, rI0, rI, rU, tNext, tNot, tAnd, tOr, tChain, tIf, tB, tNever, tRetN, tDrop, tTup, tLst, tMeth, tMake, tM0, tM1, tBits, tTruI, tBM, gSub, tSl, tNoPart, tPart, gcE, gnE, bs_length, tListRevR, tRg1, tFldE, sFldE, tPar3, cxK, nxK, List.append_nil, L2.start, List.map_cons, List.map_nil, List.length_cons, List.length_nil, List.replicate, List.cons_append, List.nil_append, List.getElem?_cons_zero, List.getElem?_cons_succ, List.set_cons_zero, List.set_cons_succ, Option.some.injEq, V.int.injEq, V.bl.injEq, V.str.injEq, V.ref.injEq, exists_eq_left', exists_eq_left, exists_and_left, List.cons.injEq, and_true, true_and, eq_self_iff_true, Nat.reduceAdd, Nat.reduceSub, Nat.zero_add, rEqI, rNeI, tAndV, tOrV, tNotV, natI, tDGet, tDIn, tDNotIn, sDPut, tDGet2, tDNewT, tDNewK, arE T h12]
    refine ⟨.inl ⟨by have := wm.1; unfold OkW at this; omega, by have := wm.1; unfold OkW at this; omega⟩, F.tw key.2.1, F.tw key.2.1 * F.th key.2.1, c, by rw [Int.natCast_mul], wm.1, wm.2.2.1, hc, fun H3 e3 => ?_⟩
    obtain ⟨s, hs2⟩ := Option.isSome_iff_exists.mp hs
    rw [hs2, optS_some]
    rw [if_neg (non_str _)]
    have hA3 := hA2.mono e3
    obtain ⟨⟨dx3, h13⟩, h23, h33⟩ := id hA3
    simp only [tSeq, tAsg, tRet, tIfS, tTest, tOp, tUn, tVar, tC, tCons, tNil, tCB, tHas, gName, rI0, rI, rU, tNext, tNot, tAnd, tOr, tChain, tIf, tB, tNever, tRetN, tDrop, tTup, tLst, tMeth, tMake, tM0, tM1, tBits, tTruI, tBM, gSub, tSl, tNoPart, tPart, gcE, gnE, bs_length, tListRevR, tRg1, tFldE, sFldE, tPar3, cxK, nxK, List.append_nil, L2.start, List.map_cons, List.map_nil, List.length_cons, List.length_nil, List.replicate, List.cons_append, List.nil_append, List.getElem?_cons_zero, List.getElem?_cons_succ, List.set_cons_zero, List.set_cons_succ, Option.some.injEq, V.int.injEq, V.bl.injEq, V.str.injEq, V.ref.injEq, exists_eq_left', exists_eq_left, exists_and_left, List.cons.injEq, and_true, true_and, eq_self_iff_true, Nat.reduceAdd, Nat.reduceSub, Nat.zero_add, rEqI, rNeI, tAndV, tOrV, tNotV, natI, tDGet, tDIn, tDNotIn, sDPut, tDGet2, tDNewT, tDNewK, arE T h13]
    have hkd : H3 k = some (.tup ((kk key).map kV)) := (e2.trans e3) _ _ hk
    refine ⟨_, DPut.t (k := kk key) h33 hkd (by rw [List.length_map]; exact sz_lt (by omega)), sz_of (by omega), by decide, ?_⟩
    rw [putK_ent hn]
    have had : a ≠ d := by
      rintro rfl
      rw [h13] at h33
      cases h33
    have hfd : fr ≠ d := by
      rintro rfl
      obtain ⟨dxf, hf⟩ := h23
      rw [hf] at h33
      cases h33
    refine q _ _ (fun b o hb ho => by rw [upd_ne hb]; exact (e2.trans e3) _ _ ho) ⟨⟨dx3, by rw [upd_ne had]; exact h13⟩, ?_, upd_same⟩
    obtain ⟨dxf, hf⟩ := h23
    exact ⟨dxf, by rw [upd_ne hfd]; exact hf⟩
/-- the entries of what has arrived, by the order of keys -/
def Fr.ents (F : Fr) (m : Dig) : List Key := F.keys.filter fun k => (getD m k).isSome
def EntAt (H : Hp) (m : Dig) (v : V) (k : Key) : Prop := ∃ a b, v = .ref a ∧ H a = some (.tup [.ref b, .str (bs (digs m k))]) ∧ H b = some (keyT k)
theorem Fr.mem_keys {F : Fr} {k : Key} : k ∈ F.keys ↔ InR F k := by
  obtain ⟨c, t, p⟩ := k
  unfold Fr.keys InR
  simp only [List.mem_flatMap, List.mem_range, List.mem_map, Prod.mk.injEq]
  constructor
  · rintro ⟨i, hi, c', hc, t', ht, rfl, rfl, rfl⟩
    exact ⟨hc, ht, by omega⟩
  · rintro ⟨h1, h2, h3⟩
    exact ⟨F.D - 1 - p, by omega, c, h1, t, h2, rfl, rfl, by omega⟩
theorem Fr.keys_len {F : Fr} (ok : F.ok) : F.keys.length ≤ 1000 := by
  have hb := ok.b
  have ht := F.tiles_le ok
  have h1 : ∀ i, ((List.range F.C).flatMap fun c => (List.range F.tiles).map fun t => ((c, t, F.D - 1 - i) : Key)).length = F.C * F.tiles := fun i => by
    generalize F.C = n
    induction n with
    | zero => simp
    | succ n ih => rw [flatMap_snoc, List.length_append, ih]; simp [Nat.add_mul]
  have h2 : F.keys.length = F.D * (F.C * F.tiles) := by
    unfold Fr.keys
    generalize F.D = D at h1 ⊢
    have : ∀ n, ((List.range n).flatMap fun i => (List.range F.C).flatMap fun c => (List.range F.tiles).map fun t => ((c, t, D - 1 - i) : Key)).length = n * (F.C * F.tiles) := fun n => by
      induction n with
      | zero => simp
      | succ n ih => rw [flatMap_snoc, List.length_append, ih, h1, Nat.add_mul]; omega
    exact this D
  have := Nat.mul_le_mul (show F.D ≤ 3 by omega) (Nat.mul_le_mul (show F.C ≤ 3 by omega) (show F.tiles ≤ 16 by omega))
  omega
theorem all2_conv {α β γ δ : Type} {R : α → γ → Prop} {S : α → δ → Prop} {o : β → γ} {K : β → δ} : ∀ {l : List β} {ys : List α}, All2 R ys (l.map o) → (∀ i ∈ l, ∀ v, R v (o i) → S v (K i)) → All2 S ys (l.map K)
  | [], [], _, _ => .nil
  | b :: l, y :: ys, .cons r rr, h => .cons (h b List.mem_cons_self y r) (all2_conv rr fun i hi => h i (List.mem_cons_of_mem _ hi))
def spPackets (CF CA : Addr) : Sp := fun vs H Q _ => ∃ (a d fr : Addr) (F : Fr) (m : Dig), vs = [.ref a] ∧ ArrAt CF CA H a d fr F m ∧ F.ok ∧ ∀ l H' xs, H l = none → Ex H H' → H' l = some (.lst xs) → All2 (EntAt H' m) xs (F.ents m) → Q (.ref l) H'
theorem has_Arrived_packets (T : Top K mg CF CP CA) : HasM P w K mg base CX0 4 CA "packets" ["self"] (spPackets CF CA) := by
  have G_all_keys := has_all_keys (P := P) (w := w) (base := base) T
  refine hasM0 T.m_Arrived_packets sc_Arrived_packets (fun vs H Q E h => by
    repeat (obtain ⟨_, h⟩ := h)
    subst_vars
    rfl) fun f cdv A outer s H vs Q E hr h => ?_
  obtain ⟨a, d, fr, F, m, rfl, hA, ok, q⟩ := h
  refine ⟨_, (pss_one (ps_ret (pe_lc (own := [("key", 1)]) rfl sc_Arrived_packets.nd (pi_list (pe_has G_all_keys (hr.mono (by decide)) (pa_cons (pe_fld (pv 0) rfl) pa_nil))) (blkOk_by (N := ["self", "key"]) (sc := defScope s_Arrived_packets) (by decide +kernel)) (fun _ _ _ _ _ => by exact (pg_name (i := 1) sc_Arrived_packets.nd rfl (by first | exact .inl rfl | exact .inr rfl))) (fun _ _ _ _ _ => by exact (pts_one (pt_cmp (pc_din (hu_of hr) (pv 1) (pe_fldK (K := K) rfl (pv 0) rfl))))) (fun _ _ _ _ _ => by exact (pe_tup (pa_cons (pv 1) (pa_cons (pe_dget (hu_of hr) (pe_fldK (K := K) rfl (pv 0) rfl) (pv 1) (fun _ _ => rfl)) pa_nil))))))), ?_⟩
  obtain ⟨⟨dx, h1⟩, h2, h3⟩ := id hA
  simp only [tSeq, tAsg, tRet, tIfS, tTest, tOp, tUn, tVar, tC, tCons, tNil, tCB, tHas, gName, rI0, rI, rU, tNext, tNot, tAnd, tOr, tChain, tIf, tB, tNever, tRetN, tDrop, tTup, tLst, tMeth, tMake, tM0, tM1, tBits, tTruI, tBM, gSub, tSl, tNoPart, tPart, gcE, gnE, bs_length, tListRevR, tRg1, tFldE, sFldE, tPar3, cxK, nxK, List.append_nil, L2.start, List.map_cons, List.map_nil, List.length_cons, List.length_nil, List.replicate, List.cons_append, List.nil_append, List.getElem?_cons_zero, List.getElem?_cons_succ, List.set_cons_zero, List.set_cons_succ, Option.some.injEq, V.int.injEq, V.bl.injEq, V.str.injEq, V.ref.injEq, exists_eq_left', exists_eq_left, exists_and_left, List.cons.injEq, and_true, true_and, eq_self_iff_true, Nat.reduceAdd, Nat.reduceSub, Nat.zero_add, rEqI, rNeI, tAndV, tOrV, tNotV, natI, tDGet, tDIn, tDNotIn, sDPut, tDGet2, tDNewT, tDNewK, arE T h1]
  rw [lcE]
  simp only [tSeq, tAsg, tRet, tIfS, tTest, tOp, tUn, tVar, tC, tCons, tNil, tCB, tHas, gName, rI0, rI, rU, tNext, tNot, tAnd, tOr, tChain, tIf, tB, tNever, tRetN, tDrop, tTup, tLst, tMeth, tMake, tM0, tM1, tBits, tTruI, tBM, gSub, tSl, tNoPart, tPart, gcE, gnE, bs_length, tListRevR, tRg1, tFldE, sFldE, tPar3, cxK, nxK, List.append_nil, L2.start, List.map_cons, List.map_nil, List.length_cons, List.length_nil, List.replicate, List.cons_append, List.nil_append, List.getElem?_cons_zero, List.getElem?_cons_succ, List.set_cons_zero, List.set_cons_succ, Option.some.injEq, V.int.injEq, V.bl.injEq, V.str.injEq, V.ref.injEq, exists_eq_left', exists_eq_left, exists_and_left, List.cons.injEq, and_true, true_and, eq_self_iff_true, Nat.reduceAdd, Nat.reduceSub, Nat.zero_add, rEqI, rNeI, tAndV, tOrV, tNotV, natI, tDGet, tDIn, tDNotIn, sDPut, tDGet2, tDNewT, tDNewK, arE T h1]
  refine ⟨fr, F, rfl, h2, ok, fun p H1 xs hp e1 hpx hks => ?_⟩
  have hA1 := hA.mono e1
  have hxl := hks.length
  have kget : ∀ {i x}, xs[i]? = some x → KeyAt H1 x (F.keys.getD i default) ∧ InR F (F.keys.getD i default) := fun {i x} hx => by
    obtain ⟨k, hk, r⟩ := All2.get hks hx
    have e : F.keys.getD i default = k := by simp [hk]
    rw [e]
    exact ⟨r, Fr.mem_keys.mp (List.mem_of_getElem? hk)⟩
  refine lo_listF (a := p) (xs := xs) (fun Q q => q) (sq_of hpx) (by rw [hxl]; have := F.keys_len ok; omega) (fun i => (getD m (F.keys.getD i default)).isSome) (fun i => .tup [xs.getD i .non, .str (bs (digs m (F.keys.getD i default)))]) (fun _ => rfl) ?_ ?_ ?_
  · intro i x H2 R hx e2 hR
    obtain ⟨⟨ka, rfl, hka⟩, inr⟩ := kget hx
    obtain ⟨⟨dx2, h12⟩, h22, h32⟩ := hA1.mono e2
    simp only [wipe, List.set_cons_zero, List.set_cons_succ, List.foldl_cons, List.foldl_nil]
    simp only [tSeq, tAsg, tRet, tIfS, tTest, tOp, tUn, tVar, tC, tCons, tNil, tCB, tHas, gName, rI0, rI, rU, tNext, tNot, tAnd, tOr, tChain, tIf, tB, tNever, tRetN, tDrop, tTup, tLst, tMeth, tMake, tM0, tM1, tBits, tTruI, tBM, gSub, tSl, tNoPart, tPart, gcE, gnE, bs_length, tListRevR, tRg1, tFldE, sFldE, tPar3, cxK, nxK, List.append_nil, L2.start, List.map_cons, List.map_nil, List.length_cons, List.length_nil, List.replicate, List.cons_append, List.nil_append, List.getElem?_cons_zero, List.getElem?_cons_succ, List.set_cons_zero, List.set_cons_succ, Option.some.injEq, V.int.injEq, V.bl.injEq, V.str.injEq, V.ref.injEq, exists_eq_left', exists_eq_left, exists_and_left, List.cons.injEq, and_true, true_and, eq_self_iff_true, Nat.reduceAdd, Nat.reduceSub, Nat.zero_add, rEqI, rNeI, tAndV, tOrV, tNotV, natI, tDGet, tDIn, tDNotIn, sDPut, tDGet2, tDNewT, tDNewK, arE T h12]
    refine ⟨_, DGet.t (k := kk (F.keys.getD i default)) h32 (e2 _ _ hka), ?_⟩
    rw [valV_ent, Option.isSome_map]
    exact hR H2 (Ex.refl _)
  · intro i x H2 R hx hf e2 hR
    obtain ⟨⟨ka, rfl, hka⟩, inr⟩ := kget hx
    obtain ⟨⟨dx2, h12⟩, h22, h32⟩ := hA1.mono e2
    simp only [wipe, List.set_cons_zero, List.set_cons_succ, List.foldl_cons, List.foldl_nil]
    simp only [tSeq, tAsg, tRet, tIfS, tTest, tOp, tUn, tVar, tC, tCons, tNil, tCB, tHas, gName, rI0, rI, rU, tNext, tNot, tAnd, tOr, tChain, tIf, tB, tNever, tRetN, tDrop, tTup, tLst, tMeth, tMake, tM0, tM1, tBits, tTruI, tBM, gSub, tSl, tNoPart, tPart, gcE, gnE, bs_length, tListRevR, tRg1, tFldE, sFldE, tPar3, cxK, nxK, List.append_nil, L2.start, List.map_cons, List.map_nil, List.length_cons, List.length_nil, List.replicate, List.cons_append, List.nil_append, List.getElem?_cons_zero, List.getElem?_cons_succ, List.set_cons_zero, List.set_cons_succ, Option.some.injEq, V.int.injEq, V.bl.injEq, V.str.injEq, V.ref.injEq, exists_eq_left', exists_eq_left, exists_and_left, List.cons.injEq, and_true, true_and, eq_self_iff_true, Nat.reduceAdd, Nat.reduceSub, Nat.zero_add, rEqI, rNeI, tAndV, tOrV, tNotV, natI, tDGet, tDIn, tDNotIn, sDPut, tDGet2, tDNewT, tDNewK, arE T h12]
    obtain ⟨c, hc⟩ := Option.isSome_iff_exists.mp hf
    have hdc : digs m (F.keys.getD i default) = c := by unfold digs; rw [hc]; rfl
    have hxg : xs.getD i .non = .ref ka := by simp [hx]
    rw [hdc, hxg] at hR
    refine ⟨.str (bs c), ?_, by decide, fun p2 hp2 => hR p2 _ hp2 (Ex.new hp2) upd_same⟩
    have := DGet.t (k := kk (F.keys.getD i default)) h32 (e2 _ _ hka)
    rw [valV_ent, hc] at this
    exact this
  · intro l H2 ys hl e2 hl2 hys
    refine q l H2 ys (fresh_back e1 hl) (e1.trans e2) hl2 ?_
    have e : F.ents m = (((List.range xs.length).filter fun i => (getD m (F.keys.getD i default)).isSome).map fun i => F.keys.getD i default) := by
      unfold Fr.ents
      rw [hxl]
      conv => lhs; rw [← range_get F.keys default, List.filter_map]
      rfl
    rw [e]
    refine all2_conv hys fun i hi v hv => ?_
    have hi2 : i < xs.length := List.mem_range.mp (List.mem_filter.mp hi).1
    obtain ⟨⟨ka, hka0, hka⟩, inr⟩ := kget (List.getElem?_eq_getElem hi2)
    obtain ⟨a2, rfl, ha2⟩ := hv
    have hxg : xs.getD i .non = .ref ka := by simp [hi2, hka0]
    rw [hxg] at ha2
    exact ⟨a2, ka, rfl, ha2, e2 _ _ hka⟩
def spKnownT (CF CA : Addr) : Sp := fun vs H Q _ => ∃ (a d fr k : Addr) (F : Fr) (m : Dig) (key : Key) (s : List Bool), vs = [.ref a, .ref k] ∧ ArrAt CF CA H a d fr F m ∧ F.ok ∧ H k = some (keyT key) ∧ InR F key ∧
  (digs m key).length ≤ 16 ∧ fpM (F.tw key.2.1) (F.tw key.2.1 * F.th key.2.1) (digs m key) = some s ∧ ∀ H', Ex H H' → Q (.str (knS s (F.tw key.2.1 * F.th key.2.1 - s.length))) H'
theorem has_known_text (T : Top K mg CF CP CA) : Has P w K mg base CX0 9 "known_text" ["arrived", "key"] (spKnownT CF CA) := by
  obtain ⟨f_Arrived_digits, fd_Arrived_digits, mm_Arrived_digits, b_Arrived_digits, F_Arrived_digits⟩ := (has_Arrived_digits (P := P) (w := w) (base := base) T).ex
  have G_tile_size := has_tile_size (P := P) (w := w) (base := base) T
  have G_known := has_known (P := P) (w := w) (base := base) T
  refine has0 T.d_known_text sc_known_text (fun vs H Q E h => by
    repeat (obtain ⟨_, h⟩ := h)
    subst_vars
    rfl) fun f cdv A outer s H vs Q E hr h => ?_
  obtain ⟨a, d, fr, k, F, m, key, s1, rfl, hA, ok, hk, inr, hl, hs, q⟩ := h
  refine ⟨_, (pss_cons (ps_set (i := 2) sc_known_text.nd rfl (by first | exact .inl rfl | exact .inr rfl) (pe_meth (pv 0) T.clA mm_Arrived_digits F_Arrived_digits (hr.mono (by decide)) b_Arrived_digits .nil pass0 (pa_cons (pv 1) pa_nil)))
      (pss_cons (ps_asg (pe_has G_tile_size (hr.mono (by decide)) (pa_cons (pe_fld (pv 0) rfl) (pa_cons (pe_ix ix_tup (pv 1) pe_int (fun _ _ => rfl)) pa_nil))) (pg_tup rfl (pgs_cons (pg_name (i := 3) sc_known_text.nd rfl (by first | exact .inl rfl | exact .inr rfl)) (pgs_cons (pg_name (i := 4) sc_known_text.nd rfl (by first | exact .inl rfl | exact .inr rfl)) pgs_nil))))
      (pss_one (ps_ret (pe_has G_known (hr.mono (by decide)) (pa_cons (pv 3) (pa_cons (pe_op op_mul (pv 3) (pv 4)) (pa_cons (pv 2) pa_nil)))))))), ?_⟩
  obtain ⟨⟨dx, h1⟩, h2, h3⟩ := id hA
  simp only [tSeq, tAsg, tRet, tIfS, tTest, tOp, tUn, tVar, tC, tCons, tNil, tCB, tHas, gName, rI0, rI, rU, tNext, tNot, tAnd, tOr, tChain, tIf, tB, tNever, tRetN, tDrop, tTup, tLst, tMeth, tMake, tM0, tM1, tBits, tTruI, tBM, gSub, tSl, tNoPart, tPart, gcE, gnE, bs_length, tListRevR, tRg1, tFldE, sFldE, tPar3, cxK, nxK, List.append_nil, L2.start, List.map_cons, List.map_nil, List.length_cons, List.length_nil, List.replicate, List.cons_append, List.nil_append, List.getElem?_cons_zero, List.getElem?_cons_succ, List.set_cons_zero, List.set_cons_succ, Option.some.injEq, V.int.injEq, V.bl.injEq, V.str.injEq, V.ref.injEq, exists_eq_left', exists_eq_left, exists_and_left, List.cons.injEq, and_true, true_and, eq_self_iff_true, Nat.reduceAdd, Nat.reduceSub, Nat.zero_add, rEqI, rNeI, tAndV, tOrV, tNotV, natI, tDGet, tDIn, tDNotIn, sDPut, tDGet2, tDNewT, tDNewK, arE T h1]
  refine ⟨dx, fsA fr d, h1, rfl, a, d, fr, k, F, m, key, rfl, hA, ok, hk, inr, ?_⟩
  simp only [tSeq, tAsg, tRet, tIfS, tTest, tOp, tUn, tVar, tC, tCons, tNil, tCB, tHas, gName, rI0, rI, rU, tNext, tNot, tAnd, tOr, tChain, tIf, tB, tNever, tRetN, tDrop, tTup, tLst, tMeth, tMake, tM0, tM1, tBits, tTruI, tBM, gSub, tSl, tNoPart, tPart, gcE, gnE, bs_length, tListRevR, tRg1, tFldE, sFldE, tPar3, cxK, nxK, List.append_nil, L2.start, List.map_cons, List.map_nil, List.length_cons, List.length_nil, List.replicate, List.cons_append, List.nil_append, List.getElem?_cons_zero, List.getElem?_cons_succ, List.set_cons_zero, List.set_cons_succ, Option.some.injEq, V.int.injEq, V.bl.injEq, V.str.injEq, V.ref.injEq, exists_eq_left', exists_eq_left, exists_and_left, List.cons.injEq, and_true, true_and, eq_self_iff_true, Nat.reduceAdd, Nat.reduceSub, Nat.zero_add, rEqI, rNeI, tAndV, tOrV, tNotV, natI, tDGet, tDIn, tDNotIn, sDPut, tDGet2, tDNewT, tDNewK, arE T h1]
  have wm := Fr.wm ok inr.2.1
  refine ixT (j := 1) rfl (st_of hk) rfl ⟨fr, F, key.2.1, rfl, h2, ok, inr.2.1, fun r H2 hr2 e2 h2' => gtup (st_of h2') rfl ?_⟩
  simp only [tSeq, tAsg, tRet, tIfS, tTest, tOp, tUn, tVar, tC, tCons, tNil, tCB, tHas, gName, rI0, rI, rU, tNext, tNot, tAnd, tOr, tChain, tIf, tB, tNever, tRetN, tDrop, tTup, tLst, tMeth, tMake, tM0, tM1, tBits, tTruI, tBM, gSub, tSl, tNoPart, tPart, gcE, gnE, bs_length, tListRevR, tRg1, tFldE, sFldE, tPar3, cxK, nxK, List.append_nil, L2.start, List.map_cons, List.map_nil, List.length_cons, List.length_nil, List.replicate, List.cons_append, List.nil_append, List.getElem?_cons_zero, List.getElem?_cons_succ, List.set_cons_zero, List.set_cons_succ, Option.some.injEq, V.int.injEq, V.bl.injEq, V.str.injEq, V.ref.injEq, exists_eq_left', exists_eq_left, exists_and_left, List.cons.injEq, and_true, true_and, eq_self_iff_true, Nat.reduceAdd, Nat.reduceSub, Nat.zero_add, rEqI, rNeI, tAndV, tOrV, tNotV, natI, tDGet, tDIn, tDNotIn, sDPut, tDGet2, tDNewT, tDNewK]
  refine ⟨.inl ⟨by have := wm.1; unfold OkW at this; omega, by have := wm.1; unfold OkW at this; omega⟩, F.tw key.2.1, F.tw key.2.1 * F.th key.2.1, digs m key, s1, by rw [Int.natCast_mul], wm.1, wm.2.2.1, hl, hs, fun H3 e3 => q H3 (e2.trans e3)⟩
def spIsOpen (CF CA : Addr) : Sp := fun vs H Q _ => ∃ (a d fr k : Addr) (F : Fr) (m : Dig) (key : Key) (s : List Bool), vs = [.ref a, .ref k] ∧ ArrAt CF CA H a d fr F m ∧ F.ok ∧ H k = some (keyT key) ∧ InR F key ∧
  (digs m key).length ≤ 16 ∧ fpM (F.tw key.2.1) (F.tw key.2.1 * F.th key.2.1) (digs m key) = some s ∧ ∀ H', Ex H H' → Q (.bl (decide (s.length < F.tw key.2.1 * F.th key.2.1))) H'
theorem has_is_open (T : Top K mg CF CP CA) : Has P w K mg base CX0 10 "is_open" ["arrived", "key"] (spIsOpen CF CA) := by
  have G_known_text := has_known_text (P := P) (w := w) (base := base) T
  refine has0 T.d_is_open sc_is_open (fun vs H Q E h => by
    repeat (obtain ⟨_, h⟩ := h)
    subst_vars
    rfl) fun f cdv A outer s H vs Q E hr h => ?_
  obtain ⟨a, d, fr, k, F, m, key, s1, rfl, hA, ok, hk, inr, hl, hs, q⟩ := h
  refine ⟨_, (pss_one (ps_ret (pe_cmpR op_in_sign pe_str (pe_has G_known_text (hr.mono (by decide)) (pa_cons (pv 0) (pa_cons (pv 1) pa_nil))) rfl))), ?_⟩
  simp only [tSeq, tAsg, tRet, tIfS, tTest, tOp, tUn, tVar, tC, tCons, tNil, tCB, tHas, gName, rI0, rI, rU, tNext, tNot, tAnd, tOr, tChain, tIf, tB, tNever, tRetN, tDrop, tTup, tLst, tMeth, tMake, tM0, tM1, tBits, tTruI, tBM, gSub, tSl, tNoPart, tPart, gcE, gnE, bs_length, tListRevR, tRg1, tFldE, sFldE, tPar3, cxK, nxK, List.append_nil, L2.start, List.map_cons, List.map_nil, List.length_cons, List.length_nil, List.replicate, List.cons_append, List.nil_append, List.getElem?_cons_zero, List.getElem?_cons_succ, List.set_cons_zero, List.set_cons_succ, Option.some.injEq, V.int.injEq, V.bl.injEq, V.str.injEq, V.ref.injEq, exists_eq_left', exists_eq_left, exists_and_left, List.cons.injEq, and_true, true_and, eq_self_iff_true, Nat.reduceAdd, Nat.reduceSub, Nat.zero_add, rEqI, rNeI, tAndV, tOrV, tNotV, natI, tDGet, tDIn, tDNotIn, sDPut, tDGet2, tDNewT, tDNewK]
  refine ⟨a, d, fr, k, F, m, key, s1, rfl, hA, ok, hk, inr, hl, hs, fun H1 e1 => ?_⟩
  have hsl := fpM_len hs
  have e : decide (63 ∈ (knS s1 (F.tw key.2.1 * F.th key.2.1 - s1.length)).cps.toList) = decide (s1.length < F.tw key.2.1 * F.th key.2.1) := by
    generalize hn : F.tw key.2.1 * F.th key.2.1 = n at hsl
    have e1 : (knS s1 (n - s1.length)).cps.toList = (s1.map fun b => if b = true then 49 else 48) ++ List.replicate (n - s1.length) 63 := by
      show ((bs s1).cps ++ (List.replicate (n - s1.length) 63).toArray).toList = _
      simp [bs]
    rw [e1]
    congr 1
    apply propext
    rw [List.mem_append, List.mem_replicate, List.mem_map]
    constructor
    · rintro (⟨b, _, hb⟩ | ⟨h, _⟩)
      · cases b <;> simp at hb
      · omega
    · intro h
      exact .inr ⟨by omega, rfl⟩
  refine ⟨63, by decide +kernel, _, rfl, ?_⟩
  rw [e]
  exact q H1 e1
end
end PK


set_option maxHeartbeats 4000000
namespace PK
open PySem PySem.Spec PyProof.Rows L2 Evl
local macro_rules | `(tactic| walk_at "rd") => `(tactic| simp only [tSeq, tAsg, tRet, tIfS, tTest, tOp, tUn, tVar, tC, tCons, tNil, tCB, tHas, gName, rI0, rI, rU, tNext, tNot, tAnd, tOr, tChain, tIf, tB, tNever, tRetN, tDrop, tTup, tLst, tMeth, tMake, tM0, tM1, tBits, tTruI, tBM, gSub, tSl, tNoPart, tPart, gcE, gnE, bs_length, tListRevR, tRg1, tFldE, sFldE, tPar3, cxK, nxK, List.append_nil,
  L2.start, List.map_cons, List.map_nil, List.length_cons, List.length_nil, List.replicate, List.cons_append, List.nil_append, List.getElem?_cons_zero, List.getElem?_cons_succ, List.set_cons_zero, List.set_cons_succ,
  Option.some.injEq, V.int.injEq, V.bl.injEq, V.str.injEq, V.ref.injEq, exists_eq_left', exists_eq_left, exists_and_left, List.cons.injEq, and_true, true_and, eq_self_iff_true, Nat.reduceAdd, Nat.reduceSub, Nat.zero_add])
/-! ### numbering -/
/-- what is asked of what has arrived: every packet has pictures -/
def DOk (F : Fr) (m : Dig) : Prop := ∀ k, InR F k → (digs m k).length ≤ 16 ∧ (fpM (F.tw k.2.1) (F.tw k.2.1 * F.th k.2.1) (digs m k)).isSome = true
def chM (F : Fr) (m : Dig) (k : Key) : Nat := cntM (F.tw k.2.1) (F.tw k.2.1 * F.th k.2.1) (digs m k)
def cpM (F : Fr) (m : Dig) : Nat := F.keys.foldl (fun n k => n * chM F m k) 1
section
variable {P : Program} {w : World} {K : PySem.W.Frag} {mg : Str → Option Value} {base : Heap} {CF CP CA : Addr}
def spChoices (CF CA : Addr) : Sp := fun vs H Q _ => ∃ (a d fr k : Addr) (F : Fr) (m : Dig) (key : Key), vs = [.ref a, .ref k] ∧ ArrAt CF CA H a d fr F m ∧ F.ok ∧ H k = some (keyT key) ∧ InR F key ∧ DOk F m ∧ ∀ H', Ex H H' → Q (.int (chM F m key : Nat)) H'
theorem has_choices (T : Top K mg CF CP CA) : Has P w K mg base CX0 9 "_choices" ["arrived", "key"] (spChoices CF CA) := by
  have G_tile_size := has_tile_size (P := P) (w := w) (base := base) T
  have G_count_possible := has_count_possible (P := P) (w := w) (base := base) T
  obtain ⟨f_Arrived_digits, fd_Arrived_digits, mm_Arrived_digits, b_Arrived_digits, F_Arrived_digits⟩ := (has_Arrived_digits (P := P) (w := w) (base := base) T).ex
  refine has0 T.d_choices sc_choices (fun vs H Q E h => by
    repeat (obtain ⟨_, h⟩ := h)
    subst_vars
    rfl) fun f cdv A outer s H vs Q E hr h => ?_
  obtain ⟨a, d, fr, k, F, m, key, rfl, hA, ok, hk, inr, dok, q⟩ := h
  refine ⟨_, (pss_cons (ps_asg (pe_has G_tile_size (hr.mono (by decide)) (pa_cons (pe_fld (pv 0) rfl) (pa_cons (pe_ix ix_tup (pv 1) pe_int (fun _ _ => rfl)) pa_nil))) (pg_tup rfl (pgs_cons (pg_name (i := 2) sc_choices.nd rfl (by first | exact .inl rfl | exact .inr rfl)) (pgs_cons (pg_name (i := 3) sc_choices.nd rfl (by first | exact .inl rfl | exact .inr rfl)) pgs_nil))))
      (pss_one (ps_ret (pe_has G_count_possible (hr.mono (by decide)) (pa_cons (pv 2) (pa_cons (pe_op op_mul (pv 2) (pv 3)) (pa_cons (pe_meth (pv 0) T.clA mm_Arrived_digits F_Arrived_digits (hr.mono (by decide)) b_Arrived_digits .nil pass0 (pa_cons (pv 1) pa_nil)) pa_nil))))))), ?_⟩
  obtain ⟨⟨dx, h1⟩, h2, h3⟩ := id hA
  obtain ⟨hl, hs⟩ := dok key inr
  simp only [tSeq, tAsg, tRet, tIfS, tTest, tOp, tUn, tVar, tC, tCons, tNil, tCB, tHas, gName, rI0, rI, rU, tNext, tNot, tAnd, tOr, tChain, tIf, tB, tNever, tRetN, tDrop, tTup, tLst, tMeth, tMake, tM0, tM1, tBits, tTruI, tBM, gSub, tSl, tNoPart, tPart, gcE, gnE, bs_length, tListRevR, tRg1, tFldE, sFldE, tPar3, cxK, nxK, List.append_nil, L2.start, List.map_cons, List.map_nil, List.length_cons, List.length_nil, List.replicate, List.cons_append, List.nil_append, List.getElem?_cons_zero, List.getElem?_cons_succ, List.set_cons_zero, List.set_cons_succ, Option.some.injEq, V.int.injEq, V.bl.injEq, V.str.injEq, V.ref.injEq, exists_eq_left', exists_eq_left, exists_and_left, List.cons.injEq, and_true, true_and, eq_self_iff_true, Nat.reduceAdd, Nat.reduceSub, Nat.zero_add, rEqI, rNeI, tAndV, tOrV, tNotV, natI, tDGet, tDIn, tDNotIn, sDPut, tDGet2, tDNewT, tDNewK, arE T h1]
  have wm := Fr.wm ok inr.2.1
  refine ixT (j := 1) rfl (st_of hk) rfl ⟨fr, F, key.2.1, rfl, h2, ok, inr.2.1, fun r H2 hr2 e2 h2' => gtup (st_of h2') rfl ?_⟩
  have hA2 := hA.mono e2
  obtain ⟨⟨dx2, h12⟩, h22, h32⟩ := id hA2
  simp only [tSeq, tAsg, tRet, tIfS, tTest, tOp, tUn, tVar, tC, tCons, tNil, tCB, tHas, gName, rI0, rI, rU, tNext, tNot, tAnd, tOr, tChain, tIf, tB, tNever, tRetN, tDrop, tTup, tLst, tMeth, tMake, tM0, tM1, tBits, tTruI, tBM, gSub, tSl, tNoPart, tPart, gcE, gnE, bs_length, tListRevR, tRg1, tFldE, sFldE, tPar3, cxK, nxK, List.append_nil, L2.start, List.map_cons, List.map_nil, List.length_cons, List.length_nil, List.replicate, List.cons_append, List.nil_append, List.getElem?_cons_zero, List.getElem?_cons_succ, List.set_cons_zero, List.set_cons_succ, Option.some.injEq, V.int.injEq, V.bl.injEq, V.str.injEq, V.ref.injEq, exists_eq_left', exists_eq_left, exists_and_left, List.cons.injEq, and_true, true_and, eq_self_iff_true, Nat.reduceAdd, Nat.reduceSub, Nat.zero_add, rEqI, rNeI, tAndV, tOrV, tNotV, natI, tDGet, tDIn, tDNotIn, sDPut, tDGet2, tDNewT, tDNewK]
  refine ⟨.inl ⟨by have := wm.1; unfold OkW at this; omega, by have := wm.1; unfold OkW at this; omega⟩, dx2, fsA fr d, h12, rfl, a, d, fr, k, F, m, key, rfl, hA2, ok, e2 _ _ hk, inr, ?_⟩
  exact ⟨F.tw key.2.1, F.tw key.2.1 * F.th key.2.1, digs m key, by rw [Int.natCast_mul], wm.1, wm.2.2.1, hl, hs, fun H3 e3 => q H3 (e2.trans e3)⟩
def spCountP (CF CA : Addr) : Sp := fun vs H Q _ => ∃ (a d fr : Addr) (F : Fr) (m : Dig), vs = [.ref a] ∧ ArrAt CF CA H a d fr F m ∧ F.ok ∧ DOk F m ∧ (∀ k, InR F k → chM F m k ≤ 16) ∧ ∀ H', Ex H H' → Q (.int (cpM F m : Nat)) H'
theorem has_count_pictures (T : Top K mg CF CP CA) : Has P w K mg base CX0 10 "count_pictures" ["arrived"] (spCountP CF CA) := by
  have G_all_keys := has_all_keys (P := P) (w := w) (base := base) T
  have G_choices := has_choices (P := P) (w := w) (base := base) T
  refine has0 T.d_count_pictures sc_count_pictures (fun vs H Q E h => by
    repeat (obtain ⟨_, h⟩ := h)
    subst_vars
    rfl) fun f cdv A outer s H vs Q E hr h => ?_
  obtain ⟨a, d, fr, F, m, rfl, hA, ok, dok, hch, q⟩ := h
  refine ⟨_, (pss_cons (ps_set (i := 1) sc_count_pictures.nd rfl (by first | exact .inl rfl | exact .inr rfl) pe_int)
      (pss_cons (ps_for PassesOwn.never rfl (pi_list (pe_has G_all_keys (hr.mono (by decide)) (pa_cons (pe_fld (pv 0) rfl) pa_nil))) (pg_name (i := 2) sc_count_pictures.nd rfl (by first | exact .inl rfl | exact .inr rfl)) (pss_one (ps_set (i := 1) sc_count_pictures.nd rfl (by first | exact .inl rfl | exact .inr rfl) (pe_op op_mul (pv 1) (pe_has G_choices (hr.mono (by decide)) (pa_cons (pv 0) (pa_cons (pv 2) pa_nil)))))))
      (pss_one (ps_ret (pv 1))))), ?_⟩
  obtain ⟨⟨dx, h1⟩, h2, h3⟩ := id hA
  simp only [tSeq, tAsg, tRet, tIfS, tTest, tOp, tUn, tVar, tC, tCons, tNil, tCB, tHas, gName, rI0, rI, rU, tNext, tNot, tAnd, tOr, tChain, tIf, tB, tNever, tRetN, tDrop, tTup, tLst, tMeth, tMake, tM0, tM1, tBits, tTruI, tBM, gSub, tSl, tNoPart, tPart, gcE, gnE, bs_length, tListRevR, tRg1, tFldE, sFldE, tPar3, cxK, nxK, List.append_nil, L2.start, List.map_cons, List.map_nil, List.length_cons, List.length_nil, List.replicate, List.cons_append, List.nil_append, List.getElem?_cons_zero, List.getElem?_cons_succ, List.set_cons_zero, List.set_cons_succ, Option.some.injEq, V.int.injEq, V.bl.injEq, V.str.injEq, V.ref.injEq, exists_eq_left', exists_eq_left, exists_and_left, List.cons.injEq, and_true, true_and, eq_self_iff_true, Nat.reduceAdd, Nat.reduceSub, Nat.zero_add, rEqI, rNeI, tAndV, tOrV, tNotV, natI, tDGet, tDIn, tDNotIn, sDPut, tDGet2, tDNewT, tDNewK, arE T h1]
  rw [forE]
  simp only [tSeq, tAsg, tRet, tIfS, tTest, tOp, tUn, tVar, tC, tCons, tNil, tCB, tHas, gName, rI0, rI, rU, tNext, tNot, tAnd, tOr, tChain, tIf, tB, tNever, tRetN, tDrop, tTup, tLst, tMeth, tMake, tM0, tM1, tBits, tTruI, tBM, gSub, tSl, tNoPart, tPart, gcE, gnE, bs_length, tListRevR, tRg1, tFldE, sFldE, tPar3, cxK, nxK, List.append_nil, L2.start, List.map_cons, List.map_nil, List.length_cons, List.length_nil, List.replicate, List.cons_append, List.nil_append, List.getElem?_cons_zero, List.getElem?_cons_succ, List.set_cons_zero, List.set_cons_succ, Option.some.injEq, V.int.injEq, V.bl.injEq, V.str.injEq, V.ref.injEq, exists_eq_left', exists_eq_left, exists_and_left, List.cons.injEq, and_true, true_and, eq_self_iff_true, Nat.reduceAdd, Nat.reduceSub, Nat.zero_add, rEqI, rNeI, tAndV, tOrV, tNotV, natI, tDGet, tDIn, tDNotIn, sDPut, tDGet2, tDNewT, tDNewK, arE T h1]
  refine ⟨fr, F, rfl, h2, ok, fun p H1 xs hp e1 hpx hks => ?_⟩
  have hxl := hks.length
  refine s_list (a := p) (xs := xs) (fun Q q => q) (sq_of hpx) (fun i σ' H' => Ex H1 H' ∧ ∃ v2, σ' = [some (.ref a), some (.int ((F.keys.take i).foldl (fun n k => n * chM F m k) 1 : Nat)), v2]) ⟨Ex.refl _, none, rfl⟩ (fun i σ' H' p => sq_of (p.1 _ _ hpx)) ?_ ?_
  · rintro i x σ' H' hx ⟨e2, v2, rfl⟩
    obtain ⟨k, hk, ka, rfl, hka⟩ := All2.get hks hx
    have inr := Fr.mem_keys.mp (List.mem_of_getElem? hk)
    simp only [tSeq, tAsg, tRet, tIfS, tTest, tOp, tUn, tVar, tC, tCons, tNil, tCB, tHas, gName, rI0, rI, rU, tNext, tNot, tAnd, tOr, tChain, tIf, tB, tNever, tRetN, tDrop, tTup, tLst, tMeth, tMake, tM0, tM1, tBits, tTruI, tBM, gSub, tSl, tNoPart, tPart, gcE, gnE, bs_length, tListRevR, tRg1, tFldE, sFldE, tPar3, cxK, nxK, List.append_nil, L2.start, List.map_cons, List.map_nil, List.length_cons, List.length_nil, List.replicate, List.cons_append, List.nil_append, List.getElem?_cons_zero, List.getElem?_cons_succ, List.set_cons_zero, List.set_cons_succ, Option.some.injEq, V.int.injEq, V.bl.injEq, V.str.injEq, V.ref.injEq, exists_eq_left', exists_eq_left, exists_and_left, List.cons.injEq, and_true, true_and, eq_self_iff_true, Nat.reduceAdd, Nat.reduceSub, Nat.zero_add, rEqI, rNeI, tAndV, tOrV, tNotV, natI, tDGet, tDIn, tDNotIn, sDPut, tDGet2, tDNewT, tDNewK]
    refine ⟨a, d, fr, ka, F, m, k, rfl, hA.mono (e1.trans e2), ok, e2 _ _ hka, inr, dok, fun H3 e3 => ⟨_, rfl, ?_, e2.trans e3, ?_⟩⟩
    · have := hch k inr
      exact .inr ⟨by omega, by omega⟩
    · rw [take_snoc hk, List.foldl_append]
      simp
  · rintro σ' H' ⟨e2, v2, rfl⟩
    simp only [tSeq, tAsg, tRet, tIfS, tTest, tOp, tUn, tVar, tC, tCons, tNil, tCB, tHas, gName, rI0, rI, rU, tNext, tNot, tAnd, tOr, tChain, tIf, tB, tNever, tRetN, tDrop, tTup, tLst, tMeth, tMake, tM0, tM1, tBits, tTruI, tBM, gSub, tSl, tNoPart, tPart, gcE, gnE, bs_length, tListRevR, tRg1, tFldE, sFldE, tPar3, cxK, nxK, List.append_nil, L2.start, List.map_cons, List.map_nil, List.length_cons, List.length_nil, List.replicate, List.cons_append, List.nil_append, List.getElem?_cons_zero, List.getElem?_cons_succ, List.set_cons_zero, List.set_cons_succ, Option.some.injEq, V.int.injEq, V.bl.injEq, V.str.injEq, V.ref.injEq, exists_eq_left', exists_eq_left, exists_and_left, List.cons.injEq, and_true, true_and, eq_self_iff_true, Nat.reduceAdd, Nat.reduceSub, Nat.zero_add, rEqI, rNeI, tAndV, tOrV, tNotV, natI, tDGet, tDIn, tDNotIn, sDPut, tDGet2, tDNewT, tDNewK]
    rw [hxl, List.take_length]
    exact q H' (e1.trans e2)
def spAgrees (CF CP CA : Addr) : Sp := fun vs H Q _ => ∃ (a b d fr : Addr) (F : Fr) (m : Dig) (p : Pic), vs = [.ref a, .ref b] ∧ ArrAt CF CA H a d fr F m ∧ PicAt CP H b p ∧ F.ok ∧ p.ok ∧ Fits F p ∧ (∀ k, InR F k → (digs m k).isPrefixOf (pcM F p k) = true) ∧ ∀ H', Ex H H' → Q (.bl true) H'
theorem has_agrees (T : Top K mg CF CP CA) : Has P w K mg base CX0 7 "agrees" ["arrived", "picture"] (spAgrees CF CP CA) := by
  obtain ⟨f_Arrived_packets, fd_Arrived_packets, mm_Arrived_packets, b_Arrived_packets, F_Arrived_packets⟩ := (has_Arrived_packets (P := P) (w := w) (base := base) T).ex
  have G_fits_frame := has_fits_frame (P := P) (w := w) (base := base) T
  have G_packet_code := has_packet_code (P := P) (w := w) (base := base) T
  refine has0 T.d_agrees sc_agrees (fun vs H Q E h => by
    repeat (obtain ⟨_, h⟩ := h)
    subst_vars
    rfl) fun f cdv A outer s H vs Q E hr h => ?_
  obtain ⟨a, b, d, fr, F, m, p, rfl, hA, hP, ok, okp, fits, hag, q⟩ := h
  refine ⟨_, (pss_cons (ps_if (pt_not (pt_val (pe_has G_fits_frame (hr.mono (by decide)) (pa_cons (pe_fld (pv 0) rfl) (pa_cons (pv 1) pa_nil))))) (pss_one (ps_ret pe_bl)) pss_nil)
      (pss_cons (ps_for PassesOwn.never rfl (pi_list (pe_meth0 (pv 0) T.clA mm_Arrived_packets F_Arrived_packets (hr.mono (by decide)) b_Arrived_packets .nil pass0)) (pg_tup rfl (pgs_cons (pg_name (i := 2) sc_agrees.nd rfl (by first | exact .inl rfl | exact .inr rfl)) (pgs_cons (pg_name (i := 3) sc_agrees.nd rfl (by first | exact .inl rfl | exact .inr rfl)) pgs_nil))) (pss_one (ps_if (pt_not (pt_val (pe_m1 PySem.F.slot_str_startswith PySem.F.type_str_startswith mt_startswith (pe_has G_packet_code (hr.mono (by decide)) (pa_cons (pe_fld (pv 0) rfl) (pa_cons (pv 1) (pa_cons (pv 2) pa_nil)))) (pv 3)))) (pss_one (ps_ret pe_bl)) pss_nil)))
      (pss_one (ps_ret pe_bl)))), ?_⟩
  obtain ⟨⟨dx, h1⟩, h2, h3⟩ := id hA
  simp only [tSeq, tAsg, tRet, tIfS, tTest, tOp, tUn, tVar, tC, tCons, tNil, tCB, tHas, gName, rI0, rI, rU, tNext, tNot, tAnd, tOr, tChain, tIf, tB, tNever, tRetN, tDrop, tTup, tLst, tMeth, tMake, tM0, tM1, tBits, tTruI, tBM, gSub, tSl, tNoPart, tPart, gcE, gnE, bs_length, tListRevR, tRg1, tFldE, sFldE, tPar3, cxK, nxK, List.append_nil, L2.start, List.map_cons, List.map_nil, List.length_cons, List.length_nil, List.replicate, List.cons_append, List.nil_append, List.getElem?_cons_zero, List.getElem?_cons_succ, List.set_cons_zero, List.set_cons_succ, Option.some.injEq, V.int.injEq, V.bl.injEq, V.str.injEq, V.ref.injEq, exists_eq_left', exists_eq_left, exists_and_left, List.cons.injEq, and_true, true_and, eq_self_iff_true, Nat.reduceAdd, Nat.reduceSub, Nat.zero_add, rEqI, rNeI, tAndV, tOrV, tNotV, natI, tDGet, tDIn, tDNotIn, sDPut, tDGet2, tDNewT, tDNewK, arE T h1]
  refine ⟨fr, b, F, p, rfl, h2, hP, _, rfl, ?_⟩
  rw [decide_eq_true (show F.W = p.W ∧ F.Hh = p.Hh ∧ F.D = p.D ∧ F.C = p.C from fits), if_neg (by decide)]
  rw [forE]
  simp only [tSeq, tAsg, tRet, tIfS, tTest, tOp, tUn, tVar, tC, tCons, tNil, tCB, tHas, gName, rI0, rI, rU, tNext, tNot, tAnd, tOr, tChain, tIf, tB, tNever, tRetN, tDrop, tTup, tLst, tMeth, tMake, tM0, tM1, tBits, tTruI, tBM, gSub, tSl, tNoPart, tPart, gcE, gnE, bs_length, tListRevR, tRg1, tFldE, sFldE, tPar3, cxK, nxK, List.append_nil, L2.start, List.map_cons, List.map_nil, List.length_cons, List.length_nil, List.replicate, List.cons_append, List.nil_append, List.getElem?_cons_zero, List.getElem?_cons_succ, List.set_cons_zero, List.set_cons_succ, Option.some.injEq, V.int.injEq, V.bl.injEq, V.str.injEq, V.ref.injEq, exists_eq_left', exists_eq_left, exists_and_left, List.cons.injEq, and_true, true_and, eq_self_iff_true, Nat.reduceAdd, Nat.reduceSub, Nat.zero_add, rEqI, rNeI, tAndV, tOrV, tNotV, natI, tDGet, tDIn, tDNotIn, sDPut, tDGet2, tDNewT, tDNewK]
  refine ⟨dx, fsA fr d, h1, rfl, a, d, fr, F, m, rfl, hA, ok, fun l H1 xs hl e1 hlx hes => ?_⟩
  refine s_listT (a := l) (xs := xs) (fun Q q => q) (sq_of hlx) (fun i σ' H' => Ex H1 H' ∧ ∃ v2 v3, σ' = [some (.ref a), some (.ref b), v2, v3]) ⟨Ex.refl _, none, none, rfl⟩ (fun i σ' H' p => sq_of (p.1 _ _ hlx)) ?_ ?_
  · rintro i x σ' H' hx ⟨e2, v2, v3, rfl⟩
    obtain ⟨k, hk, ea, kb, rfl, hea, hkb⟩ := All2.get hes hx
    have inr := Fr.mem_keys.mp (List.mem_filter.mp (List.mem_of_getElem? hk)).1
    refine gtup (st_of (e2 _ _ hea)) rfl ?_
    have hA2 := hA.mono (e1.trans e2)
    obtain ⟨⟨dx2, h12⟩, h22, h32⟩ := id hA2
    simp only [tSeq, tAsg, tRet, tIfS, tTest, tOp, tUn, tVar, tC, tCons, tNil, tCB, tHas, gName, rI0, rI, rU, tNext, tNot, tAnd, tOr, tChain, tIf, tB, tNever, tRetN, tDrop, tTup, tLst, tMeth, tMake, tM0, tM1, tBits, tTruI, tBM, gSub, tSl, tNoPart, tPart, gcE, gnE, bs_length, tListRevR, tRg1, tFldE, sFldE, tPar3, cxK, nxK, List.append_nil, L2.start, List.map_cons, List.map_nil, List.length_cons, List.length_nil, List.replicate, List.cons_append, List.nil_append, List.getElem?_cons_zero, List.getElem?_cons_succ, List.set_cons_zero, List.set_cons_succ, Option.some.injEq, V.int.injEq, V.bl.injEq, V.str.injEq, V.ref.injEq, exists_eq_left', exists_eq_left, exists_and_left, List.cons.injEq, and_true, true_and, eq_self_iff_true, Nat.reduceAdd, Nat.reduceSub, Nat.zero_add, rEqI, rNeI, tAndV, tOrV, tNotV, natI, tDGet, tDIn, tDNotIn, sDPut, tDGet2, tDNewT, tDNewK, arE T h12]
    refine ⟨fr, b, kb, F, p, k, rfl, h22, hP.mono (e1.trans e2), ok, okp, fits, e2 _ _ hkb, inr, fun H3 e3 => ?_⟩
    refine ⟨⟨_, rfl⟩, _, rfl, ?_⟩
    rw [starts_bs, hag k inr, if_neg (by decide)]
    exact ⟨e2.trans e3, _, rfl⟩
  · rintro σ' H' ⟨e2, v2, v3, rfl⟩
    simp only [tSeq, tAsg, tRet, tIfS, tTest, tOp, tUn, tVar, tC, tCons, tNil, tCB, tHas, gName, rI0, rI, rU, tNext, tNot, tAnd, tOr, tChain, tIf, tB, tNever, tRetN, tDrop, tTup, tLst, tMeth, tMake, tM0, tM1, tBits, tTruI, tBM, gSub, tSl, tNoPart, tPart, gcE, gnE, bs_length, tListRevR, tRg1, tFldE, sFldE, tPar3, cxK, nxK, List.append_nil, L2.start, List.map_cons, List.map_nil, List.length_cons, List.length_nil, List.replicate, List.cons_append, List.nil_append, List.getElem?_cons_zero, List.getElem?_cons_succ, List.set_cons_zero, List.set_cons_succ, Option.some.injEq, V.int.injEq, V.bl.injEq, V.str.injEq, V.ref.injEq, exists_eq_left', exists_eq_left, exists_and_left, List.cons.injEq, and_true, true_and, eq_self_iff_true, Nat.reduceAdd, Nat.reduceSub, Nat.zero_add, rEqI, rNeI, tAndV, tOrV, tNotV, natI, tDGet, tDIn, tDNotIn, sDPut, tDGet2, tDNewT, tDNewK]
    exact q H' (e1.trans e2)
def rkN (F : Fr) (m : Dig) (p : Pic) (k : Key) : Nat := (rkM (F.tw k.2.1) (F.tw k.2.1 * F.th k.2.1) (digs m k) (pbM F p k)).toNat
def numN (F : Fr) (m : Dig) (p : Pic) (ks : List Key) : Nat := ks.foldl (fun n k => n * chM F m k + rkN F m p k) 0
/-- what has arrived agrees with the picture, and every packet's bits are found by their rank -/
structure MOk (F : Fr) (m : Dig) (p : Pic) : Prop where
  d : DOk F m
  ch : ∀ k, InR F k → 1 ≤ chM F m k ∧ chM F m k ≤ 16
  rk : ∀ k, InR F k → 0 ≤ rkM (F.tw k.2.1) (F.tw k.2.1 * F.th k.2.1) (digs m k) (pbM F p k) ∧ rkM (F.tw k.2.1) (F.tw k.2.1 * F.th k.2.1) (digs m k) (pbM F p k) < (chM F m k : Int)
  pa : ∀ k, InR F k → paM (F.tw k.2.1) (F.tw k.2.1 * F.th k.2.1) (digs m k) (rkN F m p k) = pbM F p k
  ag : ∀ k, InR F k → (digs m k).isPrefixOf (pcM F p k) = true
theorem MOk.lt {F : Fr} {m : Dig} {p : Pic} (h : MOk F m p) {k : Key} (hk : InR F k) : rkN F m p k < chM F m k := by
  have := h.rk k hk
  unfold rkN
  omega
def spNumber (CF CP CA : Addr) : Sp := fun vs H Q _ => ∃ (a b d fr : Addr) (F : Fr) (m : Dig) (p : Pic), vs = [.ref a, .ref b] ∧ ArrAt CF CA H a d fr F m ∧ PicAt CP H b p ∧ F.ok ∧ p.ok ∧ Fits F p ∧ MOk F m p ∧ ∀ H', Ex H H' → Q (.int (numN F m p F.keys : Nat)) H'
theorem has_number_of (T : Top K mg CF CP CA) : Has P w K mg base CX0 10 "number_of" ["arrived", "picture"] (spNumber CF CP CA) := by
  have G_all_keys := has_all_keys (P := P) (w := w) (base := base) T
  have G_agrees := has_agrees (P := P) (w := w) (base := base) T
  have G_packet_bits := has_packet_bits (P := P) (w := w) (base := base) T
  have G_tile_size := has_tile_size (P := P) (w := w) (base := base) T
  have G_rank_among := has_rank_among (P := P) (w := w) (base := base) T
  have G_choices := has_choices (P := P) (w := w) (base := base) T
  obtain ⟨f_Arrived_digits, fd_Arrived_digits, mm_Arrived_digits, b_Arrived_digits, F_Arrived_digits⟩ := (has_Arrived_digits (P := P) (w := w) (base := base) T).ex
  refine has0 T.d_number_of sc_number_of (fun vs H Q E h => by
    repeat (obtain ⟨_, h⟩ := h)
    subst_vars
    rfl) fun f cdv A outer s H vs Q E hr h => ?_
  obtain ⟨a, b, d, fr, F, m, p, rfl, hA, hP, ok, okp, fits, mok, q⟩ := h
  refine ⟨_, (pss_cons (ps_if (pt_not (pt_val (pe_has G_agrees (hr.mono (by decide)) (pa_cons (pv 0) (pa_cons (pv 1) pa_nil))))) (pss_one (ps_ret pe_non)) pss_nil)
      (pss_cons (ps_set (i := 2) sc_number_of.nd rfl (by first | exact .inl rfl | exact .inr rfl) pe_int)
      (pss_cons (ps_for PassesOwn.never rfl (pi_list (pe_has G_all_keys (hr.mono (by decide)) (pa_cons (pe_fld (pv 0) rfl) pa_nil))) (pg_name (i := 3) sc_number_of.nd rfl (by first | exact .inl rfl | exact .inr rfl)) (pss_cons (ps_set (i := 4) sc_number_of.nd rfl (by first | exact .inl rfl | exact .inr rfl) (pe_ix ix_tup (pe_has G_tile_size (hr.mono (by decide)) (pa_cons (pe_fld (pv 0) rfl) (pa_cons (pe_ix ix_tup (pv 3) pe_int (fun _ _ => rfl)) pa_nil))) pe_int (fun _ _ => rfl)))
      (pss_cons (ps_set (i := 5) sc_number_of.nd rfl (by first | exact .inl rfl | exact .inr rfl) (pe_has G_packet_bits (hr.mono (by decide)) (pa_cons (pe_fld (pv 0) rfl) (pa_cons (pv 1) (pa_cons (pv 3) pa_nil)))))
      (pss_one (ps_set (i := 2) sc_number_of.nd rfl (by first | exact .inl rfl | exact .inr rfl) (pe_op op_add (pe_op op_mul (pv 2) (pe_has G_choices (hr.mono (by decide)) (pa_cons (pv 0) (pa_cons (pv 3) pa_nil)))) (pe_has G_rank_among (hr.mono (by decide)) (pa_cons (pv 4) (pa_cons (pe_meth (pv 0) T.clA mm_Arrived_digits F_Arrived_digits (hr.mono (by decide)) b_Arrived_digits .nil pass0 (pa_cons (pv 3) pa_nil)) (pa_cons (pv 5) pa_nil))))))))))
      (pss_one (ps_ret (pv 2)))))), ?_⟩
  obtain ⟨⟨dx, h1⟩, h2, h3⟩ := id hA
  simp only [tSeq, tAsg, tRet, tIfS, tTest, tOp, tUn, tVar, tC, tCons, tNil, tCB, tHas, gName, rI0, rI, rU, tNext, tNot, tAnd, tOr, tChain, tIf, tB, tNever, tRetN, tDrop, tTup, tLst, tMeth, tMake, tM0, tM1, tBits, tTruI, tBM, gSub, tSl, tNoPart, tPart, gcE, gnE, bs_length, tListRevR, tRg1, tFldE, sFldE, tPar3, cxK, nxK, List.append_nil, L2.start, List.map_cons, List.map_nil, List.length_cons, List.length_nil, List.replicate, List.cons_append, List.nil_append, List.getElem?_cons_zero, List.getElem?_cons_succ, List.set_cons_zero, List.set_cons_succ, Option.some.injEq, V.int.injEq, V.bl.injEq, V.str.injEq, V.ref.injEq, exists_eq_left', exists_eq_left, exists_and_left, List.cons.injEq, and_true, true_and, eq_self_iff_true, Nat.reduceAdd, Nat.reduceSub, Nat.zero_add, rEqI, rNeI, tAndV, tOrV, tNotV, natI, tDGet, tDIn, tDNotIn, sDPut, tDGet2, tDNewT, tDNewK, arE T h1]
  refine ⟨a, b, d, fr, F, m, p, rfl, hA, hP, ok, okp, fits, mok.ag, fun H0 e0 => ⟨_, rfl, ?_⟩⟩
  rw [if_neg (by decide)]
  have hA0 := hA.mono e0
  obtain ⟨⟨dx0, h10⟩, h20, h30⟩ := id hA0
  rw [forE]
  simp only [tSeq, tAsg, tRet, tIfS, tTest, tOp, tUn, tVar, tC, tCons, tNil, tCB, tHas, gName, rI0, rI, rU, tNext, tNot, tAnd, tOr, tChain, tIf, tB, tNever, tRetN, tDrop, tTup, tLst, tMeth, tMake, tM0, tM1, tBits, tTruI, tBM, gSub, tSl, tNoPart, tPart, gcE, gnE, bs_length, tListRevR, tRg1, tFldE, sFldE, tPar3, cxK, nxK, List.append_nil, L2.start, List.map_cons, List.map_nil, List.length_cons, List.length_nil, List.replicate, List.cons_append, List.nil_append, List.getElem?_cons_zero, List.getElem?_cons_succ, List.set_cons_zero, List.set_cons_succ, Option.some.injEq, V.int.injEq, V.bl.injEq, V.str.injEq, V.ref.injEq, exists_eq_left', exists_eq_left, exists_and_left, List.cons.injEq, and_true, true_and, eq_self_iff_true, Nat.reduceAdd, Nat.reduceSub, Nat.zero_add, rEqI, rNeI, tAndV, tOrV, tNotV, natI, tDGet, tDIn, tDNotIn, sDPut, tDGet2, tDNewT, tDNewK, arE T h10]
  refine ⟨fr, F, rfl, h20, ok, fun l H1 xs hl e1 hlx hks => ?_⟩
  have hxl := hks.length
  refine s_list (a := l) (xs := xs) (fun Q q => q) (sq_of hlx) (fun i σ' H' => Ex H1 H' ∧ ∃ v3 v4 v5, σ' = [some (.ref a), some (.ref b), some (.int (numN F m p (F.keys.take i) : Nat)), v3, v4, v5]) ⟨Ex.refl _, none, none, none, rfl⟩ (fun i σ' H' p => sq_of (p.1 _ _ hlx)) ?_ ?_
  · rintro i x σ' H' hx ⟨e2, v3, v4, v5, rfl⟩
    obtain ⟨k, hk, ka, rfl, hka⟩ := All2.get hks hx
    have inr := Fr.mem_keys.mp (List.mem_of_getElem? hk)
    have wm := Fr.wm ok inr.2.1
    have hA2 := hA0.mono (e1.trans e2)
    obtain ⟨⟨dx2, h12⟩, h22, h32⟩ := id hA2
    obtain ⟨hl16, hsome⟩ := mok.d k inr
    simp only [tSeq, tAsg, tRet, tIfS, tTest, tOp, tUn, tVar, tC, tCons, tNil, tCB, tHas, gName, rI0, rI, rU, tNext, tNot, tAnd, tOr, tChain, tIf, tB, tNever, tRetN, tDrop, tTup, tLst, tMeth, tMake, tM0, tM1, tBits, tTruI, tBM, gSub, tSl, tNoPart, tPart, gcE, gnE, bs_length, tListRevR, tRg1, tFldE, sFldE, tPar3, cxK, nxK, List.append_nil, L2.start, List.map_cons, List.map_nil, List.length_cons, List.length_nil, List.replicate, List.cons_append, List.nil_append, List.getElem?_cons_zero, List.getElem?_cons_succ, List.set_cons_zero, List.set_cons_succ, Option.some.injEq, V.int.injEq, V.bl.injEq, V.str.injEq, V.ref.injEq, exists_eq_left', exists_eq_left, exists_and_left, List.cons.injEq, and_true, true_and, eq_self_iff_true, Nat.reduceAdd, Nat.reduceSub, Nat.zero_add, rEqI, rNeI, tAndV, tOrV, tNotV, natI, tDGet, tDIn, tDNotIn, sDPut, tDGet2, tDNewT, tDNewK, arE T h12]
    refine ixT (j := 1) rfl (st_of (e2 _ _ hka)) rfl ⟨fr, F, k.2.1, rfl, h22, ok, inr.2.1, fun r H3 hr3 e3 h3' => ?_⟩
    refine ixT (j := 0) rfl (st_of h3') rfl ?_
    have hA3 := hA2.mono e3
    obtain ⟨⟨dx3, h13⟩, h23, h33⟩ := id hA3
    simp only [tSeq, tAsg, tRet, tIfS, tTest, tOp, tUn, tVar, tC, tCons, tNil, tCB, tHas, gName, rI0, rI, rU, tNext, tNot, tAnd, tOr, tChain, tIf, tB, tNever, tRetN, tDrop, tTup, tLst, tMeth, tMake, tM0, tM1, tBits, tTruI, tBM, gSub, tSl, tNoPart, tPart, gcE, gnE, bs_length, tListRevR, tRg1, tFldE, sFldE, tPar3, cxK, nxK, List.append_nil, L2.start, List.map_cons, List.map_nil, List.length_cons, List.length_nil, List.replicate, List.cons_append, List.nil_append, List.getElem?_cons_zero, List.getElem?_cons_succ, List.set_cons_zero, List.set_cons_succ, Option.some.injEq, V.int.injEq, V.bl.injEq, V.str.injEq, V.ref.injEq, exists_eq_left', exists_eq_left, exists_and_left, List.cons.injEq, and_true, true_and, eq_self_iff_true, Nat.reduceAdd, Nat.reduceSub, Nat.zero_add, rEqI, rNeI, tAndV, tOrV, tNotV, natI, tDGet, tDIn, tDNotIn, sDPut, tDGet2, tDNewT, tDNewK, arE T h13]
    refine ⟨fr, b, ka, F, p, k, rfl, h23, hP.mono (((e0.trans e1).trans e2).trans e3), ok, okp, fits, (e2.trans e3) _ _ hka, inr, fun H4 e4 => ?_⟩
    have hA4 := hA3.mono e4
    simp only [tSeq, tAsg, tRet, tIfS, tTest, tOp, tUn, tVar, tC, tCons, tNil, tCB, tHas, gName, rI0, rI, rU, tNext, tNot, tAnd, tOr, tChain, tIf, tB, tNever, tRetN, tDrop, tTup, tLst, tMeth, tMake, tM0, tM1, tBits, tTruI, tBM, gSub, tSl, tNoPart, tPart, gcE, gnE, bs_length, tListRevR, tRg1, tFldE, sFldE, tPar3, cxK, nxK, List.append_nil, L2.start, List.map_cons, List.map_nil, List.length_cons, List.length_nil, List.replicate, List.cons_append, List.nil_append, List.getElem?_cons_zero, List.getElem?_cons_succ, List.set_cons_zero, List.set_cons_succ, Option.some.injEq, V.int.injEq, V.bl.injEq, V.str.injEq, V.ref.injEq, exists_eq_left', exists_eq_left, exists_and_left, List.cons.injEq, and_true, true_and, eq_self_iff_true, Nat.reduceAdd, Nat.reduceSub, Nat.zero_add, rEqI, rNeI, tAndV, tOrV, tNotV, natI, tDGet, tDIn, tDNotIn, sDPut, tDGet2, tDNewT, tDNewK]
    refine ⟨a, d, fr, ka, F, m, k, rfl, hA4, ok, ((e2.trans e3).trans e4) _ _ hka, inr, mok.d, fun H5 e5 => ?_⟩
    have hA5 := hA4.mono e5
    obtain ⟨⟨dx5, h15⟩, h25, h35⟩ := id hA5
    have hch := mok.ch k inr
    have hrk := mok.rk k inr
    refine ⟨_, rfl, .inr ⟨by omega, by omega⟩, dx5, fsA fr d, h15, rfl, a, d, fr, ka, F, m, k, rfl, hA5, ok, (((e2.trans e3).trans e4).trans e5) _ _ hka, inr, ?_⟩
    have hpl := pb_len (p := p) ok inr
    refine ⟨F.tw k.2.1, digs m k, pbM F p k, rfl, wm.1, by rw [hpl]; exact wm.2.2.1, hl16, by rw [hpl]; exact hsome, fun H6 e6 => ⟨_, rfl, ((e2.trans e3).trans e4).trans (e5.trans e6), ?_⟩⟩
    rw [hpl]
    unfold numN
    rw [take_snoc hk, List.foldl_append]
    simp only [List.foldl_cons, List.foldl_nil]
    refine ⟨?_, _, rfl⟩
    rw [Int.natCast_add, Int.natCast_mul]
    unfold rkN
    rw [Int.toNat_of_nonneg hrk.1]
  · rintro σ' H' ⟨e2, v3, v4, v5, rfl⟩
    simp only [tSeq, tAsg, tRet, tIfS, tTest, tOp, tUn, tVar, tC, tCons, tNil, tCB, tHas, gName, rI0, rI, rU, tNext, tNot, tAnd, tOr, tChain, tIf, tB, tNever, tRetN, tDrop, tTup, tLst, tMeth, tMake, tM0, tM1, tBits, tTruI, tBM, gSub, tSl, tNoPart, tPart, gcE, gnE, bs_length, tListRevR, tRg1, tFldE, sFldE, tPar3, cxK, nxK, List.append_nil, L2.start, List.map_cons, List.map_nil, List.length_cons, List.length_nil, List.replicate, List.cons_append, List.nil_append, List.getElem?_cons_zero, List.getElem?_cons_succ, List.set_cons_zero, List.set_cons_succ, Option.some.injEq, V.int.injEq, V.bl.injEq, V.str.injEq, V.ref.injEq, exists_eq_left', exists_eq_left, exists_and_left, List.cons.injEq, and_true, true_and, eq_self_iff_true, Nat.reduceAdd, Nat.reduceSub, Nat.zero_add, rEqI, rNeI, tAndV, tOrV, tNotV, natI, tDGet, tDIn, tDNotIn, sDPut, tDGet2, tDNewT, tDNewK]
    rw [hxl, List.take_length]
    exact q H' ((e0.trans e1).trans e2)
end
end PK


set_option maxHeartbeats 4000000
namespace PK
open PySem PySem.Spec PyProof.Rows L2 Evl
local macro_rules | `(tactic| walk_at "rd") => `(tactic| simp only [tSeq, tAsg, tRet, tIfS, tTest, tOp, tUn, tVar, tC, tCons, tNil, tCB, tHas, gName, rI0, rI, rU, tNext, tNot, tAnd, tOr, tChain, tIf, tB, tNever, tRetN, tDrop, tTup, tLst, tMeth, tMake, tM0, tM1, tBits, tTruI, tBM, gSub, tSl, tNoPart, tPart, gcE, gnE, bs_length, tListRevR, tRg1, tFldE, sFldE, tPar3, cxK, nxK, List.append_nil,
  L2.start, List.map_cons, List.map_nil, List.length_cons, List.length_nil, List.replicate, List.cons_append, List.nil_append, List.getElem?_cons_zero, List.getElem?_cons_succ, List.set_cons_zero, List.set_cons_succ,
  Option.some.injEq, V.int.injEq, V.bl.injEq, V.str.injEq, V.ref.injEq, exists_eq_left', exists_eq_left, exists_and_left, List.cons.injEq, and_true, true_and, eq_self_iff_true, Nat.reduceAdd, Nat.reduceSub, Nat.zero_add])
/-! ### the table of stored bits -/
def tk (c pl : Nat) : List L2.Key := [.inl (c : Int), .inl (pl : Int)]
theorem tk_inj {a b c d : Nat} (h : tk a b = tk c d) : a = c ∧ b = d := by
  simp only [tk, List.cons.injEq, Sum.inl.injEq, Int.ofNat_inj, and_true] at h
  exact h
/-- of the pairs in S: their rows stand apart, behind H0, at ra, and hold rv -/
structure TbAt (H0 H : Hp) (t : Addr) (S : Nat → Nat → Prop) (ra : Nat → Nat → Addr) (rv : Nat → Nat → List Nat) (n : Nat) : Prop where
  dic : ∃ kvs, H t = some (.dT kvs) ∧ kvs.length ≤ n ∧ ∀ c pl, S c pl → valV kvs (tk c pl) = some (.ref (ra c pl))
  row : ∀ c pl, S c pl → H (ra c pl) = some (.lst (intsN (rv c pl))) ∧ H0 (ra c pl) = none
  inj : ∀ c pl c' pl', S c pl → S c' pl' → ra c pl = ra c' pl' → c = c' ∧ pl = pl'
  new : H0 t = none
theorem TbAt.mono {H0 H H' : Hp} {t : Addr} {S : Nat → Nat → Prop} {ra : Nat → Nat → Addr} {rv : Nat → Nat → List Nat} {n : Nat} (e : Ex H H') (h : TbAt H0 H t S ra rv n) : TbAt H0 H' t S ra rv n := by
  obtain ⟨⟨kvs, h1, h2, h3⟩, h4, h5, h6⟩ := h
  exact ⟨⟨kvs, e _ _ h1, h2, h3⟩, fun c pl s => ⟨e _ _ (h4 c pl s).1, (h4 c pl s).2⟩, h5, h6⟩
/-- a new row -/
theorem TbAt.put {H0 H : Hp} {t : Addr} {S : Nat → Nat → Prop} {ra : Nat → Nat → Addr} {rv : Nat → Nat → List Nat} {n : Nat} (h : TbAt H0 H t S ra rv n) (e0 : Ex H0 H) {c pl : Nat} {l : Addr} {r : List Nat} (hS : ¬ S c pl) (hl : H l = some (.lst (intsN r))) (hl0 : H0 l = none) (hla : ∀ c pl, S c pl → ra c pl ≠ l)
    {kvs : List (List L2.Key × V)} (hk : H t = some (.dT kvs)) :
    TbAt H0 (upd H t (.dT (putK kvs (tk c pl) (.ref l)))) t (fun c' pl' => S c' pl' ∨ (c' = c ∧ pl' = pl)) (fun c' pl' => if c' = c ∧ pl' = pl then l else ra c' pl') (fun c' pl' => if c' = c ∧ pl' = pl then r else rv c' pl') (n + 1) := by
  obtain ⟨⟨kvs', h1, h2, h3⟩, h4, h5, h6⟩ := h
  rw [hk] at h1
  cases h1
  refine ⟨⟨_, upd_same, ?_, ?_⟩, ?_, ?_, h6⟩
  · have := length_putK kvs (tk c pl) (V.ref l)
    omega
  · intro c' pl' s
    rw [valV_put]
    by_cases hc : c' = c ∧ pl' = pl
    · rw [if_pos hc, if_pos (by rw [hc.1, hc.2])]
    · rw [if_neg hc, if_neg (fun z => hc (tk_inj z))]
      exact h3 _ _ (s.resolve_right hc)
  · intro c' pl' s
    by_cases hc : c' = c ∧ pl' = pl
    · rw [if_pos hc, if_pos hc]
      refine ⟨?_, hl0⟩
      rw [upd_ne]
      · exact hl
      · rintro rfl
        rw [hl] at hk
        cases hk
    · rw [if_neg hc, if_neg hc]
      have s' : S c' pl' := s.resolve_right hc
      refine ⟨?_, (h4 _ _ s').2⟩
      rw [upd_ne]
      · exact (h4 _ _ s').1
      · intro e
        have := (h4 _ _ s').1
        rw [e, hk] at this
        cases this
  · intro a b a' b' s s' e
    by_cases hc : a = c ∧ b = pl
    · by_cases hc' : a' = c ∧ b' = pl
      · exact ⟨hc.1.trans hc'.1.symm, hc.2.trans hc'.2.symm⟩
      · rw [if_pos hc, if_neg hc'] at e
        exact absurd e.symm (hla _ _ (s'.resolve_right hc'))
    · by_cases hc' : a' = c ∧ b' = pl
      · rw [if_neg hc, if_pos hc'] at e
        exact absurd e (hla _ _ (s.resolve_right hc))
      · rw [if_neg hc, if_neg hc'] at e
        exact h5 _ _ _ _ (s.resolve_right hc) (s'.resolve_right hc') e
/-- a row changed -/
theorem TbAt.set {H0 H : Hp} {t : Addr} {S : Nat → Nat → Prop} {ra : Nat → Nat → Addr} {rv : Nat → Nat → List Nat} {n : Nat} (h : TbAt H0 H t S ra rv n) {c pl : Nat} (hS : S c pl) (r : List Nat) :
    TbAt H0 (upd H (ra c pl) (.lst (intsN r))) t S ra (fun c' pl' => if c' = c ∧ pl' = pl then r else rv c' pl') n := by
  obtain ⟨⟨kvs, h1, h2, h3⟩, h4, h5, h6⟩ := h
  have hr := (h4 c pl hS).1
  refine ⟨⟨kvs, ?_, h2, h3⟩, ?_, h5, h6⟩
  · rw [upd_ne]
    · exact h1
    · rintro rfl
      rw [hr] at h1
      cases h1
  · intro c' pl' s
    refine ⟨?_, (h4 _ _ s).2⟩
    by_cases hc : c' = c ∧ pl' = pl
    · rw [if_pos hc, hc.1, hc.2]
      exact upd_same
    · rw [if_neg hc, upd_ne]
      · exact (h4 _ _ s).1
      · intro e
        exact hc (h5 _ _ _ _ s hS e)
/-- every pair's row holds the picture's stored bits -/
def rowM (F : Fr) (p : Pic) (c pl : Nat) : List Nat := (List.range F.pixels).map fun x => sbM p c x pl
def FullAt (H : Hp) (t : Addr) (F : Fr) (p : Pic) : Prop := ∃ kvs, H t = some (.dT kvs) ∧ ∀ c pl, c < F.C → pl < F.D → ∃ a, valV kvs (tk c pl) = some (.ref a) ∧ H a = some (.lst (intsN (rowM F p c pl)))
/-- the packets of a picture -/
def PksAt (H : Hp) (a : Addr) (F : Fr) (p : Pic) : Prop := ∃ m : Dig, H a = some (.dT (m.map entD)) ∧ ∀ k, InR F k → getD m k = some (pbM F p k)
theorem PksAt.mono {H H' : Hp} {a : Addr} {F : Fr} {p : Pic} (e : Ex H H') (h : PksAt H a F p) : PksAt H' a F p := by
  obtain ⟨m, h1, h2⟩ := h
  exact ⟨m, e _ _ h1, h2⟩
/-- all but the rows stand -/
def ExP (N : Addr → Prop) (H H' : Hp) : Prop := ∀ a o, ¬ N a → H a = some o → H' a = some o
theorem ExP.of {N : Addr → Prop} {H H' : Hp} (e : Ex H H') : ExP N H H' := fun a o _ h => e a o h
theorem ExP.trans {N : Addr → Prop} {H H1 H2 : Hp} (e : ExP N H H1) (f : ExP N H1 H2) : ExP N H H2 := fun a o n h => f a o n (e a o n h)
theorem ExP.upd {N : Addr → Prop} {H : Hp} {a : Addr} {o : HO} (h : N a) : ExP N H (upd H a o) := fun b u n hb => by
  rw [upd_ne]
  · exact hb
  · rintro rfl
    exact n h
structure RvOk (F : Fr) (p : Pic) (rv : Nat → Nat → List Nat) (dn : Nat → Nat → Nat → Prop) : Prop where
  len : ∀ c pl, c < F.C → pl < F.D → (rv c pl).length = F.pixels
  val : ∀ c pl x, c < F.C → pl < F.D → x < F.pixels → ((rv c pl).getD x 0 = 0 ∨ (rv c pl).getD x 0 = sbM p c x pl) ∧ (dn c pl x → (rv c pl).getD x 0 = sbM p c x pl)
theorem RvOk.mono {F : Fr} {p : Pic} {rv : Nat → Nat → List Nat} {dn dn' : Nat → Nat → Nat → Prop} (h : RvOk F p rv dn) (hd : ∀ c pl x, dn' c pl x → dn c pl x) : RvOk F p rv dn' :=
  ⟨h.len, fun c pl x hc hp hx => ⟨(h.val c pl x hc hp hx).1, fun d => (h.val c pl x hc hp hx).2 (hd _ _ _ d)⟩⟩
theorem RvOk.step0 {F : Fr} {p : Pic} {rv : Nat → Nat → List Nat} {dn : Nat → Nat → Nat → Prop} (h : RvOk F p rv dn) {c0 pl0 x0 : Nat} (hs : sbM p c0 x0 pl0 = 0) : RvOk F p rv (fun c pl x => dn c pl x ∨ (c = c0 ∧ pl = pl0 ∧ x = x0)) := by
  refine ⟨h.len, fun c pl x hc hp hx => ⟨(h.val c pl x hc hp hx).1, ?_⟩⟩
  rintro (d | ⟨rfl, rfl, rfl⟩)
  · exact (h.val c pl x hc hp hx).2 d
  · rcases (h.val c pl x hc hp hx).1 with e | e
    · rw [e, hs]
    · exact e
theorem RvOk.step1 {F : Fr} {p : Pic} {rv : Nat → Nat → List Nat} {dn : Nat → Nat → Nat → Prop} (h : RvOk F p rv dn) {c0 pl0 x0 : Nat} (hc0 : c0 < F.C) (hp0 : pl0 < F.D) (hx0 : x0 < F.pixels) (hs : sbM p c0 x0 pl0 = 1) :
    RvOk F p (fun c pl => if c = c0 ∧ pl = pl0 then (rv c0 pl0).set x0 1 else rv c pl) (fun c pl x => dn c pl x ∨ (c = c0 ∧ pl = pl0 ∧ x = x0)) := by
  have hl := h.len c0 pl0 hc0 hp0
  refine ⟨fun c pl hc hp => ?_, fun c pl x hc hp hx => ?_⟩
  · split
    · rw [List.length_set, hl]
    · exact h.len c pl hc hp
  · by_cases hcp : c = c0 ∧ pl = pl0
    · obtain ⟨rfl, rfl⟩ := hcp
      rw [if_pos ⟨rfl, rfl⟩]
      by_cases hx1 : x = x0
      · subst hx1
        have e : ((rv c pl).set x 1).getD x 0 = 1 := by
          have : x < (rv c pl).length := by omega
          simp [this]
        rw [e, hs]
        exact ⟨.inr rfl, fun _ => rfl⟩
      · have e : ((rv c pl).set x0 1).getD x 0 = (rv c pl).getD x 0 := by
          simp only [List.getD_eq_getElem?_getD]
          rw [List.getElem?_set_ne (Ne.symm hx1)]
        rw [e]
        refine ⟨(h.val c pl x hc hp hx).1, ?_⟩
        rintro (d | ⟨_, _, z⟩)
        · exact (h.val c pl x hc hp hx).2 d
        · exact absurd z hx1
    · rw [if_neg hcp]
      refine ⟨(h.val c pl x hc hp hx).1, ?_⟩
      rintro (d | ⟨z1, z2, _⟩)
      · exact (h.val c pl x hc hp hx).2 d
      · exact absurd ⟨z1, z2⟩ hcp
theorem RvOk.full {F : Fr} {p : Pic} {rv : Nat → Nat → List Nat} {dn : Nat → Nat → Nat → Prop} (h : RvOk F p rv dn) (hd : ∀ c pl x, c < F.C → pl < F.D → x < F.pixels → dn c pl x) {c pl : Nat} (hc : c < F.C) (hp : pl < F.D) : rv c pl = rowM F p c pl := by
  have hl := h.len c pl hc hp
  unfold rowM
  rw [← range_get (rv c pl) 0, hl]
  apply List.map_congr_left
  intro x hx
  have hx := List.mem_range.mp hx
  exact (h.val c pl x hc hp hx).2 (hd c pl x hc hp hx)
theorem cover_all : ((List.range 4).all fun w => (List.range 4).all fun h => (List.range 2).all fun t => let F : Fr := ⟨w + 1, h + 1, 0, 0, t + 1⟩; (List.range F.pixels).all fun x => (List.range F.tiles).any fun i => (F.px i).contains x) = true := by decide +kernel
theorem Fr.cover {F : Fr} (h : F.ok) {x : Nat} (hx : x < F.pixels) : ∃ t, t < F.tiles ∧ x ∈ F.px t := by
  have hb := h.b
  have e := List.all_eq_true.mp (List.all_eq_true.mp (List.all_eq_true.mp cover_all (F.W - 1) (List.mem_range.mpr (by omega))) (F.Hh - 1) (List.mem_range.mpr (by omega))) (F.T - 1) (List.mem_range.mpr (by omega))
  rw [show F.W - 1 + 1 = F.W by omega, show F.Hh - 1 + 1 = F.Hh by omega, show F.T - 1 + 1 = F.T by omega] at e
  obtain ⟨i, hi, hc⟩ := List.any_eq_true.mp (List.all_eq_true.mp e x (List.mem_range.mpr hx))
  have h2 : x ∈ Fr.px ⟨F.W, F.Hh, 0, 0, F.T⟩ i := by simpa using hc
  exact ⟨i, List.mem_range.mp hi, h2⟩
section
variable {P : Program} {w : World} {K : PySem.W.Frag} {mg : Str → Option Value} {base : Heap} {CF CP CA : Addr}
def spStored (CF : Addr) : Sp := fun vs H Q _ => ∃ (a b : Addr) (F : Fr) (p : Pic), vs = [.ref a, .ref b] ∧ FrAt CF H a F ∧ F.ok ∧ PksAt H b F p ∧ ∀ t H', H t = none → Ex H H' → FullAt H' t F p → Q (.ref t) H'
theorem has_stored (T : Top K mg CF CP CA) : Has P w K mg base CX0 5 "_stored" ["frame", "packets"] (spStored CF) := by
  have G_all_keys := has_all_keys (P := P) (w := w) (base := base) T
  have G_tile_pixels := has_tile_pixels (P := P) (w := w) (base := base) T
  obtain ⟨f_Frame_pixels, fd_Frame_pixels, mm_Frame_pixels, b_Frame_pixels, F_Frame_pixels⟩ := (has_Frame_pixels (P := P) (w := w) (base := base) T).ex
  refine has0 T.d_stored sc_stored (fun vs H Q E h => by
    repeat (obtain ⟨_, h⟩ := h)
    subst_vars
    rfl) fun f cdv A outer s H vs Q E hr h => ?_
  obtain ⟨a, b, F, p, rfl, hF, ok, hP, q⟩ := h
  refine ⟨_, (pss_cons (ps_set (i := 2) sc_stored.nd rfl (by first | exact .inl rfl | exact .inr rfl) pe_dnewT)
      (pss_cons (ps_for PassesOwn.never rfl (pi_range1 rfl T.n_range (pa_cons (pe_fld (pv 0) rfl) pa_nil)) (pg_name (i := 3) sc_stored.nd rfl (by first | exact .inl rfl | exact .inr rfl)) (pss_one (ps_for PassesOwn.never rfl (pi_range1 rfl T.n_range (pa_cons (pe_fld (pv 0) rfl) pa_nil)) (pg_name (i := 4) sc_stored.nd rfl (by first | exact .inl rfl | exact .inr rfl)) (pss_one (ps_dput (hu_of hr) (pv 2) (pe_tup (pa_cons (pv 3) (pa_cons (pv 4) pa_nil))) (pe_op op_rep (pe_lst (pa_cons pe_int pa_nil)) (pe_meth0 (pv 0) T.clF mm_Frame_pixels F_Frame_pixels (hr.mono (by decide)) b_Frame_pixels .nil pass0)) rfl)))))
      (pss_cons (ps_for PassesOwn.never rfl (pi_list (pe_has G_all_keys (hr.mono (by decide)) (pa_cons (pv 0) pa_nil))) (pg_name (i := 5) sc_stored.nd rfl (by first | exact .inl rfl | exact .inr rfl)) (pss_cons (ps_asg (pv 5) (pg_tup rfl (pgs_cons (pg_name (i := 3) sc_stored.nd rfl (by first | exact .inl rfl | exact .inr rfl)) (pgs_cons (pg_name (i := 6) sc_stored.nd rfl (by first | exact .inl rfl | exact .inr rfl)) (pgs_cons (pg_name (i := 4) sc_stored.nd rfl (by first | exact .inl rfl | exact .inr rfl)) pgs_nil)))))
      (pss_cons (ps_set (i := 7) sc_stored.nd rfl (by first | exact .inl rfl | exact .inr rfl) (pe_dget (hu_of hr) (pv 2) (pe_tup (pa_cons (pv 3) (pa_cons (pv 4) pa_nil))) (fun _ _ => rfl)))
      (pss_one (ps_for PassesOwn.never rfl (pi_zipS T.n_zip (pa_cons (pe_has G_tile_pixels (hr.mono (by decide)) (pa_cons (pv 0) (pa_cons (pv 6) pa_nil))) (pa_cons (pe_dget (hu_of hr) (pv 1) (pv 5) (fun _ _ => rfl)) pa_nil))) (pg_tup rfl (pgs_cons (pg_name (i := 8) sc_stored.nd rfl (by first | exact .inl rfl | exact .inr rfl)) (pgs_cons (pg_name (i := 9) sc_stored.nd rfl (by first | exact .inl rfl | exact .inr rfl)) pgs_nil))) (pss_one (ps_if (pt_cmpR op_eq (pv 9) pe_str (nomark _)) (pss_one (ps_asg pe_int (pg_sub (pv 7) (pv 8) set_list))) pss_nil)))))))
      (pss_one (ps_ret (pv 2)))))), ?_⟩
  simp only [tSeq, tAsg, tRet, tIfS, tTest, tOp, tUn, tVar, tC, tCons, tNil, tCB, tHas, gName, rI0, rI, rU, tNext, tNot, tAnd, tOr, tChain, tIf, tB, tNever, tRetN, tDrop, tTup, tLst, tMeth, tMake, tM0, tM1, tBits, tTruI, tBM, gSub, tSl, tNoPart, tPart, gcE, gnE, bs_length, tListRevR, tRg1, tFldE, sFldE, tPar3, cxK, nxK, List.append_nil, L2.start, List.map_cons, List.map_nil, List.length_cons, List.length_nil, List.replicate, List.cons_append, List.nil_append, List.getElem?_cons_zero, List.getElem?_cons_succ, List.set_cons_zero, List.set_cons_succ, Option.some.injEq, V.int.injEq, V.bl.injEq, V.str.injEq, V.ref.injEq, exists_eq_left', exists_eq_left, exists_and_left, List.cons.injEq, and_true, true_and, eq_self_iff_true, Nat.reduceAdd, Nat.reduceSub, Nat.zero_add, rEqI, rNeI, tAndV, tOrV, tNotV, natI, tDGet, tDIn, tDNotIn, sDPut, tDGet2, tDNewT, tDNewK, frE T hF]
  intro t ht
  have hb := ok.b
  have htl := F.tiles_le ok
  have hpx : F.pixels ≤ 16 := by
    have := Nat.mul_le_mul (show F.W ≤ 4 by omega) (show F.Hh ≤ 4 by omega)
    unfold Fr.pixels
    omega
  have eF := Ex.new (o := .dT []) ht
  let S : Nat → Nat → Nat → Nat → Prop := fun c pl c' pl' => pl' < F.D ∧ (c' < c ∨ (c' = c ∧ pl' < pl))
  let z : List Nat := List.replicate F.pixels 0
  have hz : (List.replicate F.pixels (V.int 0)) = intsN z := by simp [z, intsN]
  refine s_rng (n := F.C) (fun Q q => ?_) (by omega) (fun i σ' H' => Ex H H' ∧ (∃ ra, TbAt H H' t (S i 0) ra (fun _ _ => z) (i * F.D)) ∧ ∃ v3 v4, σ' = [some (.ref a), some (.ref b), some (.ref t), v3, v4, none, none, none, none, none])
    ⟨eF, ⟨fun _ _ => 0, ⟨[], upd_same, by simp, fun c pl s => by simp only [S] at s; omega⟩, fun c pl s => by simp only [S] at s; omega, fun c pl _ _ s => by simp only [S] at s; omega, ht⟩, none, none, rfl⟩ ?_ ?_
  · simp only [tSeq, tAsg, tRet, tIfS, tTest, tOp, tUn, tVar, tC, tCons, tNil, tCB, tHas, gName, rI0, rI, rU, tNext, tNot, tAnd, tOr, tChain, tIf, tB, tNever, tRetN, tDrop, tTup, tLst, tMeth, tMake, tM0, tM1, tBits, tTruI, tBM, gSub, tSl, tNoPart, tPart, gcE, gnE, bs_length, tListRevR, tRg1, tFldE, sFldE, tPar3, cxK, nxK, List.append_nil, L2.start, List.map_cons, List.map_nil, List.length_cons, List.length_nil, List.replicate, List.cons_append, List.nil_append, List.getElem?_cons_zero, List.getElem?_cons_succ, List.set_cons_zero, List.set_cons_succ, Option.some.injEq, V.int.injEq, V.bl.injEq, V.str.injEq, V.ref.injEq, exists_eq_left', exists_eq_left, exists_and_left, List.cons.injEq, and_true, true_and, eq_self_iff_true, Nat.reduceAdd, Nat.reduceSub, Nat.zero_add, rEqI, rNeI, tAndV, tOrV, tNotV, natI, tDGet, tDIn, tDNotIn, sDPut, tDGet2, tDNewT, tDNewK, frE T (hF.mono eF)]
    exact q
  · rintro i σ' H1 hi ⟨e1, ⟨ra, hT⟩, v3, v4, rfl⟩
    simp only [tSeq, tAsg, tRet, tIfS, tTest, tOp, tUn, tVar, tC, tCons, tNil, tCB, tHas, gName, rI0, rI, rU, tNext, tNot, tAnd, tOr, tChain, tIf, tB, tNever, tRetN, tDrop, tTup, tLst, tMeth, tMake, tM0, tM1, tBits, tTruI, tBM, gSub, tSl, tNoPart, tPart, gcE, gnE, bs_length, tListRevR, tRg1, tFldE, sFldE, tPar3, cxK, nxK, List.append_nil, L2.start, List.map_cons, List.map_nil, List.length_cons, List.length_nil, List.replicate, List.cons_append, List.nil_append, List.getElem?_cons_zero, List.getElem?_cons_succ, List.set_cons_zero, List.set_cons_succ, Option.some.injEq, V.int.injEq, V.bl.injEq, V.str.injEq, V.ref.injEq, exists_eq_left', exists_eq_left, exists_and_left, List.cons.injEq, and_true, true_and, eq_self_iff_true, Nat.reduceAdd, Nat.reduceSub, Nat.zero_add, rEqI, rNeI, tAndV, tOrV, tNotV, natI, tDGet, tDIn, tDNotIn, sDPut, tDGet2, tDNewT, tDNewK]
    refine s_rng (n := F.D) (fun Q q => ?_) (by omega) (fun j σ' H' => Ex H H' ∧ (∃ ra, TbAt H H' t (S i j) ra (fun _ _ => z) (i * F.D + j)) ∧ ∃ v4, σ' = [some (.ref a), some (.ref b), some (.ref t), some (.int (i : Int)), v4, none, none, none, none, none])
      ⟨e1, ⟨ra, hT⟩, v4, rfl⟩ ?_ ?_
    · simp only [tSeq, tAsg, tRet, tIfS, tTest, tOp, tUn, tVar, tC, tCons, tNil, tCB, tHas, gName, rI0, rI, rU, tNext, tNot, tAnd, tOr, tChain, tIf, tB, tNever, tRetN, tDrop, tTup, tLst, tMeth, tMake, tM0, tM1, tBits, tTruI, tBM, gSub, tSl, tNoPart, tPart, gcE, gnE, bs_length, tListRevR, tRg1, tFldE, sFldE, tPar3, cxK, nxK, List.append_nil, L2.start, List.map_cons, List.map_nil, List.length_cons, List.length_nil, List.replicate, List.cons_append, List.nil_append, List.getElem?_cons_zero, List.getElem?_cons_succ, List.set_cons_zero, List.set_cons_succ, Option.some.injEq, V.int.injEq, V.bl.injEq, V.str.injEq, V.ref.injEq, exists_eq_left', exists_eq_left, exists_and_left, List.cons.injEq, and_true, true_and, eq_self_iff_true, Nat.reduceAdd, Nat.reduceSub, Nat.zero_add, rEqI, rNeI, tAndV, tOrV, tNotV, natI, tDGet, tDIn, tDNotIn, sDPut, tDGet2, tDNewT, tDNewK, frE T (hF.mono e1)]
      exact q
    · rintro j σ' H2 hj ⟨e2, ⟨ra, hT⟩, v4, rfl⟩
      simp only [tSeq, tAsg, tRet, tIfS, tTest, tOp, tUn, tVar, tC, tCons, tNil, tCB, tHas, gName, rI0, rI, rU, tNext, tNot, tAnd, tOr, tChain, tIf, tB, tNever, tRetN, tDrop, tTup, tLst, tMeth, tMake, tM0, tM1, tBits, tTruI, tBM, gSub, tSl, tNoPart, tPart, gcE, gnE, bs_length, tListRevR, tRg1, tFldE, sFldE, tPar3, cxK, nxK, List.append_nil, L2.start, List.map_cons, List.map_nil, List.length_cons, List.length_nil, List.replicate, List.cons_append, List.nil_append, List.getElem?_cons_zero, List.getElem?_cons_succ, List.set_cons_zero, List.set_cons_succ, Option.some.injEq, V.int.injEq, V.bl.injEq, V.str.injEq, V.ref.injEq, exists_eq_left', exists_eq_left, exists_and_left, List.cons.injEq, and_true, true_and, eq_self_iff_true, Nat.reduceAdd, Nat.reduceSub, Nat.zero_add, rEqI, rNeI, tAndV, tOrV, tNotV, natI, tDGet, tDIn, tDNotIn, sDPut, tDGet2, tDNewT, tDNewK]
      refine ⟨by decide, fun p1 hp1 => ?_⟩
      have hF2 := hF.mono (e2.trans (Ex.new (o := .lst [.int 0]) hp1))
      obtain ⟨dx2, hF20⟩ := id hF2
      refine ⟨dx2, fsF F, hF20, rfl, a, F, rfl, hF2, ok, rep1 (k := F.pixels) upd_same (by omega) fun l hl => ⟨by decide, fun p3 hp3 => ?_⟩⟩
      rw [hz] at hp3 ⊢
      have hT3 := ((hT.mono (Ex.new (o := .lst [.int 0]) hp1)).mono (Ex.new (o := .lst (intsN z)) hl)).mono (Ex.new (o := .tup [.int (i : Int), .int (j : Int)]) hp3)
      have e3 := ((e2.trans (Ex.new (o := .lst [.int 0]) hp1)).trans (Ex.new (o := .lst (intsN z)) hl)).trans (Ex.new (o := .tup [.int (i : Int), .int (j : Int)]) hp3)
      obtain ⟨kvs, k1, k2, k3⟩ := hT3.dic
      have hlr : (upd (upd (upd H2 p1 (.lst [.int 0])) l (.lst (intsN z))) p3 (.tup [.int (i : Int), .int (j : Int)])) l = some (.lst (intsN z)) := Ex.new hp3 _ _ upd_same
      have hkn : kvs.length ≤ 1000 := by
        have := Nat.mul_le_mul (show i ≤ 3 by omega) (show F.D ≤ 3 by omega)
        omega
      have hl0 : H l = none := fresh_back (e2.trans (Ex.new hp1)) hl
      refine ⟨_, DPut.t (k := tk i j) k1 upd_same (sz_lt (by omega)), ?_, ⟨fun c' pl' => if c' = i ∧ pl' = j then l else ra c' pl', ?_⟩, _, rfl⟩
      · exact Ex.mut e3 ht
      · have := hT3.put (c := i) (pl := j) (l := l) (r := z) e3 (by simp only [S]; omega) hlr hl0 (fun c pl s e => by
          have := ((hT.mono (Ex.new (o := .lst [.int 0]) hp1)).row c pl s).1
          rw [e, hl] at this
          cases this) k1
        have es : (fun c' pl' => S i j c' pl' ∨ (c' = i ∧ pl' = j)) = S i (j + 1) := by
          funext c pl
          apply propext
          simp only [S]
          omega
        have ez : (fun c' pl' => if c' = i ∧ pl' = j then z else z) = (fun _ _ => z) := by
          funext c pl
          split <;> rfl
        rw [es, ez] at this
        exact this
    · rintro σ' H2 ⟨e2, ⟨ra, hT⟩, v4, rfl⟩
      refine ⟨e2, ⟨ra, ?_⟩, _, _, rfl⟩
      have es : S i F.D = S (i + 1) 0 := by
        funext c pl
        apply propext
        simp only [S]
        omega
      rw [← es, Nat.add_mul, Nat.one_mul]
      exact hT
  · rintro σ' H1 ⟨e1, ⟨ra, hT⟩, v3, v4, rfl⟩
    simp only [tSeq, tAsg, tRet, tIfS, tTest, tOp, tUn, tVar, tC, tCons, tNil, tCB, tHas, gName, rI0, rI, rU, tNext, tNot, tAnd, tOr, tChain, tIf, tB, tNever, tRetN, tDrop, tTup, tLst, tMeth, tMake, tM0, tM1, tBits, tTruI, tBM, gSub, tSl, tNoPart, tPart, gcE, gnE, bs_length, tListRevR, tRg1, tFldE, sFldE, tPar3, cxK, nxK, List.append_nil, L2.start, List.map_cons, List.map_nil, List.length_cons, List.length_nil, List.replicate, List.cons_append, List.nil_append, List.getElem?_cons_zero, List.getElem?_cons_succ, List.set_cons_zero, List.set_cons_succ, Option.some.injEq, V.int.injEq, V.bl.injEq, V.str.injEq, V.ref.injEq, exists_eq_left', exists_eq_left, exists_and_left, List.cons.injEq, and_true, true_and, eq_self_iff_true, Nat.reduceAdd, Nat.reduceSub, Nat.zero_add, rEqI, rNeI, tAndV, tOrV, tNotV, natI, tDGet, tDIn, tDNotIn, sDPut, tDGet2, tDNewT, tDNewK]
    rw [forE]
    simp only [tSeq, tAsg, tRet, tIfS, tTest, tOp, tUn, tVar, tC, tCons, tNil, tCB, tHas, gName, rI0, rI, rU, tNext, tNot, tAnd, tOr, tChain, tIf, tB, tNever, tRetN, tDrop, tTup, tLst, tMeth, tMake, tM0, tM1, tBits, tTruI, tBM, gSub, tSl, tNoPart, tPart, gcE, gnE, bs_length, tListRevR, tRg1, tFldE, sFldE, tPar3, cxK, nxK, List.append_nil, L2.start, List.map_cons, List.map_nil, List.length_cons, List.length_nil, List.replicate, List.cons_append, List.nil_append, List.getElem?_cons_zero, List.getElem?_cons_succ, List.set_cons_zero, List.set_cons_succ, Option.some.injEq, V.int.injEq, V.bl.injEq, V.str.injEq, V.ref.injEq, exists_eq_left', exists_eq_left, exists_and_left, List.cons.injEq, and_true, true_and, eq_self_iff_true, Nat.reduceAdd, Nat.reduceSub, Nat.zero_add, rEqI, rNeI, tAndV, tOrV, tNotV, natI, tDGet, tDIn, tDNotIn, sDPut, tDGet2, tDNewT, tDNewK]
    refine ⟨a, F, rfl, hF.mono e1, ok, fun l H2 xs hl e2 hlx hks => ?_⟩
    have hxl := hks.length
    have hT2 := hT.mono e2
    let N : Addr → Prop := fun x => ∃ c pl, S F.C 0 c pl ∧ ra c pl = x
    have hSN : ∀ c pl, c < F.C → pl < F.D → S F.C 0 c pl := fun c pl hc hp => ⟨hp, .inl hc⟩
    have hNS : ∀ c pl, S F.C 0 c pl → c < F.C ∧ pl < F.D := fun c pl h => ⟨by have := h.2; omega, h.1⟩
    have hN2 : ∀ x, N x → ∃ r, H2 x = some (.lst (intsN r)) ∧ H x = none ∧ x ≠ l := by
      rintro x ⟨c, pl, hs, rfl⟩
      refine ⟨_, (hT2.row c pl hs).1, (hT2.row c pl hs).2, ?_⟩
      intro e
      have := (hT.row c pl hs).1
      rw [e, hl] at this
      cases this
    have hlN : ¬ N l := fun h => (hN2 l h).choose_spec.2.2 rfl
    have keepH : ∀ H', ExP N H2 H' → Ex H H' := fun H' e x o hx => by
      refine e x o (fun hn => ?_) ((e1.trans e2) x o hx)
      have := (hN2 x hn).choose_spec.2.1
      rw [this] at hx
      cases hx
    have keepK : ∀ {H' v k}, ExP N H2 H' → KeyAt H2 v k → KeyAt H' v k := fun {H' v k} e h => by
      obtain ⟨x, ex, hx⟩ := h
      refine ⟨x, ex, e x _ (fun hn => ?_) hx⟩
      obtain ⟨r, hr, _⟩ := hN2 x hn
      rw [hx] at hr
      cases hr
    let dn : Nat → Nat → Nat → Nat → Prop := fun i c pl x => ∃ j tt, j < i ∧ F.keys[j]? = some (c, tt, pl) ∧ x ∈ F.px tt
    refine s_list (a := l) (xs := xs) (fun Q q => q) (sq_of hlx) (fun i σ' H' => ExP N H2 H' ∧ (∃ rv, TbAt H H' t (S F.C 0) ra rv (F.C * F.D) ∧ RvOk F p rv (dn i)) ∧ ∃ v3 v4 v5 v6 v7 v8 v9, σ' = [some (.ref a), some (.ref b), some (.ref t), v3, v4, v5, v6, v7, v8, v9])
      ⟨ExP.of (Ex.refl _), ⟨_, hT2, ⟨fun c pl _ _ => by simp [z], fun c pl x _ _ hx => ⟨.inl (by simp [z, List.getElem?_replicate]; split <;> rfl), fun d => by obtain ⟨j, tt, hj, _⟩ := d; omega⟩⟩⟩, _, _, _, _, _, _, _, rfl⟩ (fun i σ' H' p => sq_of (p.1 _ _ hlN hlx)) ?_ ?_
    · rintro i x σ' H3 hx ⟨e3, ⟨rv, hT3, hrv⟩, v3, v4, v5, v6, v7, v8, v9, rfl⟩
      obtain ⟨k, hk, hkx⟩ := All2.get hks hx
      have inr := Fr.mem_keys.mp (List.mem_of_getElem? hk)
      obtain ⟨ka, rfl, hka⟩ := keepK e3 hkx
      simp only [tSeq, tAsg, tRet, tIfS, tTest, tOp, tUn, tVar, tC, tCons, tNil, tCB, tHas, gName, rI0, rI, rU, tNext, tNot, tAnd, tOr, tChain, tIf, tB, tNever, tRetN, tDrop, tTup, tLst, tMeth, tMake, tM0, tM1, tBits, tTruI, tBM, gSub, tSl, tNoPart, tPart, gcE, gnE, bs_length, tListRevR, tRg1, tFldE, sFldE, tPar3, cxK, nxK, List.append_nil, L2.start, List.map_cons, List.map_nil, List.length_cons, List.length_nil, List.replicate, List.cons_append, List.nil_append, List.getElem?_cons_zero, List.getElem?_cons_succ, List.set_cons_zero, List.set_cons_succ, Option.some.injEq, V.int.injEq, V.bl.injEq, V.str.injEq, V.ref.injEq, exists_eq_left', exists_eq_left, exists_and_left, List.cons.injEq, and_true, true_and, eq_self_iff_true, Nat.reduceAdd, Nat.reduceSub, Nat.zero_add, rEqI, rNeI, tAndV, tOrV, tNotV, natI, tDGet, tDIn, tDNotIn, sDPut, tDGet2, tDNewT, tDNewK]
      refine gtup (st_of hka) rfl ?_
      simp only [tSeq, tAsg, tRet, tIfS, tTest, tOp, tUn, tVar, tC, tCons, tNil, tCB, tHas, gName, rI0, rI, rU, tNext, tNot, tAnd, tOr, tChain, tIf, tB, tNever, tRetN, tDrop, tTup, tLst, tMeth, tMake, tM0, tM1, tBits, tTruI, tBM, gSub, tSl, tNoPart, tPart, gcE, gnE, bs_length, tListRevR, tRg1, tFldE, sFldE, tPar3, cxK, nxK, List.append_nil, L2.start, List.map_cons, List.map_nil, List.length_cons, List.length_nil, List.replicate, List.cons_append, List.nil_append, List.getElem?_cons_zero, List.getElem?_cons_succ, List.set_cons_zero, List.set_cons_succ, Option.some.injEq, V.int.injEq, V.bl.injEq, V.str.injEq, V.ref.injEq, exists_eq_left', exists_eq_left, exists_and_left, List.cons.injEq, and_true, true_and, eq_self_iff_true, Nat.reduceAdd, Nat.reduceSub, Nat.zero_add, rEqI, rNeI, tAndV, tOrV, tNotV, natI, tDGet, tDIn, tDNotIn, sDPut, tDGet2, tDNewT, tDNewK]
      refine ⟨by decide, fun p4 hp4 => ?_⟩
      have e4 := Ex.new (o := .tup [.int (k.1 : Int), .int (k.2.2 : Int)]) hp4
      have hT4 := hT3.mono e4
      obtain ⟨kvs, k1, k2, k3⟩ := hT4.dic
      have hSk := hSN _ _ inr.1 inr.2.2
      have hg := DGet.t (k := tk k.1 k.2.2) k1 (upd_same (H := H3) (a := p4) (o := .tup [.int (k.1 : Int), .int (k.2.2 : Int)]))
      rw [k3 _ _ hSk] at hg
      refine ⟨_, hg, ?_⟩
      rw [zipE]
      have eF : Ex H (upd H3 p4 (.tup [.int (k.1 : Int), .int (k.2.2 : Int)])) := (keepH _ e3).trans e4
      simp only [tSeq, tAsg, tRet, tIfS, tTest, tOp, tUn, tVar, tC, tCons, tNil, tCB, tHas, gName, rI0, rI, rU, tNext, tNot, tAnd, tOr, tChain, tIf, tB, tNever, tRetN, tDrop, tTup, tLst, tMeth, tMake, tM0, tM1, tBits, tTruI, tBM, gSub, tSl, tNoPart, tPart, gcE, gnE, bs_length, tListRevR, tRg1, tFldE, sFldE, tPar3, cxK, nxK, List.append_nil, L2.start, List.map_cons, List.map_nil, List.length_cons, List.length_nil, List.replicate, List.cons_append, List.nil_append, List.getElem?_cons_zero, List.getElem?_cons_succ, List.set_cons_zero, List.set_cons_succ, Option.some.injEq, V.int.injEq, V.bl.injEq, V.str.injEq, V.ref.injEq, exists_eq_left', exists_eq_left, exists_and_left, List.cons.injEq, and_true, true_and, eq_self_iff_true, Nat.reduceAdd, Nat.reduceSub, Nat.zero_add, rEqI, rNeI, tAndV, tOrV, tNotV, natI, tDGet, tDIn, tDNotIn, sDPut, tDGet2, tDNewT, tDNewK]
      refine ⟨a, F, k.2.1, rfl, hF.mono eF, ok, inr.2.1, fun pl H5 hpl e5 hpl5 => ?_⟩
      obtain ⟨mp, hmp, hmpk⟩ := hP.mono (eF.trans e5)
      have hg2 := DGet.t (k := kk k) hmp ((e4.trans e5) _ _ hka)
      rw [valV_ent, hmpk k inr] at hg2
      refine ⟨_, hg2, ?_⟩
      have hT5 := hT4.mono e5
      have hpxl : (intsN (F.px k.2.1)).length = (pbM F p k).length := by rw [intsN_len]; simp [pbM]
      have e25 : ExP N H2 H5 := e3.trans ((ExP.of e4).trans (ExP.of e5))
      have hplN : ¬ N pl := by
        rintro ⟨c, pl', hs, e⟩
        have := (hT4.row c pl' hs).1
        rw [e, hpl] at this
        cases this
      refine s_zipBits (a := pl) (xs := intsN (F.px k.2.1)) (l := pbM F p k) (fun Q q => q) (sq_of hpl5) hpxl
        (fun m σ' H' => ExP N H5 H' ∧ (∃ rv, TbAt H H' t (S F.C 0) ra rv (F.C * F.D) ∧ RvOk F p rv (fun c pl x => dn i c pl x ∨ (c = k.1 ∧ pl = k.2.2 ∧ ∃ m', m' < m ∧ (F.px k.2.1)[m']? = some x))) ∧
          ∃ v8 v9, σ' = [some (.ref a), some (.ref b), some (.ref t), some (.int (k.1 : Int)), some (.int (k.2.2 : Int)), some (.ref ka), some (.int (k.2.1 : Int)), some (.ref (ra k.1 k.2.2)), v8, v9])
        ⟨ExP.of (Ex.refl _), ⟨rv, hT5, hrv.mono (fun c pl x d => by rcases d with d | ⟨_, _, m', hm, _⟩; exact d; omega)⟩, _, _, rfl⟩ (fun m σ' H' p => sq_of (p.1 _ _ hplN hpl5)) ?_ ?_
      · rintro m x b0 σ' H6 p7 hx hb0 ⟨e6, ⟨rv6, hT6, hrv6⟩, v8, v9, rfl⟩ hp7
        unfold intsN at hx
        rw [List.getElem?_map] at hx
        obtain ⟨n, hn, rfl⟩ := Option.map_eq_some_iff.mp hx
        have hnp := (Fr.facts ok inr.2.1).2.2.2.2.2.2 n (List.mem_of_getElem? hn)
        have hbe : b0 = decide (sbM p k.1 n k.2.2 = 1) := by
          unfold pbM at hb0
          rw [List.getElem?_map, hn] at hb0
          exact (Option.some.inj hb0).symm
        subst hbe
        have hT7 := hT6.mono (Ex.new (o := .tup [.int (n : Int), .str (b1 (decide (sbM p k.1 n k.2.2 = 1)))]) hp7)
        have e7 : ExP N H5 (upd H6 p7 (.tup [.int (n : Int), .str (b1 (decide (sbM p k.1 n k.2.2 = 1)))])) := e6.trans (ExP.of (Ex.new hp7))
        have hd : ∀ c pl x, (dn i c pl x ∨ (c = k.1 ∧ pl = k.2.2 ∧ ∃ m', m' < m + 1 ∧ (F.px k.2.1)[m']? = some x)) → (dn i c pl x ∨ (c = k.1 ∧ pl = k.2.2 ∧ ∃ m', m' < m ∧ (F.px k.2.1)[m']? = some x)) ∨ (c = k.1 ∧ pl = k.2.2 ∧ x = n) := by
          rintro c pl x (d | ⟨h1, h2, m', hm, hxm⟩)
          · exact .inl (.inl d)
          · by_cases h3 : m' = m
            · rw [h3, hn] at hxm
              exact .inr ⟨h1, h2, (Option.some.inj hxm).symm⟩
            · exact .inl (.inr ⟨h1, h2, m', by omega, hxm⟩)
        simp only [tSeq, tAsg, tRet, tIfS, tTest, tOp, tUn, tVar, tC, tCons, tNil, tCB, tHas, gName, rI0, rI, rU, tNext, tNot, tAnd, tOr, tChain, tIf, tB, tNever, tRetN, tDrop, tTup, tLst, tMeth, tMake, tM0, tM1, tBits, tTruI, tBM, gSub, tSl, tNoPart, tPart, gcE, gnE, bs_length, tListRevR, tRg1, tFldE, sFldE, tPar3, cxK, nxK, List.append_nil, L2.start, List.map_cons, List.map_nil, List.length_cons, List.length_nil, List.replicate, List.cons_append, List.nil_append, List.getElem?_cons_zero, List.getElem?_cons_succ, List.set_cons_zero, List.set_cons_succ, Option.some.injEq, V.int.injEq, V.bl.injEq, V.str.injEq, V.ref.injEq, exists_eq_left', exists_eq_left, exists_and_left, List.cons.injEq, and_true, true_and, eq_self_iff_true, Nat.reduceAdd, Nat.reduceSub, Nat.zero_add, rEqI, rNeI, tAndV, tOrV, tNotV, natI, tDGet, tDIn, tDNotIn, sDPut, tDGet2, tDNewT, tDNewK]
        refine ⟨rfl, _, rfl, ?_⟩
        rw [eq_one]
        by_cases hs1 : sbM p k.1 n k.2.2 = 1
        · rw [if_pos (decide_eq_true hs1)]
          refine setL (j := n) rfl (hT7.row _ _ hSk).1 (by rw [intsN_len, hrv6.len _ _ inr.1 inr.2.2]; exact hnp) ?_
          have es : (intsN (rv6 k.1 k.2.2)).set n (.int 1) = intsN ((rv6 k.1 k.2.2).set n 1) := by
            unfold intsN
            rw [List.map_set]
            rfl
          rw [es]
          exact ⟨e7.trans (ExP.upd ⟨k.1, k.2.2, hSk, rfl⟩), ⟨_, hT7.set hSk _, (hrv6.step1 inr.1 inr.2.2 hnp hs1).mono hd⟩, _, rfl⟩
        · rw [if_neg (by simpa using hs1)]
          have hs0 : sbM p k.1 n k.2.2 = 0 := by have := sb_lt p k.1 n k.2.2; omega
          exact ⟨e7, ⟨rv6, hT7, (hrv6.step0 hs0).mono hd⟩, _, rfl⟩
      · rintro σ' H6 ⟨e6, ⟨rv6, hT6, hrv6⟩, v8, v9, rfl⟩
        refine ⟨e25.trans e6, ⟨rv6, hT6, hrv6.mono ?_⟩, _, _, _, _, _, _, _, rfl⟩
        rintro c pl x ⟨j, tt, hj, hjk, hxt⟩
        by_cases hji : j = i
        · rw [hji, hk] at hjk
          obtain rfl := Option.some.inj hjk
          obtain ⟨m', hm', hme⟩ := List.getElem_of_mem hxt
          exact .inr ⟨rfl, rfl, m', by simpa [pbM] using hm', by rw [List.getElem?_eq_getElem hm', hme]⟩
        · exact .inl ⟨j, tt, by omega, hjk, hxt⟩
    · rintro σ' H3 ⟨e3, ⟨rv, hT3, hrv⟩, v3, v4, v5, v6, v7, v8, v9, rfl⟩
      simp only [tSeq, tAsg, tRet, tIfS, tTest, tOp, tUn, tVar, tC, tCons, tNil, tCB, tHas, gName, rI0, rI, rU, tNext, tNot, tAnd, tOr, tChain, tIf, tB, tNever, tRetN, tDrop, tTup, tLst, tMeth, tMake, tM0, tM1, tBits, tTruI, tBM, gSub, tSl, tNoPart, tPart, gcE, gnE, bs_length, tListRevR, tRg1, tFldE, sFldE, tPar3, cxK, nxK, List.append_nil, L2.start, List.map_cons, List.map_nil, List.length_cons, List.length_nil, List.replicate, List.cons_append, List.nil_append, List.getElem?_cons_zero, List.getElem?_cons_succ, List.set_cons_zero, List.set_cons_succ, Option.some.injEq, V.int.injEq, V.bl.injEq, V.str.injEq, V.ref.injEq, exists_eq_left', exists_eq_left, exists_and_left, List.cons.injEq, and_true, true_and, eq_self_iff_true, Nat.reduceAdd, Nat.reduceSub, Nat.zero_add, rEqI, rNeI, tAndV, tOrV, tNotV, natI, tDGet, tDIn, tDNotIn, sDPut, tDGet2, tDNewT, tDNewK]
      obtain ⟨kvs, k1, k2, k3⟩ := hT3.dic
      refine q t H3 ht (keepH _ e3) ⟨kvs, k1, fun c pl hc hp => ⟨ra c pl, k3 _ _ (hSN c pl hc hp), ?_⟩⟩
      have := (hT3.row c pl (hSN c pl hc hp)).1
      rw [hrv.full (fun c pl x hc hp hx => ?_) hc hp] at this
      · exact this
      · obtain ⟨tt, ht, hx⟩ := Fr.cover ok hx
        have hm : (c, tt, pl) ∈ F.keys := Fr.mem_keys.mpr ⟨hc, ht, hp⟩
        obtain ⟨j, hj, hje⟩ := List.getElem_of_mem hm
        exact ⟨j, tt, by rw [hxl]; exact hj, by rw [List.getElem?_eq_getElem hj, hje], hx⟩
end
end PK


set_option maxHeartbeats 4000000
namespace PK
open PySem PySem.Spec PyProof.Rows L2 Evl
local macro_rules | `(tactic| walk_at "rd") => `(tactic| simp only [tSeq, tAsg, tRet, tIfS, tTest, tOp, tUn, tVar, tC, tCons, tNil, tCB, tHas, gName, rI0, rI, rU, tNext, tNot, tAnd, tOr, tChain, tIf, tB, tNever, tRetN, tDrop, tTup, tLst, tMeth, tMake, tM0, tM1, tBits, tTruI, tBM, gSub, tSl, tNoPart, tPart, gcE, gnE, bs_length, tListRevR, tRg1, tFldE, sFldE, tPar3, cxK, nxK, List.append_nil,
  L2.start, List.map_cons, List.map_nil, List.length_cons, List.length_nil, List.replicate, List.cons_append, List.nil_append, List.getElem?_cons_zero, List.getElem?_cons_succ, List.set_cons_zero, List.set_cons_succ,
  Option.some.injEq, V.int.injEq, V.bl.injEq, V.str.injEq, V.ref.injEq, exists_eq_left', exists_eq_left, exists_and_left, List.cons.injEq, and_true, true_and, eq_self_iff_true, Nat.reduceAdd, Nat.reduceSub, Nat.zero_add])
/-! ### values from grays -/
theorem decode_all : ([1, 2, 3].all fun D => (List.range 8).all fun v => !decide (v < 2 ^ D) || decide ((voM ((List.range D).map fun i => gbM v (D - 1 - i))).1 = v)) = true := by decide +kernel
theorem decode {D v : Nat} (h1 : 1 ≤ D) (h2 : D ≤ 3) (hv : v < 2 ^ D) : (voM ((List.range D).map fun i => gbM v (D - 1 - i))).1 = v := by
  have h8 : v < 8 := by
    have : 2 ^ D ≤ 2 ^ 3 := Nat.pow_le_pow_right (by decide) h2
    omega
  have := List.all_eq_true.mp (List.all_eq_true.mp decode_all D (by simp; omega)) v (List.mem_range.mpr h8)
  simpa [hv] using this
theorem FullAt.mono {H H' : Hp} {t : Addr} {F : Fr} {p : Pic} (e : Ex H H') (h : FullAt H t F p) : FullAt H' t F p := by
  obtain ⟨kvs, h1, h2⟩ := h
  exact ⟨kvs, e _ _ h1, fun c pl hc hp => by
    obtain ⟨a, h3, h4⟩ := h2 c pl hc hp
    exact ⟨a, h3, e _ _ h4⟩⟩
/-- table[c, plane][x] -/
theorem FullAt.at' {K : PySem.W.Frag} {H : Hp} {t b : Addr} {F : Fr} {p : Pic} (h : FullAt H t F p) {c pl x : Nat} (hc : c < F.C) (hp : pl < F.D) (hx : x < F.pixels) (hb : H b = some (.tup [.int (c : Int), .int (pl : Int)])) :
    ∃ v, DGet H t (.ref b) (some v) ∧ ∀ Q : VK, Q (.int (sbM p c x pl : Nat)) H → rIxL K v (.int (x : Int)) H Q := by
  obtain ⟨kvs, h1, h2⟩ := h
  obtain ⟨a, h3, h4⟩ := h2 c pl hc hp
  have hg := DGet.t (k := tk c pl) h1 hb
  rw [h3] at hg
  refine ⟨_, hg, fun Q q => ixL rfl (sq_of h4) (intsN_get (n := sbM p c x pl) ?_) q⟩
  unfold rowM
  rw [List.getElem?_map, List.getElem?_range hx]
  rfl
section
variable {P : Program} {w : World} {K : PySem.W.Frag} {mg : Str → Option Value} {base : Heap} {CF CP CA : Addr}
theorem getD_some {α : Type} {l : List α} {x : Nat} {d : α} (h : x < l.length) : l[x]? = some (l.getD x d) := by
  rw [List.getD_eq_getElem?_getD, List.getElem?_eq_getElem h]
  rfl
theorem sb_0 {p : Pic} {x pl : Nat} (hC : ¬ p.C = 1) : sbM p 0 x pl = gbM ((p.rows.getD 1 []).getD x 0) pl := by
  unfold sbM
  rw [if_neg hC, if_pos rfl]
theorem sb_1 {p : Pic} {x pl : Nat} (hC : ¬ p.C = 1) : sbM p 1 x pl = (gbM ((p.rows.getD 0 []).getD x 0) pl + gbM ((p.rows.getD 1 []).getD x 0) pl) % 2 := by
  unfold sbM
  rw [if_neg hC, if_neg (by decide), if_pos rfl]
theorem sb_2 {p : Pic} {x pl : Nat} (hC : ¬ p.C = 1) : sbM p 2 x pl = (gbM ((p.rows.getD 2 []).getD x 0) pl + gbM ((p.rows.getD 1 []).getD x 0) pl) % 2 := by
  unfold sbM
  rw [if_neg hC, if_neg (by decide), if_neg (by decide)]
def spValues (CF : Addr) : Sp := fun vs H Q _ => ∃ (a t : Addr) (F : Fr) (p : Pic) (c : Nat), vs = [.ref a, .ref t, .int (c : Int)] ∧ FrAt CF H a F ∧ F.ok ∧ p.ok ∧ Fits F p ∧ FullAt H t F p ∧ c < F.C ∧ ∀ l H', H l = none → Ex H H' → H' l = some (rowO (p.rows.getD c [])) → Q (.ref l) H'
theorem has_values (T : Top K mg CF CP CA) : Has P w K mg base CX0 2 "_values" ["frame", "table", "channel"] (spValues CF) := by
  obtain ⟨f_Frame_pixels, fd_Frame_pixels, mm_Frame_pixels, b_Frame_pixels, F_Frame_pixels⟩ := (has_Frame_pixels (P := P) (w := w) (base := base) T).ex
  have G_value_of := has_value_of (P := P) (w := w) (base := base) T
  refine has0 T.d_values sc_values (fun vs H Q E h => by
    repeat (obtain ⟨_, h⟩ := h)
    subst_vars
    rfl) fun f cdv A outer s H vs Q E hr h => ?_
  obtain ⟨a, t, F, p, c, rfl, hF, ok, okp, fits, hT, hc, q⟩ := h
  refine ⟨_, (pss_cons (ps_set (i := 3) sc_values.nd rfl (by first | exact .inl rfl | exact .inr rfl) (pe_listRevR T.n_list T.n_reversed (prg_1 rfl T.n_range (pe_fld (pv 0) rfl))))
      (pss_cons (ps_if (pt_cmpR op_eq (pe_fld (pv 0) rfl) pe_int (nomark _)) (pss_one (ps_ret (pe_lc (own := [("pixel", 5)]) rfl sc_values.nd (pi_range1 rfl T.n_range (pa_cons (pe_meth0 (pv 0) T.clF mm_Frame_pixels F_Frame_pixels (hr.mono (by decide)) b_Frame_pixels .nil pass0) pa_nil)) (blkOk_by (N := ["frame", "table", "channel", "planes", "plane", "pixel", "other", "found"]) (sc := defScope s_values) (by decide +kernel)) (fun _ _ _ _ _ => by exact (pg_name (i := 5) sc_values.nd rfl (by first | exact .inl rfl | exact .inr rfl))) (fun _ _ _ _ _ => by exact pts_nil) (fun _ _ _ _ _ => by exact (pe_has G_value_of (hr.mono (by decide)) (pa_cons (pe_lc (own := [("plane", 4)]) rfl sc_values.nd (pi_listK (K := K) rfl (pv 3)) (blkOk_by (N := ["frame", "table", "channel", "planes", "plane", "pixel", "other", "found"]) (sc := { kind := .function, names := [(".0", .local), ("pixel", .cell), ("value_of", .globalImplicit), ("planes", .cell), ("table", .cell)], isGenerator := false, isCoroutine := false }) (by decide +kernel)) (fun _ _ _ _ _ => by exact (pg_name (i := 4) sc_values.nd rfl (by first | exact .inl rfl | exact .inr rfl))) (fun _ _ _ _ _ => by exact pts_nil) (fun _ _ _ _ _ => by exact (pe_ix (ix_listK (K := K) rfl) (pe_dget (hu_of hr) (pv 1) (pe_tup (pa_cons pe_int (pa_cons (pv 4) pa_nil))) (fun _ _ => rfl)) (pv 5) (fun _ _ => rfl)))) pa_nil)))))) pss_nil)
      (pss_cons (ps_if (pt_cmpR op_eq (pv 2) pe_int (nomark _)) (pss_one (ps_ret (pe_lc (own := [("pixel", 5)]) rfl sc_values.nd (pi_range1 rfl T.n_range (pa_cons (pe_meth0 (pv 0) T.clF mm_Frame_pixels F_Frame_pixels (hr.mono (by decide)) b_Frame_pixels .nil pass0) pa_nil)) (blkOk_by (N := ["frame", "table", "channel", "planes", "plane", "pixel", "other", "found"]) (sc := defScope s_values) (by decide +kernel)) (fun _ _ _ _ _ => by exact (pg_name (i := 5) sc_values.nd rfl (by first | exact .inl rfl | exact .inr rfl))) (fun _ _ _ _ _ => by exact pts_nil) (fun _ _ _ _ _ => by exact (pe_has G_value_of (hr.mono (by decide)) (pa_cons (pe_lc (own := [("plane", 4)]) rfl sc_values.nd (pi_listK (K := K) rfl (pv 3)) (blkOk_by (N := ["frame", "table", "channel", "planes", "plane", "pixel", "other", "found"]) (sc := { kind := .function, names := [(".0", .local), ("pixel", .cell), ("value_of", .globalImplicit), ("planes", .cell), ("table", .cell)], isGenerator := false, isCoroutine := false }) (by decide +kernel)) (fun _ _ _ _ _ => by exact (pg_name (i := 4) sc_values.nd rfl (by first | exact .inl rfl | exact .inr rfl))) (fun _ _ _ _ _ => by exact pts_nil) (fun _ _ _ _ _ => by exact (pe_ix (ix_listK (K := K) rfl) (pe_dget (hu_of hr) (pv 1) (pe_tup (pa_cons pe_int (pa_cons (pv 4) pa_nil))) (fun _ _ => rfl)) (pv 5) (fun _ _ => rfl)))) pa_nil)))))) pss_nil)
      (pss_cons (ps_set (i := 6) sc_values.nd rfl (by first | exact .inl rfl | exact .inr rfl) (pe_ifExp (pt_cmpR op_eq (pv 2) pe_int (nomark _)) pe_int pe_int))
      (pss_cons (ps_set (i := 7) sc_values.nd rfl (by first | exact .inl rfl | exact .inr rfl) (pe_lst pa_nil))
      (pss_cons (ps_for PassesOwn.never rfl (pi_range1 rfl T.n_range (pa_cons (pe_meth0 (pv 0) T.clF mm_Frame_pixels F_Frame_pixels (hr.mono (by decide)) b_Frame_pixels .nil pass0) pa_nil)) (pg_name (i := 5) sc_values.nd rfl (by first | exact .inl rfl | exact .inr rfl)) (pss_one (ps_expr (pe_bm PySem.F.plainAttrs_list PySem.F.slot_list_append PySem.F.type_list_append mt_append (pv 7) (pa_cons (pe_has G_value_of (hr.mono (by decide)) (pa_cons (pe_lc (own := [("plane", 4)]) rfl sc_values.nd (pi_list (pv 3)) (blkOk_by (N := ["frame", "table", "channel", "planes", "plane", "pixel", "other", "found"]) (sc := defScope s_values) (by decide +kernel)) (fun _ _ _ _ _ => by exact (pg_name (i := 4) sc_values.nd rfl (by first | exact .inl rfl | exact .inr rfl))) (fun _ _ _ _ _ => by exact pts_nil) (fun _ _ _ _ _ => by exact (pe_op op_xor (pe_ix (ix_listK (K := K) rfl) (pe_dget (hu_of hr) (pv 1) (pe_tup (pa_cons pe_int (pa_cons (pv 4) pa_nil))) (fun _ _ => rfl)) (pv 5) (fun _ _ => rfl)) (pe_ix (ix_listK (K := K) rfl) (pe_dget (hu_of hr) (pv 1) (pe_tup (pa_cons (pv 6) (pa_cons (pv 4) pa_nil))) (fun _ _ => rfl)) (pv 5) (fun _ _ => rfl))))) pa_nil)) pa_nil)))))
      (pss_one (ps_ret (pv 7))))))))), ?_⟩
  simp only [tSeq, tAsg, tRet, tIfS, tTest, tOp, tUn, tVar, tC, tCons, tNil, tCB, tHas, gName, rI0, rI, rU, tNext, tNot, tAnd, tOr, tChain, tIf, tB, tNever, tRetN, tDrop, tTup, tLst, tMeth, tMake, tM0, tM1, tBits, tTruI, tBM, gSub, tSl, tNoPart, tPart, gcE, gnE, bs_length, tListRevR, tRg1, tFldE, sFldE, tPar3, cxK, nxK, List.append_nil, L2.start, List.map_cons, List.map_nil, List.length_cons, List.length_nil, List.replicate, List.cons_append, List.nil_append, List.getElem?_cons_zero, List.getElem?_cons_succ, List.set_cons_zero, List.set_cons_succ, Option.some.injEq, V.int.injEq, V.bl.injEq, V.str.injEq, V.ref.injEq, exists_eq_left', exists_eq_left, exists_and_left, List.cons.injEq, and_true, true_and, eq_self_iff_true, Nat.reduceAdd, Nat.reduceSub, Nat.zero_add, rEqI, rNeI, tAndV, tOrV, tNotV, natI, tDGet, tDIn, tDNotIn, sDPut, tDGet2, tDNewT, tDNewK, frE T hF]
  have hb := ok.b
  obtain ⟨o1, o2, o3, o4, o5, o6⟩ := id okp
  have hpx : F.pixels = p.W * p.Hh := by unfold Fr.pixels; rw [fits.1, fits.2.1]
  have hpx16 : F.pixels ≤ 16 := by
    have := Nat.mul_le_mul (show F.W ≤ 4 by omega) (show F.Hh ≤ 4 by omega)
    unfold Fr.pixels
    omega
  have hfc : F.C = p.C := fits.2.2.2
  have hfd : F.D = p.D := fits.2.2.1
  have hrc : p.rows[c]? = some (p.rows.getD c []) := by
    have : c < p.rows.length := by omega
    simp [this]
  have hrow := o6 _ (List.mem_of_getElem? hrc)
  have hrl : (p.rows.getD c []).length = F.pixels := by rw [hrow.1, hpx]
  have hval : ∀ x, x < F.pixels → (p.rows.getD c []).getD x 0 < 2 ^ F.D := fun x hx => by
    have h1 : (p.rows.getD c [])[x]? = some ((p.rows.getD c []).getD x 0) := getD_some (by omega)
    rw [hfd]
    exact hrow.2 _ (List.mem_of_getElem? h1)
  have hdl : (dnV F.D).length = F.D := by simp [dnV]
  have hdn : ∀ {i y}, (dnV F.D)[i]? = some y → i < F.D ∧ y = .int ((F.D - 1 - i : Nat) : Int) := fun {i y} hy => by
    have hi : i < F.D := by rw [← hdl]; exact (List.getElem?_eq_some_iff.mp hy).1
    unfold dnV at hy
    rw [List.getElem?_map, List.getElem?_range hi] at hy
    refine ⟨hi, (Option.some.inj hy).symm.trans ?_⟩
    show V.int ((F.D : Int) - 1 - (i : Int)) = _
    congr 1
    omega
  refine ⟨by omega, fun pl hpl => ?_⟩
  have hF1 := hF.mono (Ex.new (o := .lst (dnV F.D)) hpl)
  have hT1 := hT.mono (Ex.new (o := .lst (dnV F.D)) hpl)
  obtain ⟨dx, hF10⟩ := id hF1
  simp only [tSeq, tAsg, tRet, tIfS, tTest, tOp, tUn, tVar, tC, tCons, tNil, tCB, tHas, gName, rI0, rI, rU, tNext, tNot, tAnd, tOr, tChain, tIf, tB, tNever, tRetN, tDrop, tTup, tLst, tMeth, tMake, tM0, tM1, tBits, tTruI, tBM, gSub, tSl, tNoPart, tPart, gcE, gnE, bs_length, tListRevR, tRg1, tFldE, sFldE, tPar3, cxK, nxK, List.append_nil, L2.start, List.map_cons, List.map_nil, List.length_cons, List.length_nil, List.replicate, List.cons_append, List.nil_append, List.getElem?_cons_zero, List.getElem?_cons_succ, List.set_cons_zero, List.set_cons_succ, Option.some.injEq, V.int.injEq, V.bl.injEq, V.str.injEq, V.ref.injEq, exists_eq_left', exists_eq_left, exists_and_left, List.cons.injEq, and_true, true_and, eq_self_iff_true, Nat.reduceAdd, Nat.reduceSub, Nat.zero_add, rEqI, rNeI, tAndV, tOrV, tNotV, natI, tDGet, tDIn, tDNotIn, sDPut, tDGet2, tDNewT, tDNewK, frE T hF1]
  by_cases c1 : F.C = 1
  · rw [if_pos (by simp [c1])]
    have hsb : ∀ x pl, sbM p 0 x pl = gbM ((p.rows.getD c []).getD x 0) pl := fun x pl => by
      unfold sbM
      rw [if_pos (by omega), show c = 0 by omega]
    refine lc_rng (k := F.pixels) (fun Q q => ?_) (by omega) (fun x => .int ((p.rows.getD c []).getD x 0 : Nat)) (fun _ => rfl) ?_ ?_
    · simp only [tSeq, tAsg, tRet, tIfS, tTest, tOp, tUn, tVar, tC, tCons, tNil, tCB, tHas, gName, rI0, rI, rU, tNext, tNot, tAnd, tOr, tChain, tIf, tB, tNever, tRetN, tDrop, tTup, tLst, tMeth, tMake, tM0, tM1, tBits, tTruI, tBM, gSub, tSl, tNoPart, tPart, gcE, gnE, bs_length, tListRevR, tRg1, tFldE, sFldE, tPar3, cxK, nxK, List.append_nil, L2.start, List.map_cons, List.map_nil, List.length_cons, List.length_nil, List.replicate, List.cons_append, List.nil_append, List.getElem?_cons_zero, List.getElem?_cons_succ, List.set_cons_zero, List.set_cons_succ, Option.some.injEq, V.int.injEq, V.bl.injEq, V.str.injEq, V.ref.injEq, exists_eq_left', exists_eq_left, exists_and_left, List.cons.injEq, and_true, true_and, eq_self_iff_true, Nat.reduceAdd, Nat.reduceSub, Nat.zero_add, rEqI, rNeI, tAndV, tOrV, tNotV, natI, tDGet, tDIn, tDNotIn, sDPut, tDGet2, tDNewT, tDNewK]
      exact ⟨dx, fsF F, hF10, rfl, a, F, rfl, hF1, ok, q⟩
    · intro x H2 R hx e2 hR
      simp only [wipe, List.set_cons_zero, List.set_cons_succ, List.foldl_cons, List.foldl_nil]
      simp only [tSeq, tAsg, tRet, tIfS, tTest, tOp, tUn, tVar, tC, tCons, tNil, tCB, tHas, gName, rI0, rI, rU, tNext, tNot, tAnd, tOr, tChain, tIf, tB, tNever, tRetN, tDrop, tTup, tLst, tMeth, tMake, tM0, tM1, tBits, tTruI, tBM, gSub, tSl, tNoPart, tPart, gcE, gnE, bs_length, tListRevR, tRg1, tFldE, sFldE, tPar3, cxK, nxK, List.append_nil, L2.start, List.map_cons, List.map_nil, List.length_cons, List.length_nil, List.replicate, List.cons_append, List.nil_append, List.getElem?_cons_zero, List.getElem?_cons_succ, List.set_cons_zero, List.set_cons_succ, Option.some.injEq, V.int.injEq, V.bl.injEq, V.str.injEq, V.ref.injEq, exists_eq_left', exists_eq_left, exists_and_left, List.cons.injEq, and_true, true_and, eq_self_iff_true, Nat.reduceAdd, Nat.reduceSub, Nat.zero_add, rEqI, rNeI, tAndV, tOrV, tNotV, natI, tDGet, tDIn, tDNotIn, sDPut, tDGet2, tDNewT, tDNewK]
      refine lc_list' (a := pl) (xs := dnV F.D) (fun Q q => ⟨_, rfl, q⟩) (sq_of (e2 _ _ upd_same)) (by rw [hdl]; omega) (fun i => .int (gbM ((p.rows.getD c []).getD x 0) (F.D - 1 - i) : Nat)) (fun _ => rfl) ?_ ?_
      · intro i y H3 R2 hy e3 hR2
        obtain ⟨hi, rfl⟩ := hdn hy
        simp only [wipe, List.set_cons_zero, List.set_cons_succ, List.foldl_cons, List.foldl_nil]
        simp only [tSeq, tAsg, tRet, tIfS, tTest, tOp, tUn, tVar, tC, tCons, tNil, tCB, tHas, gName, rI0, rI, rU, tNext, tNot, tAnd, tOr, tChain, tIf, tB, tNever, tRetN, tDrop, tTup, tLst, tMeth, tMake, tM0, tM1, tBits, tTruI, tBM, gSub, tSl, tNoPart, tPart, gcE, gnE, bs_length, tListRevR, tRg1, tFldE, sFldE, tPar3, cxK, nxK, List.append_nil, L2.start, List.map_cons, List.map_nil, List.length_cons, List.length_nil, List.replicate, List.cons_append, List.nil_append, List.getElem?_cons_zero, List.getElem?_cons_succ, List.set_cons_zero, List.set_cons_succ, Option.some.injEq, V.int.injEq, V.bl.injEq, V.str.injEq, V.ref.injEq, exists_eq_left', exists_eq_left, exists_and_left, List.cons.injEq, and_true, true_and, eq_self_iff_true, Nat.reduceAdd, Nat.reduceSub, Nat.zero_add, rEqI, rNeI, tAndV, tOrV, tNotV, natI, tDGet, tDIn, tDNotIn, sDPut, tDGet2, tDNewT, tDNewK]
        refine ⟨by decide, fun p4 hp4 => ?_⟩
        obtain ⟨v, hv, hq⟩ := ((hT1.mono (e2.trans e3)).mono (Ex.new hp4)).at' (K := K) (c := 0) (pl := F.D - 1 - i) (x := x) (by omega) (by omega) hx upd_same
        refine ⟨v, hv, hq _ ?_⟩
        rw [hsb x (F.D - 1 - i)]
        exact hR2 _ (Ex.new hp4)
      · intro l H3 hl e3 hl3
        have he : (List.range (dnV F.D).length).map (fun i => V.int (gbM ((p.rows.getD c []).getD x 0) (F.D - 1 - i) : Nat)) = intsN ((List.range F.D).map fun i => gbM ((p.rows.getD c []).getD x 0) (F.D - 1 - i)) := by
          rw [hdl]
          unfold intsN
          rw [List.map_map]
          rfl
        rw [he] at hl3
        refine ⟨l, _, rfl, hl3, by simp; omega, fun g hg => ?_, ?_⟩
        · obtain ⟨i, _, rfl⟩ := List.mem_map.mp hg
          exact gb_lt _ _
        · rw [decode (by omega) (by omega) (hval x hx)]
          exact hR H3 e3
    · intro l H2 hl e2 hl2
      refine q l H2 (fresh_back (Ex.new hpl) hl) ((Ex.new hpl).trans e2) (hl2.trans ?_)
      rw [← hrl, range_getF (f := fun n : Nat => V.int (n : Int))]
      rfl
  rw [if_neg (by simp; omega)]
  by_cases c2 : c = 1
  · rw [if_pos (by simp [c2])]
    have hsb : ∀ x pl, sbM p 0 x pl = gbM ((p.rows.getD c []).getD x 0) pl := fun x pl => by
      unfold sbM
      rw [if_neg (by omega), if_pos rfl, c2]
    refine lc_rng (k := F.pixels) (fun Q q => ?_) (by omega) (fun x => .int ((p.rows.getD c []).getD x 0 : Nat)) (fun _ => rfl) ?_ ?_
    · simp only [tSeq, tAsg, tRet, tIfS, tTest, tOp, tUn, tVar, tC, tCons, tNil, tCB, tHas, gName, rI0, rI, rU, tNext, tNot, tAnd, tOr, tChain, tIf, tB, tNever, tRetN, tDrop, tTup, tLst, tMeth, tMake, tM0, tM1, tBits, tTruI, tBM, gSub, tSl, tNoPart, tPart, gcE, gnE, bs_length, tListRevR, tRg1, tFldE, sFldE, tPar3, cxK, nxK, List.append_nil, L2.start, List.map_cons, List.map_nil, List.length_cons, List.length_nil, List.replicate, List.cons_append, List.nil_append, List.getElem?_cons_zero, List.getElem?_cons_succ, List.set_cons_zero, List.set_cons_succ, Option.some.injEq, V.int.injEq, V.bl.injEq, V.str.injEq, V.ref.injEq, exists_eq_left', exists_eq_left, exists_and_left, List.cons.injEq, and_true, true_and, eq_self_iff_true, Nat.reduceAdd, Nat.reduceSub, Nat.zero_add, rEqI, rNeI, tAndV, tOrV, tNotV, natI, tDGet, tDIn, tDNotIn, sDPut, tDGet2, tDNewT, tDNewK]
      exact ⟨dx, fsF F, hF10, rfl, a, F, rfl, hF1, ok, q⟩
    · intro x H2 R hx e2 hR
      simp only [wipe, List.set_cons_zero, List.set_cons_succ, List.foldl_cons, List.foldl_nil]
      simp only [tSeq, tAsg, tRet, tIfS, tTest, tOp, tUn, tVar, tC, tCons, tNil, tCB, tHas, gName, rI0, rI, rU, tNext, tNot, tAnd, tOr, tChain, tIf, tB, tNever, tRetN, tDrop, tTup, tLst, tMeth, tMake, tM0, tM1, tBits, tTruI, tBM, gSub, tSl, tNoPart, tPart, gcE, gnE, bs_length, tListRevR, tRg1, tFldE, sFldE, tPar3, cxK, nxK, List.append_nil, L2.start, List.map_cons, List.map_nil, List.length_cons, List.length_nil, List.replicate, List.cons_append, List.nil_append, List.getElem?_cons_zero, List.getElem?_cons_succ, List.set_cons_zero, List.set_cons_succ, Option.some.injEq, V.int.injEq, V.bl.injEq, V.str.injEq, V.ref.injEq, exists_eq_left', exists_eq_left, exists_and_left, List.cons.injEq, and_true, true_and, eq_self_iff_true, Nat.reduceAdd, Nat.reduceSub, Nat.zero_add, rEqI, rNeI, tAndV, tOrV, tNotV, natI, tDGet, tDIn, tDNotIn, sDPut, tDGet2, tDNewT, tDNewK]
      refine lc_list' (a := pl) (xs := dnV F.D) (fun Q q => ⟨_, rfl, q⟩) (sq_of (e2 _ _ upd_same)) (by rw [hdl]; omega) (fun i => .int (gbM ((p.rows.getD c []).getD x 0) (F.D - 1 - i) : Nat)) (fun _ => rfl) ?_ ?_
      · intro i y H3 R2 hy e3 hR2
        obtain ⟨hi, rfl⟩ := hdn hy
        simp only [wipe, List.set_cons_zero, List.set_cons_succ, List.foldl_cons, List.foldl_nil]
        simp only [tSeq, tAsg, tRet, tIfS, tTest, tOp, tUn, tVar, tC, tCons, tNil, tCB, tHas, gName, rI0, rI, rU, tNext, tNot, tAnd, tOr, tChain, tIf, tB, tNever, tRetN, tDrop, tTup, tLst, tMeth, tMake, tM0, tM1, tBits, tTruI, tBM, gSub, tSl, tNoPart, tPart, gcE, gnE, bs_length, tListRevR, tRg1, tFldE, sFldE, tPar3, cxK, nxK, List.append_nil, L2.start, List.map_cons, List.map_nil, List.length_cons, List.length_nil, List.replicate, List.cons_append, List.nil_append, List.getElem?_cons_zero, List.getElem?_cons_succ, List.set_cons_zero, List.set_cons_succ, Option.some.injEq, V.int.injEq, V.bl.injEq, V.str.injEq, V.ref.injEq, exists_eq_left', exists_eq_left, exists_and_left, List.cons.injEq, and_true, true_and, eq_self_iff_true, Nat.reduceAdd, Nat.reduceSub, Nat.zero_add, rEqI, rNeI, tAndV, tOrV, tNotV, natI, tDGet, tDIn, tDNotIn, sDPut, tDGet2, tDNewT, tDNewK]
        refine ⟨by decide, fun p4 hp4 => ?_⟩
        obtain ⟨v, hv, hq⟩ := ((hT1.mono (e2.trans e3)).mono (Ex.new hp4)).at' (K := K) (c := 0) (pl := F.D - 1 - i) (x := x) (by omega) (by omega) hx upd_same
        refine ⟨v, hv, hq _ ?_⟩
        rw [hsb x (F.D - 1 - i)]
        exact hR2 _ (Ex.new hp4)
      · intro l H3 hl e3 hl3
        have he : (List.range (dnV F.D).length).map (fun i => V.int (gbM ((p.rows.getD c []).getD x 0) (F.D - 1 - i) : Nat)) = intsN ((List.range F.D).map fun i => gbM ((p.rows.getD c []).getD x 0) (F.D - 1 - i)) := by
          rw [hdl]
          unfold intsN
          rw [List.map_map]
          rfl
        rw [he] at hl3
        refine ⟨l, _, rfl, hl3, by simp; omega, fun g hg => ?_, ?_⟩
        · obtain ⟨i, _, rfl⟩ := List.mem_map.mp hg
          exact gb_lt _ _
        · rw [decode (by omega) (by omega) (hval x hx)]
          exact hR H3 e3
    · intro l H2 hl e2 hl2
      refine q l H2 (fresh_back (Ex.new hpl) hl) ((Ex.new hpl).trans e2) (hl2.trans ?_)
      rw [← hrl, range_getF (f := fun n : Nat => V.int (n : Int))]
      rfl
  rw [if_neg (by simp; omega)]
  by_cases c3 : c = 0
  · rw [if_pos (by simp [c3])]
    have hsb : ∀ x pl, (sbM p 0 x pl + sbM p 1 x pl) % 2 = gbM ((p.rows.getD c []).getD x 0) pl := fun x pl => by
      rw [sb_0 (by omega), sb_1 (by omega), c3]
      have h1 := gb_lt ((p.rows.getD 0 []).getD x 0) pl
      have h2 := gb_lt ((p.rows.getD 1 []).getD x 0) pl
      omega
    refine ⟨by decide, fun pf hpf => ?_⟩
    have hF2 := hF1.mono (Ex.new (o := .lst []) hpf)
    have hT2 := hT1.mono (Ex.new (o := .lst []) hpf)
    obtain ⟨dx2, hF20⟩ := id hF2
    have hplf : pl ≠ pf := ne_of_none (upd_same (H := H) (a := pl) (o := .lst (dnV F.D))) hpf
    refine s_rng (n := F.pixels) (fun Q q => ?_) (by omega) (fun x σ' H' => Ex (upd H pl (.lst (dnV F.D))) H' ∧ H' pf = some (.lst ((List.range x).map fun x => V.int ((p.rows.getD c []).getD x 0 : Nat))) ∧ ∃ v5, σ' = [some (.ref a), some (.ref t), some (.int (c : Int)), some (.ref pl), none, v5, some (.int 1), some (.ref pf)])
      ⟨Ex.new hpf, upd_same, _, rfl⟩ ?_ ?_
    · simp only [tSeq, tAsg, tRet, tIfS, tTest, tOp, tUn, tVar, tC, tCons, tNil, tCB, tHas, gName, rI0, rI, rU, tNext, tNot, tAnd, tOr, tChain, tIf, tB, tNever, tRetN, tDrop, tTup, tLst, tMeth, tMake, tM0, tM1, tBits, tTruI, tBM, gSub, tSl, tNoPart, tPart, gcE, gnE, bs_length, tListRevR, tRg1, tFldE, sFldE, tPar3, cxK, nxK, List.append_nil, L2.start, List.map_cons, List.map_nil, List.length_cons, List.length_nil, List.replicate, List.cons_append, List.nil_append, List.getElem?_cons_zero, List.getElem?_cons_succ, List.set_cons_zero, List.set_cons_succ, Option.some.injEq, V.int.injEq, V.bl.injEq, V.str.injEq, V.ref.injEq, exists_eq_left', exists_eq_left, exists_and_left, List.cons.injEq, and_true, true_and, eq_self_iff_true, Nat.reduceAdd, Nat.reduceSub, Nat.zero_add, rEqI, rNeI, tAndV, tOrV, tNotV, natI, tDGet, tDIn, tDNotIn, sDPut, tDGet2, tDNewT, tDNewK]
      exact ⟨dx2, fsF F, hF20, rfl, a, F, rfl, hF2, ok, q⟩
    · rintro x σ' H2 hx ⟨e2, hf2, v5, rfl⟩
      simp only [tSeq, tAsg, tRet, tIfS, tTest, tOp, tUn, tVar, tC, tCons, tNil, tCB, tHas, gName, rI0, rI, rU, tNext, tNot, tAnd, tOr, tChain, tIf, tB, tNever, tRetN, tDrop, tTup, tLst, tMeth, tMake, tM0, tM1, tBits, tTruI, tBM, gSub, tSl, tNoPart, tPart, gcE, gnE, bs_length, tListRevR, tRg1, tFldE, sFldE, tPar3, cxK, nxK, List.append_nil, L2.start, List.map_cons, List.map_nil, List.length_cons, List.length_nil, List.replicate, List.cons_append, List.nil_append, List.getElem?_cons_zero, List.getElem?_cons_succ, List.set_cons_zero, List.set_cons_succ, Option.some.injEq, V.int.injEq, V.bl.injEq, V.str.injEq, V.ref.injEq, exists_eq_left', exists_eq_left, exists_and_left, List.cons.injEq, and_true, true_and, eq_self_iff_true, Nat.reduceAdd, Nat.reduceSub, Nat.zero_add, rEqI, rNeI, tAndV, tOrV, tNotV, natI, tDGet, tDIn, tDNotIn, sDPut, tDGet2, tDNewT, tDNewK]
      refine ⟨.inl ⟨rfl, _, sq_of hf2⟩, ?_⟩
      refine lc_list' (a := pl) (xs := dnV F.D) (fun Q q => ⟨_, rfl, q⟩) (sq_of (e2 _ _ upd_same)) (by rw [hdl]; omega) (fun i => .int (gbM ((p.rows.getD c []).getD x 0) (F.D - 1 - i) : Nat)) (fun _ => rfl) ?_ ?_
      · intro i y H3 R2 hy e3 hR2
        obtain ⟨hi, rfl⟩ := hdn hy
        simp only [wipe, List.set_cons_zero, List.set_cons_succ, List.foldl_cons, List.foldl_nil]
        simp only [tSeq, tAsg, tRet, tIfS, tTest, tOp, tUn, tVar, tC, tCons, tNil, tCB, tHas, gName, rI0, rI, rU, tNext, tNot, tAnd, tOr, tChain, tIf, tB, tNever, tRetN, tDrop, tTup, tLst, tMeth, tMake, tM0, tM1, tBits, tTruI, tBM, gSub, tSl, tNoPart, tPart, gcE, gnE, bs_length, tListRevR, tRg1, tFldE, sFldE, tPar3, cxK, nxK, List.append_nil, L2.start, List.map_cons, List.map_nil, List.length_cons, List.length_nil, List.replicate, List.cons_append, List.nil_append, List.getElem?_cons_zero, List.getElem?_cons_succ, List.set_cons_zero, List.set_cons_succ, Option.some.injEq, V.int.injEq, V.bl.injEq, V.str.injEq, V.ref.injEq, exists_eq_left', exists_eq_left, exists_and_left, List.cons.injEq, and_true, true_and, eq_self_iff_true, Nat.reduceAdd, Nat.reduceSub, Nat.zero_add, rEqI, rNeI, tAndV, tOrV, tNotV, natI, tDGet, tDIn, tDNotIn, sDPut, tDGet2, tDNewT, tDNewK]
        refine ⟨by decide, fun p4 hp4 => ?_⟩
        have hT4 := (hT1.mono (e2.trans e3)).mono (Ex.new (o := .tup [.int 0, .int ((F.D - 1 - i : Nat) : Int)]) hp4)
        obtain ⟨v, hv, hq⟩ := hT4.at' (K := K) (c := 0) (pl := F.D - 1 - i) (x := x) (by omega) (by omega) hx upd_same
        refine ⟨v, hv, hq _ ⟨by decide, fun p5 hp5 => ?_⟩⟩
        obtain ⟨v2, hv2, hq2⟩ := (hT4.mono (Ex.new (o := .tup [.int 1, .int ((F.D - 1 - i : Nat) : Int)]) hp5)).at' (K := K) (c := 1) (pl := F.D - 1 - i) (x := x) (by omega) (by omega) hx upd_same
        refine ⟨v2, hv2, hq2 _ ?_⟩
        refine ⟨_, rfl, _, rfl, ?_⟩
        rw [xor_bit (sb_lt _ _ _ _) (sb_lt _ _ _ _), hsb x (F.D - 1 - i)]
        exact hR2 _ ((Ex.new hp4).trans (Ex.new hp5))
      · intro l H3 hl e3 hl3
        have he : (List.range (dnV F.D).length).map (fun i => V.int (gbM ((p.rows.getD c []).getD x 0) (F.D - 1 - i) : Nat)) = intsN ((List.range F.D).map fun i => gbM ((p.rows.getD c []).getD x 0) (F.D - 1 - i)) := by
          rw [hdl]
          unfold intsN
          rw [List.map_map]
          rfl
        rw [he] at hl3
        refine ⟨l, _, rfl, hl3, by simp; omega, fun g hg => ?_, ?_⟩
        · obtain ⟨i, _, rfl⟩ := List.mem_map.mp hg
          exact gb_lt _ _
        · rw [decode (by omega) (by omega) (hval x hx)]
          refine ⟨pf, _, _, rfl, rfl, e3 _ _ hf2, by simp; exact sz_lt (by omega), Ex.mut (e2.trans e3) hpf, ?_, _, rfl⟩
          rw [upd_same, map_snoc]
    · rintro σ' H2 ⟨e2, hf2, v5, rfl⟩
      simp only [tSeq, tAsg, tRet, tIfS, tTest, tOp, tUn, tVar, tC, tCons, tNil, tCB, tHas, gName, rI0, rI, rU, tNext, tNot, tAnd, tOr, tChain, tIf, tB, tNever, tRetN, tDrop, tTup, tLst, tMeth, tMake, tM0, tM1, tBits, tTruI, tBM, gSub, tSl, tNoPart, tPart, gcE, gnE, bs_length, tListRevR, tRg1, tFldE, sFldE, tPar3, cxK, nxK, List.append_nil, L2.start, List.map_cons, List.map_nil, List.length_cons, List.length_nil, List.replicate, List.cons_append, List.nil_append, List.getElem?_cons_zero, List.getElem?_cons_succ, List.set_cons_zero, List.set_cons_succ, Option.some.injEq, V.int.injEq, V.bl.injEq, V.str.injEq, V.ref.injEq, exists_eq_left', exists_eq_left, exists_and_left, List.cons.injEq, and_true, true_and, eq_self_iff_true, Nat.reduceAdd, Nat.reduceSub, Nat.zero_add, rEqI, rNeI, tAndV, tOrV, tNotV, natI, tDGet, tDIn, tDNotIn, sDPut, tDGet2, tDNewT, tDNewK]
      refine q pf H2 (fresh_back (Ex.new hpl) hpf) ((Ex.new hpl).trans e2) (hf2.trans ?_)
      rw [← hrl, range_getF (f := fun n : Nat => V.int (n : Int))]
      rfl
  · rw [if_neg (by simp; omega)]
    have hsb : ∀ x pl, (sbM p 0 x pl + sbM p 2 x pl) % 2 = gbM ((p.rows.getD c []).getD x 0) pl := fun x pl => by
      rw [sb_0 (by omega), sb_2 (by omega), show c = 2 by omega]
      have h1 := gb_lt ((p.rows.getD 2 []).getD x 0) pl
      have h2 := gb_lt ((p.rows.getD 1 []).getD x 0) pl
      omega
    refine ⟨by decide, fun pf hpf => ?_⟩
    have hF2 := hF1.mono (Ex.new (o := .lst []) hpf)
    have hT2 := hT1.mono (Ex.new (o := .lst []) hpf)
    obtain ⟨dx2, hF20⟩ := id hF2
    have hplf : pl ≠ pf := ne_of_none (upd_same (H := H) (a := pl) (o := .lst (dnV F.D))) hpf
    refine s_rng (n := F.pixels) (fun Q q => ?_) (by omega) (fun x σ' H' => Ex (upd H pl (.lst (dnV F.D))) H' ∧ H' pf = some (.lst ((List.range x).map fun x => V.int ((p.rows.getD c []).getD x 0 : Nat))) ∧ ∃ v5, σ' = [some (.ref a), some (.ref t), some (.int (c : Int)), some (.ref pl), none, v5, some (.int 2), some (.ref pf)])
      ⟨Ex.new hpf, upd_same, _, rfl⟩ ?_ ?_
    · simp only [tSeq, tAsg, tRet, tIfS, tTest, tOp, tUn, tVar, tC, tCons, tNil, tCB, tHas, gName, rI0, rI, rU, tNext, tNot, tAnd, tOr, tChain, tIf, tB, tNever, tRetN, tDrop, tTup, tLst, tMeth, tMake, tM0, tM1, tBits, tTruI, tBM, gSub, tSl, tNoPart, tPart, gcE, gnE, bs_length, tListRevR, tRg1, tFldE, sFldE, tPar3, cxK, nxK, List.append_nil, L2.start, List.map_cons, List.map_nil, List.length_cons, List.length_nil, List.replicate, List.cons_append, List.nil_append, List.getElem?_cons_zero, List.getElem?_cons_succ, List.set_cons_zero, List.set_cons_succ, Option.some.injEq, V.int.injEq, V.bl.injEq, V.str.injEq, V.ref.injEq, exists_eq_left', exists_eq_left, exists_and_left, List.cons.injEq, and_true, true_and, eq_self_iff_true, Nat.reduceAdd, Nat.reduceSub, Nat.zero_add, rEqI, rNeI, tAndV, tOrV, tNotV, natI, tDGet, tDIn, tDNotIn, sDPut, tDGet2, tDNewT, tDNewK]
      exact ⟨dx2, fsF F, hF20, rfl, a, F, rfl, hF2, ok, q⟩
    · rintro x σ' H2 hx ⟨e2, hf2, v5, rfl⟩
      simp only [tSeq, tAsg, tRet, tIfS, tTest, tOp, tUn, tVar, tC, tCons, tNil, tCB, tHas, gName, rI0, rI, rU, tNext, tNot, tAnd, tOr, tChain, tIf, tB, tNever, tRetN, tDrop, tTup, tLst, tMeth, tMake, tM0, tM1, tBits, tTruI, tBM, gSub, tSl, tNoPart, tPart, gcE, gnE, bs_length, tListRevR, tRg1, tFldE, sFldE, tPar3, cxK, nxK, List.append_nil, L2.start, List.map_cons, List.map_nil, List.length_cons, List.length_nil, List.replicate, List.cons_append, List.nil_append, List.getElem?_cons_zero, List.getElem?_cons_succ, List.set_cons_zero, List.set_cons_succ, Option.some.injEq, V.int.injEq, V.bl.injEq, V.str.injEq, V.ref.injEq, exists_eq_left', exists_eq_left, exists_and_left, List.cons.injEq, and_true, true_and, eq_self_iff_true, Nat.reduceAdd, Nat.reduceSub, Nat.zero_add, rEqI, rNeI, tAndV, tOrV, tNotV, natI, tDGet, tDIn, tDNotIn, sDPut, tDGet2, tDNewT, tDNewK]
      refine ⟨.inl ⟨rfl, _, sq_of hf2⟩, ?_⟩
      refine lc_list' (a := pl) (xs := dnV F.D) (fun Q q => ⟨_, rfl, q⟩) (sq_of (e2 _ _ upd_same)) (by rw [hdl]; omega) (fun i => .int (gbM ((p.rows.getD c []).getD x 0) (F.D - 1 - i) : Nat)) (fun _ => rfl) ?_ ?_
      · intro i y H3 R2 hy e3 hR2
        obtain ⟨hi, rfl⟩ := hdn hy
        simp only [wipe, List.set_cons_zero, List.set_cons_succ, List.foldl_cons, List.foldl_nil]
        simp only [tSeq, tAsg, tRet, tIfS, tTest, tOp, tUn, tVar, tC, tCons, tNil, tCB, tHas, gName, rI0, rI, rU, tNext, tNot, tAnd, tOr, tChain, tIf, tB, tNever, tRetN, tDrop, tTup, tLst, tMeth, tMake, tM0, tM1, tBits, tTruI, tBM, gSub, tSl, tNoPart, tPart, gcE, gnE, bs_length, tListRevR, tRg1, tFldE, sFldE, tPar3, cxK, nxK, List.append_nil, L2.start, List.map_cons, List.map_nil, List.length_cons, List.length_nil, List.replicate, List.cons_append, List.nil_append, List.getElem?_cons_zero, List.getElem?_cons_succ, List.set_cons_zero, List.set_cons_succ, Option.some.injEq, V.int.injEq, V.bl.injEq, V.str.injEq, V.ref.injEq, exists_eq_left', exists_eq_left, exists_and_left, List.cons.injEq, and_true, true_and, eq_self_iff_true, Nat.reduceAdd, Nat.reduceSub, Nat.zero_add, rEqI, rNeI, tAndV, tOrV, tNotV, natI, tDGet, tDIn, tDNotIn, sDPut, tDGet2, tDNewT, tDNewK]
        refine ⟨by decide, fun p4 hp4 => ?_⟩
        have hT4 := (hT1.mono (e2.trans e3)).mono (Ex.new (o := .tup [.int 0, .int ((F.D - 1 - i : Nat) : Int)]) hp4)
        obtain ⟨v, hv, hq⟩ := hT4.at' (K := K) (c := 0) (pl := F.D - 1 - i) (x := x) (by omega) (by omega) hx upd_same
        refine ⟨v, hv, hq _ ⟨by decide, fun p5 hp5 => ?_⟩⟩
        obtain ⟨v2, hv2, hq2⟩ := (hT4.mono (Ex.new (o := .tup [.int 2, .int ((F.D - 1 - i : Nat) : Int)]) hp5)).at' (K := K) (c := 2) (pl := F.D - 1 - i) (x := x) (by omega) (by omega) hx upd_same
        refine ⟨v2, hv2, hq2 _ ?_⟩
        refine ⟨_, rfl, _, rfl, ?_⟩
        rw [xor_bit (sb_lt _ _ _ _) (sb_lt _ _ _ _), hsb x (F.D - 1 - i)]
        exact hR2 _ ((Ex.new hp4).trans (Ex.new hp5))
      · intro l H3 hl e3 hl3
        have he : (List.range (dnV F.D).length).map (fun i => V.int (gbM ((p.rows.getD c []).getD x 0) (F.D - 1 - i) : Nat)) = intsN ((List.range F.D).map fun i => gbM ((p.rows.getD c []).getD x 0) (F.D - 1 - i)) := by
          rw [hdl]
          unfold intsN
          rw [List.map_map]
          rfl
        rw [he] at hl3
        refine ⟨l, _, rfl, hl3, by simp; omega, fun g hg => ?_, ?_⟩
        · obtain ⟨i, _, rfl⟩ := List.mem_map.mp hg
          exact gb_lt _ _
        · rw [decode (by omega) (by omega) (hval x hx)]
          refine ⟨pf, _, _, rfl, rfl, e3 _ _ hf2, by simp; exact sz_lt (by omega), Ex.mut (e2.trans e3) hpf, ?_, _, rfl⟩
          rw [upd_same, map_snoc]
    · rintro σ' H2 ⟨e2, hf2, v5, rfl⟩
      simp only [tSeq, tAsg, tRet, tIfS, tTest, tOp, tUn, tVar, tC, tCons, tNil, tCB, tHas, gName, rI0, rI, rU, tNext, tNot, tAnd, tOr, tChain, tIf, tB, tNever, tRetN, tDrop, tTup, tLst, tMeth, tMake, tM0, tM1, tBits, tTruI, tBM, gSub, tSl, tNoPart, tPart, gcE, gnE, bs_length, tListRevR, tRg1, tFldE, sFldE, tPar3, cxK, nxK, List.append_nil, L2.start, List.map_cons, List.map_nil, List.length_cons, List.length_nil, List.replicate, List.cons_append, List.nil_append, List.getElem?_cons_zero, List.getElem?_cons_succ, List.set_cons_zero, List.set_cons_succ, Option.some.injEq, V.int.injEq, V.bl.injEq, V.str.injEq, V.ref.injEq, exists_eq_left', exists_eq_left, exists_and_left, List.cons.injEq, and_true, true_and, eq_self_iff_true, Nat.reduceAdd, Nat.reduceSub, Nat.zero_add, rEqI, rNeI, tAndV, tOrV, tNotV, natI, tDGet, tDIn, tDNotIn, sDPut, tDGet2, tDNewT, tDNewK]
      refine q pf H2 (fresh_back (Ex.new hpl) hpf) ((Ex.new hpl).trans e2) (hf2.trans ?_)
      rw [← hrl, range_getF (f := fun n : Nat => V.int (n : Int))]
      rfl
end
end PK


set_option maxHeartbeats 4000000
namespace PK
open PySem PySem.Spec PyProof.Rows L2 Evl
local macro_rules | `(tactic| walk_at "rd") => `(tactic| simp only [tSeq, tAsg, tRet, tIfS, tTest, tOp, tUn, tVar, tC, tCons, tNil, tCB, tHas, gName, rI0, rI, rU, tNext, tNot, tAnd, tOr, tChain, tIf, tB, tNever, tRetN, tDrop, tTup, tLst, tMeth, tMake, tM0, tM1, tBits, tTruI, tBM, gSub, tSl, tNoPart, tPart, gcE, gnE, bs_length, tListRevR, tRg1, tFldE, sFldE, tPar3, cxK, nxK, List.append_nil,
  L2.start, List.map_cons, List.map_nil, List.length_cons, List.length_nil, List.replicate, List.cons_append, List.nil_append, List.getElem?_cons_zero, List.getElem?_cons_succ, List.set_cons_zero, List.set_cons_succ,
  Option.some.injEq, V.int.injEq, V.bl.injEq, V.str.injEq, V.ref.injEq, exists_eq_left', exists_eq_left, exists_and_left, List.cons.injEq, and_true, true_and, eq_self_iff_true, Nat.reduceAdd, Nat.reduceSub, Nat.zero_add])
section
variable {P : Program} {w : World} {K : PySem.W.Frag} {mg : Str → Option Value} {base : Heap} {CF CP CA : Addr}
def spPicOf (CF CP : Addr) : Sp := fun vs H Q _ => ∃ (a d : Addr) (F : Fr) (p : Pic), vs = [.ref a, .ref d] ∧ FrAt CF H a F ∧ F.ok ∧ p.ok ∧ Fits F p ∧ PksAt H d F p ∧ ∀ r H', H r = none → Ex H H' → PicAt CP H' r p → Q (.ref r) H'
theorem has_picture_of (T : Top K mg CF CP CA) : Has P w K mg base CX0 6 "picture_of" ["frame", "packets"] (spPicOf CF CP) := by
  have G_stored := has_stored (P := P) (w := w) (base := base) T
  obtain ⟨f_iP, fd_iP, mkP, b_iP, F_iP⟩ := (has_Picture_init (P := P) (w := w) (base := base) T).ex
  have G_values := has_values (P := P) (w := w) (base := base) T
  refine has0 T.d_picture_of sc_picture_of (fun vs H Q E h => by
    repeat (obtain ⟨_, h⟩ := h)
    subst_vars
    rfl) fun f cdv A outer s H vs Q E hr h => ?_
  obtain ⟨a, d, F, p, rfl, hF, ok, okp, fits, hP, q⟩ := h
  refine ⟨_, (pss_cons (ps_set (i := 2) sc_picture_of.nd rfl (by first | exact .inl rfl | exact .inr rfl) (pe_has G_stored (hr.mono (by decide)) (pa_cons (pv 0) (pa_cons (pv 1) pa_nil))))
      (pss_cons (ps_setLc (own := [("channel", 4)]) (i := 3) rfl sc_picture_of.nd rfl rfl (sw_true rfl rfl rfl (by decide +kernel)) (pi_range1 rfl T.n_range (pa_cons (pe_fld (pv 0) rfl) pa_nil)) (blkOk_by (N := ["frame", "packets", "table", "values", "channel"]) (sc := defScope s_picture_of) (by decide +kernel)) (fun _ _ _ _ _ => by exact (pg_name (i := 4) sc_picture_of.nd rfl (by first | exact .inl rfl | exact .inr rfl))) (fun _ _ _ _ _ => by exact pts_nil) (fun _ _ _ _ _ => by exact (pe_has G_values (hr.mono (by decide)) (pa_cons (pv 0) (pa_cons (pv 2) (pa_cons (pv 4) pa_nil))))))
      (pss_one (ps_ret (pe_make mkP F_iP (hr.mono (by decide)) rfl T.gP b_iP .nil pass0 (pa_cons (pe_fld (pv 0) rfl) (pa_cons (pe_fld (pv 0) rfl) (pa_cons (pe_fld (pv 0) rfl) (pa_cons (pe_fld (pv 0) rfl) (pa_cons (pv 3) pa_nil)))))))))), ?_⟩
  simp only [tSeq, tAsg, tRet, tIfS, tTest, tOp, tUn, tVar, tC, tCons, tNil, tCB, tHas, gName, rI0, rI, rU, tNext, tNot, tAnd, tOr, tChain, tIf, tB, tNever, tRetN, tDrop, tTup, tLst, tMeth, tMake, tM0, tM1, tBits, tTruI, tBM, gSub, tSl, tNoPart, tPart, gcE, gnE, bs_length, tListRevR, tRg1, tFldE, sFldE, tPar3, cxK, nxK, List.append_nil, L2.start, List.map_cons, List.map_nil, List.length_cons, List.length_nil, List.replicate, List.cons_append, List.nil_append, List.getElem?_cons_zero, List.getElem?_cons_succ, List.set_cons_zero, List.set_cons_succ, Option.some.injEq, V.int.injEq, V.bl.injEq, V.str.injEq, V.ref.injEq, exists_eq_left', exists_eq_left, exists_and_left, List.cons.injEq, and_true, true_and, eq_self_iff_true, Nat.reduceAdd, Nat.reduceSub, Nat.zero_add, rEqI, rNeI, tAndV, tOrV, tNotV, natI, tDGet, tDIn, tDNotIn, sDPut, tDGet2, tDNewT, tDNewK]
  refine ⟨a, d, F, p, rfl, hF, ok, hP, fun t H1 ht e1 hT => ?_⟩
  have hb := ok.b
  simp only [tSeq, tAsg, tRet, tIfS, tTest, tOp, tUn, tVar, tC, tCons, tNil, tCB, tHas, gName, rI0, rI, rU, tNext, tNot, tAnd, tOr, tChain, tIf, tB, tNever, tRetN, tDrop, tTup, tLst, tMeth, tMake, tM0, tM1, tBits, tTruI, tBM, gSub, tSl, tNoPart, tPart, gcE, gnE, bs_length, tListRevR, tRg1, tFldE, sFldE, tPar3, cxK, nxK, List.append_nil, L2.start, List.map_cons, List.map_nil, List.length_cons, List.length_nil, List.replicate, List.cons_append, List.nil_append, List.getElem?_cons_zero, List.getElem?_cons_succ, List.set_cons_zero, List.set_cons_succ, Option.some.injEq, V.int.injEq, V.bl.injEq, V.str.injEq, V.ref.injEq, exists_eq_left', exists_eq_left, exists_and_left, List.cons.injEq, and_true, true_and, eq_self_iff_true, Nat.reduceAdd, Nat.reduceSub, Nat.zero_add, rEqI, rNeI, tAndV, tOrV, tNotV, natI, tDGet, tDIn, tDNotIn, sDPut, tDGet2, tDNewT, tDNewK]
  refine lo_rng (k := F.C) (fun Q q => ?_) (by omega) (fun i => rowO (p.rows.getD i [])) (fun _ => rfl) ?_ ?_
  · simp only [tSeq, tAsg, tRet, tIfS, tTest, tOp, tUn, tVar, tC, tCons, tNil, tCB, tHas, gName, rI0, rI, rU, tNext, tNot, tAnd, tOr, tChain, tIf, tB, tNever, tRetN, tDrop, tTup, tLst, tMeth, tMake, tM0, tM1, tBits, tTruI, tBM, gSub, tSl, tNoPart, tPart, gcE, gnE, bs_length, tListRevR, tRg1, tFldE, sFldE, tPar3, cxK, nxK, List.append_nil, L2.start, List.map_cons, List.map_nil, List.length_cons, List.length_nil, List.replicate, List.cons_append, List.nil_append, List.getElem?_cons_zero, List.getElem?_cons_succ, List.set_cons_zero, List.set_cons_succ, Option.some.injEq, V.int.injEq, V.bl.injEq, V.str.injEq, V.ref.injEq, exists_eq_left', exists_eq_left, exists_and_left, List.cons.injEq, and_true, true_and, eq_self_iff_true, Nat.reduceAdd, Nat.reduceSub, Nat.zero_add, rEqI, rNeI, tAndV, tOrV, tNotV, natI, tDGet, tDIn, tDNotIn, sDPut, tDGet2, tDNewT, tDNewK, frE T (hF.mono e1)]
    exact q
  · intro i H2 R hi e2 hR
    simp only [wipe, List.set_cons_zero, List.set_cons_succ, List.foldl_cons, List.foldl_nil]
    simp only [tSeq, tAsg, tRet, tIfS, tTest, tOp, tUn, tVar, tC, tCons, tNil, tCB, tHas, gName, rI0, rI, rU, tNext, tNot, tAnd, tOr, tChain, tIf, tB, tNever, tRetN, tDrop, tTup, tLst, tMeth, tMake, tM0, tM1, tBits, tTruI, tBM, gSub, tSl, tNoPart, tPart, gcE, gnE, bs_length, tListRevR, tRg1, tFldE, sFldE, tPar3, cxK, nxK, List.append_nil, L2.start, List.map_cons, List.map_nil, List.length_cons, List.length_nil, List.replicate, List.cons_append, List.nil_append, List.getElem?_cons_zero, List.getElem?_cons_succ, List.set_cons_zero, List.set_cons_succ, Option.some.injEq, V.int.injEq, V.bl.injEq, V.str.injEq, V.ref.injEq, exists_eq_left', exists_eq_left, exists_and_left, List.cons.injEq, and_true, true_and, eq_self_iff_true, Nat.reduceAdd, Nat.reduceSub, Nat.zero_add, rEqI, rNeI, tAndV, tOrV, tNotV, natI, tDGet, tDIn, tDNotIn, sDPut, tDGet2, tDNewT, tDNewK]
    exact ⟨a, t, F, p, i, rfl, hF.mono (e1.trans e2), ok, okp, fits, hT.mono e2, hi, fun l H3 hl e3 h3 => hR l H3 hl e3 h3⟩
  · intro l H2 xs hl e2 hlx hxs
    have hrows : RowsAt H2 xs p.rows := by
      have : F.C = p.rows.length := by rw [fits.2.2.2]; exact okp.2.2.2.2.1.symm
      rw [this, range_getF] at hxs
      exact all2_map hxs
    simp only [tSeq, tAsg, tRet, tIfS, tTest, tOp, tUn, tVar, tC, tCons, tNil, tCB, tHas, gName, rI0, rI, rU, tNext, tNot, tAnd, tOr, tChain, tIf, tB, tNever, tRetN, tDrop, tTup, tLst, tMeth, tMake, tM0, tM1, tBits, tTruI, tBM, gSub, tSl, tNoPart, tPart, gcE, gnE, bs_length, tListRevR, tRg1, tFldE, sFldE, tPar3, cxK, nxK, List.append_nil, L2.start, List.map_cons, List.map_nil, List.length_cons, List.length_nil, List.replicate, List.cons_append, List.nil_append, List.getElem?_cons_zero, List.getElem?_cons_succ, List.set_cons_zero, List.set_cons_succ, Option.some.injEq, V.int.injEq, V.bl.injEq, V.str.injEq, V.ref.injEq, exists_eq_left', exists_eq_left, exists_and_left, List.cons.injEq, and_true, true_and, eq_self_iff_true, Nat.reduceAdd, Nat.reduceSub, Nat.zero_add, rEqI, rNeI, tAndV, tOrV, tNotV, natI, tDGet, tDIn, tDNotIn, sDPut, tDGet2, tDNewT, tDNewK, frE T (hF.mono (e1.trans e2))]
    intro x dx hx hdx hne
    have hlx2 : ∀ b o, b ≠ x → H2 b = some o → (upd (upd H2 dx (.own x)) x (.ins CP dx [])) b = some o := fun b o hb ho => by
      rw [upd_ne hb, upd_ne (ne_of_none ho hdx)]
      exact ho
    have hlx0 : l ≠ x := ne_of_none hlx hx
    have hrows2 : RowsAt (upd (upd H2 dx (.own x)) x (.ins CP dx [])) xs p.rows := All2.mono (fun v r hv => by
      obtain ⟨b, rfl, hb⟩ := hv
      exact ⟨b, rfl, hlx2 b _ (ne_of_none hb hx) hb⟩) hrows
    obtain ⟨fw, fh, fd, fc⟩ := fits
    rw [fw, fh, fd, fc]
    refine ⟨x, dx, p, l, xs, rfl, okp, upd_same, hlx2 l _ hlx0 hlx, hrows2, fun H3 keep hP3 => ⟨rfl, ?_⟩⟩
    refine q x H3 (fresh_back (e1.trans e2) hx) (fun b o ho => ?_) hP3
    have h2 := (e1.trans e2) b o ho
    have hbx : b ≠ x := ne_of_none h2 hx
    exact keep b o hbx (hlx2 b o hbx h2)
theorem num_snoc (F : Fr) (m : Dig) (p : Pic) (ks : List Key) (k : Key) : numN F m p (ks ++ [k]) = numN F m p ks * chM F m k + rkN F m p k := by
  unfold numN
  rw [List.foldl_append]
  rfl
theorem num_lt {F : Fr} {m : Dig} {p : Pic} (h : MOk F m p) : ∀ {ks : List Key} {n N : Nat}, (∀ k ∈ ks, InR F k) → n < N → ks.foldl (fun n k => n * chM F m k + rkN F m p k) n < ks.foldl (fun n k => n * chM F m k) N
  | [], n, N, _, hn => hn
  | k :: ks, n, N, hk, hn => by
    simp only [List.foldl_cons]
    refine num_lt h (fun k' hk' => hk k' (List.mem_cons_of_mem _ hk')) ?_
    have h2 := h.lt (hk k List.mem_cons_self)
    calc n * chM F m k + rkN F m p k < n * chM F m k + chM F m k := by omega
      _ = (n + 1) * chM F m k := by rw [Nat.add_mul, Nat.one_mul]
      _ ≤ N * chM F m k := Nat.mul_le_mul_right _ hn
/-- a key's place in the order of keys -/
def code (F : Fr) (k : Key) : Nat := ((F.D - 1 - k.2.2) * F.C + k.1) * F.tiles + k.2.1
theorem Fr.codes (F : Fr) : F.keys.map (code F) = List.range (F.D * (F.C * F.tiles)) := by
  unfold Fr.keys
  have inner : ∀ i, i < F.D → ∀ n, ((List.range n).flatMap fun c => (List.range F.tiles).map fun t => code F (c, t, F.D - 1 - i)) = (List.range (n * F.tiles)).map fun x => i * (F.C * F.tiles) + x := fun i hi n => by
    induction n with
    | zero => simp
    | succ n ih =>
      rw [flatMap_snoc, ih, Nat.add_mul, Nat.one_mul, List.range_add, List.map_append, List.map_map]
      congr 1
      apply List.map_congr_left
      intro t _
      show ((F.D - 1 - (F.D - 1 - i)) * F.C + n) * F.tiles + t = i * (F.C * F.tiles) + (n * F.tiles + t)
      rw [show F.D - 1 - (F.D - 1 - i) = i by omega, Nat.add_mul, Nat.mul_assoc]
      omega
  have outer : ∀ n, n ≤ F.D → ((List.range n).flatMap fun i => (List.range F.C).flatMap fun c => (List.range F.tiles).map fun t => code F (c, t, F.D - 1 - i)) = List.range (n * (F.C * F.tiles)) := fun n hn => by
    induction n with
    | zero => simp
    | succ n ih =>
      rw [flatMap_snoc, ih (by omega), inner n (by omega), Nat.add_mul, Nat.one_mul, List.range_add]
  rw [List.map_flatMap, ← outer F.D (Nat.le_refl _)]
  congr 1
  funext i
  rw [List.map_flatMap]
  congr 1
  funext c
  rw [List.map_map]
  rfl
theorem Fr.idx {F : Fr} {j : Nat} {k : Key} (h : F.keys[j]? = some k) : j = code F k := by
  have h1 : (F.keys.map (code F))[j]? = some (code F k) := by rw [List.getElem?_map, h]; rfl
  rw [F.codes] at h1
  have h2 := (List.getElem?_eq_some_iff.mp h1)
  obtain ⟨h3, h4⟩ := h2
  rw [List.getElem_range] at h4
  exact h4
theorem getD_app {m : Dig} {k k' : Key} {c : List Bool} : getD (m ++ [(k, c)]) k' = (getD m k').or (if k = k' then some c else none) := by
  unfold getD
  rw [List.find?_append]
  cases h : m.find? fun e => decide (e.1 = k') with
  | some e => rfl
  | none =>
    by_cases hk : k = k'
    · simp [hk]
    · simp [hk]
def spPicAt (CF CP CA : Addr) : Sp := fun vs H Q _ => ∃ (a d fr : Addr) (F : Fr) (m : Dig) (p : Pic), vs = [.ref a, .int (numN F m p F.keys : Nat)] ∧ ArrAt CF CA H a d fr F m ∧ F.ok ∧ p.ok ∧ Fits F p ∧ MOk F m p ∧ ∀ r H', H r = none → Ex H H' → PicAt CP H' r p → Q (.ref r) H'
theorem has_picture_at (T : Top K mg CF CP CA) : Has P w K mg base CX0 11 "picture_at" ["arrived", "number"] (spPicAt CF CP CA) := by
  have G_picture_of := has_picture_of (P := P) (w := w) (base := base) T
  have G_count_pictures := has_count_pictures (P := P) (w := w) (base := base) T
  have G_all_keys := has_all_keys (P := P) (w := w) (base := base) T
  have G_tile_size := has_tile_size (P := P) (w := w) (base := base) T
  have G_possible_at := has_possible_at (P := P) (w := w) (base := base) T
  have G_choices := has_choices (P := P) (w := w) (base := base) T
  obtain ⟨f_Arrived_digits, fd_Arrived_digits, mm_Arrived_digits, b_Arrived_digits, F_Arrived_digits⟩ := (has_Arrived_digits (P := P) (w := w) (base := base) T).ex
  refine has0 T.d_picture_at sc_picture_at (fun vs H Q E h => by
    repeat (obtain ⟨_, h⟩ := h)
    subst_vars
    rfl) fun f cdv A outer s H vs Q E hr h => ?_
  obtain ⟨a, d, fr, F, m, p, rfl, hA, ok, okp, fits, mok, q⟩ := h
  refine ⟨_, (pss_cons (ps_if (pt_cmpR op_lt (pv 1) pe_int (nomark _)) (pss_one ps_never) pss_nil)
      (pss_cons (ps_if (pt_cmpR op_ge (pv 1) (pe_has G_count_pictures (hr.mono (by decide)) (pa_cons (pv 0) pa_nil)) (nomark _)) (pss_one (ps_ret pe_non)) pss_nil)
      (pss_cons (ps_set (i := 2) sc_picture_at.nd rfl (by first | exact .inl rfl | exact .inr rfl) pe_dnewT)
      (pss_cons (ps_for PassesOwn.never rfl (pi_reversed rfl T.n_reversed (pa_cons (pe_has G_all_keys (hr.mono (by decide)) (pa_cons (pe_fld (pv 0) rfl) pa_nil)) pa_nil)) (pg_name (i := 3) sc_picture_at.nd rfl (by first | exact .inl rfl | exact .inr rfl)) (pss_cons (ps_asg (pe_callB call_divmodW rfl T.n_divmod (by decide +kernel) (pa_cons (pv 1) (pa_cons (pe_has G_choices (hr.mono (by decide)) (pa_cons (pv 0) (pa_cons (pv 3) pa_nil))) pa_nil))) (pg_tup rfl (pgs_cons (pg_name (i := 1) sc_picture_at.nd rfl (by first | exact .inl rfl | exact .inr rfl)) (pgs_cons (pg_name (i := 4) sc_picture_at.nd rfl (by first | exact .inl rfl | exact .inr rfl)) pgs_nil))))
      (pss_cons (ps_asg (pe_has G_tile_size (hr.mono (by decide)) (pa_cons (pe_fld (pv 0) rfl) (pa_cons (pe_ix ix_tup (pv 3) pe_int (fun _ _ => rfl)) pa_nil))) (pg_tup rfl (pgs_cons (pg_name (i := 5) sc_picture_at.nd rfl (by first | exact .inl rfl | exact .inr rfl)) (pgs_cons (pg_name (i := 6) sc_picture_at.nd rfl (by first | exact .inl rfl | exact .inr rfl)) pgs_nil))))
      (pss_one (ps_dput (hu_of hr) (pv 2) (pv 3) (pe_has G_possible_at (hr.mono (by decide)) (pa_cons (pv 5) (pa_cons (pe_op op_mul (pv 5) (pv 6)) (pa_cons (pe_meth (pv 0) T.clA mm_Arrived_digits F_Arrived_digits (hr.mono (by decide)) b_Arrived_digits .nil pass0 (pa_cons (pv 3) pa_nil)) (pa_cons (pv 4) pa_nil))))) rfl)))))
      (pss_one (ps_ret (pe_has G_picture_of (hr.mono (by decide)) (pa_cons (pe_fld (pv 0) rfl) (pa_cons (pv 2) pa_nil))))))))), ?_⟩
  obtain ⟨⟨dx, h1⟩, h2, h3⟩ := id hA
  simp only [tSeq, tAsg, tRet, tIfS, tTest, tOp, tUn, tVar, tC, tCons, tNil, tCB, tHas, gName, rI0, rI, rU, tNext, tNot, tAnd, tOr, tChain, tIf, tB, tNever, tRetN, tDrop, tTup, tLst, tMeth, tMake, tM0, tM1, tBits, tTruI, tBM, gSub, tSl, tNoPart, tPart, gcE, gnE, bs_length, tListRevR, tRg1, tFldE, sFldE, tPar3, cxK, nxK, List.append_nil, L2.start, List.map_cons, List.map_nil, List.length_cons, List.length_nil, List.replicate, List.cons_append, List.nil_append, List.getElem?_cons_zero, List.getElem?_cons_succ, List.set_cons_zero, List.set_cons_succ, Option.some.injEq, V.int.injEq, V.bl.injEq, V.str.injEq, V.ref.injEq, exists_eq_left', exists_eq_left, exists_and_left, List.cons.injEq, and_true, true_and, eq_self_iff_true, Nat.reduceAdd, Nat.reduceSub, Nat.zero_add, rEqI, rNeI, tAndV, tOrV, tNotV, natI, tDGet, tDIn, tDNotIn, sDPut, tDGet2, tDNewT, tDNewK, arE T h1]
  rw [if_neg (by simp <;> omega)]
  refine ⟨a, d, fr, F, m, rfl, hA, ok, mok.d, fun k hk => (mok.ch k hk).2, fun H1 e1 => ⟨_, rfl, ?_⟩⟩
  have hlt := num_lt mok (ks := F.keys) (n := 0) (N := 1) (fun k hk => Fr.mem_keys.mp hk) (by decide)
  have hlt2 : numN F m p F.keys < cpM F m := hlt
  rw [if_neg (by simp; omega)]
  intro pd hpd
  rw [revE]
  have hA1 := hA.mono (e1.trans (Ex.new (o := .dT []) hpd))
  obtain ⟨⟨dx1, h11⟩, h21, h31⟩ := id hA1
  simp only [tSeq, tAsg, tRet, tIfS, tTest, tOp, tUn, tVar, tC, tCons, tNil, tCB, tHas, gName, rI0, rI, rU, tNext, tNot, tAnd, tOr, tChain, tIf, tB, tNever, tRetN, tDrop, tTup, tLst, tMeth, tMake, tM0, tM1, tBits, tTruI, tBM, gSub, tSl, tNoPart, tPart, gcE, gnE, bs_length, tListRevR, tRg1, tFldE, sFldE, tPar3, cxK, nxK, List.append_nil, L2.start, List.map_cons, List.map_nil, List.length_cons, List.length_nil, List.replicate, List.cons_append, List.nil_append, List.getElem?_cons_zero, List.getElem?_cons_succ, List.set_cons_zero, List.set_cons_succ, Option.some.injEq, V.int.injEq, V.bl.injEq, V.str.injEq, V.ref.injEq, exists_eq_left', exists_eq_left, exists_and_left, List.cons.injEq, and_true, true_and, eq_self_iff_true, Nat.reduceAdd, Nat.reduceSub, Nat.zero_add, rEqI, rNeI, tAndV, tOrV, tNotV, natI, tDGet, tDIn, tDNotIn, sDPut, tDGet2, tDNewT, tDNewK, arE T h11]
  refine ⟨fr, F, rfl, h21, ok, fun l H2 xs hl e2 hlx hks => ?_⟩
  have hxl := hks.length
  have hkl := F.keys_len ok
  have hpd2 : H2 pd = some (.dT []) := e2 _ _ upd_same
  have hpdl : pd ≠ l := ne_of_none (upd_same (H := H1) (a := pd) (o := .dT [])) hl
  have keep : ∀ {H' : Hp}, (∀ b o, b ≠ pd → H2 b = some o → H' b = some o) → ∀ {v k}, KeyAt H2 v k → KeyAt H' v k := fun {H'} e {v k} h => by
    obtain ⟨x, ex, hx⟩ := h
    refine ⟨x, ex, e x _ ?_ hx⟩
    rintro rfl
    rw [hpd2] at hx
    cases hx
  have e02 : Ex H H2 := (e1.trans (Ex.new hpd)).trans e2
  have hpd0 : H pd = none := fresh_back e1 hpd
  have keepH : ∀ {H' : Hp}, (∀ b o, b ≠ pd → H2 b = some o → H' b = some o) → Ex H H' := fun {H'} e b o h => e b o (by
    rintro rfl
    rw [hpd0] at h
    cases h) (e02 b o h)
  refine s_rlist (a := l) (xs := xs) (fun Q q => q) (sq_of hlx) (fun i σ' H' => (∀ b o, b ≠ pd → H2 b = some o → H' b = some o) ∧ (∃ md : Dig, H' pd = some (.dT (md.map entD)) ∧ md.length ≤ i ∧ (∀ j k, xs.length - i ≤ j → F.keys[j]? = some k → getD md k = some (pbM F p k)) ∧ ∀ j k, j < xs.length - i → F.keys[j]? = some k → getD md k = none) ∧
      ∃ v3 v4 v5 v6, σ' = [some (.ref a), some (.int (numN F m p (F.keys.take (xs.length - i)) : Nat)), some (.ref pd), v3, v4, v5, v6])
    ⟨fun _ _ _ h => h, ⟨[], hpd2, by simp, fun j k hj hk => ?_, fun _ _ _ _ => rfl⟩, none, none, none, none, ?_⟩ (fun i σ' H' p => sq_of (p.1 _ _ hpdl.symm hlx)) ?_ ?_
  · have := (List.getElem?_eq_some_iff.mp hk).1
    omega
  · rw [Nat.sub_zero, hxl, List.take_length]
  · rintro i x σ' H3 hi hx ⟨e3, ⟨md, hmd, hml, hm1, hm2⟩, v3, v4, v5, v6, rfl⟩
    obtain ⟨k, hk, hkx⟩ := All2.get hks hx
    obtain ⟨ka, rfl, hka⟩ := keep e3 hkx
    have inr := Fr.mem_keys.mp (List.mem_of_getElem? hk)
    have wm := Fr.wm ok inr.2.1
    have eH3 := keepH e3
    have hA3 := hA.mono eH3
    simp only [tSeq, tAsg, tRet, tIfS, tTest, tOp, tUn, tVar, tC, tCons, tNil, tCB, tHas, gName, rI0, rI, rU, tNext, tNot, tAnd, tOr, tChain, tIf, tB, tNever, tRetN, tDrop, tTup, tLst, tMeth, tMake, tM0, tM1, tBits, tTruI, tBM, gSub, tSl, tNoPart, tPart, gcE, gnE, bs_length, tListRevR, tRg1, tFldE, sFldE, tPar3, cxK, nxK, List.append_nil, L2.start, List.map_cons, List.map_nil, List.length_cons, List.length_nil, List.replicate, List.cons_append, List.nil_append, List.getElem?_cons_zero, List.getElem?_cons_succ, List.set_cons_zero, List.set_cons_succ, Option.some.injEq, V.int.injEq, V.bl.injEq, V.str.injEq, V.ref.injEq, exists_eq_left', exists_eq_left, exists_and_left, List.cons.injEq, and_true, true_and, eq_self_iff_true, Nat.reduceAdd, Nat.reduceSub, Nat.zero_add, rEqI, rNeI, tAndV, tOrV, tNotV, natI, tDGet, tDIn, tDNotIn, sDPut, tDGet2, tDNewT, tDNewK]
    refine ⟨a, d, fr, ka, F, m, k, rfl, hA3, ok, hka, inr, mok.d, fun H4 e4 => ?_⟩
    have hch := mok.ch k inr
    refine ⟨_, _, ⟨rfl, rfl⟩, cdivP (by omega) (by omega), fun p5 hp5 => gtup (st_of upd_same) rfl ?_⟩
    have hnum : numN F m p (F.keys.take (xs.length - i)) = numN F m p (F.keys.take (xs.length - (i + 1))) * chM F m k + rkN F m p k := by
      rw [show xs.length - i = xs.length - 1 - i + 1 by omega, take_snoc hk, num_snoc, show xs.length - (i + 1) = xs.length - 1 - i by omega]
    have hrl := mok.lt inr
    have hdv : ((numN F m p (F.keys.take (xs.length - i)) : Nat) : Int) / ((chM F m k : Nat) : Int) = ((numN F m p (F.keys.take (xs.length - (i + 1))) : Nat) : Int) := by
      rw [hnum, ← Int.natCast_ediv]
      congr 1
      rw [Nat.mul_comm, Nat.mul_add_div (by omega), Nat.div_eq_of_lt hrl, Nat.add_zero]
    have hmv : ((numN F m p (F.keys.take (xs.length - i)) : Nat) : Int) % ((chM F m k : Nat) : Int) = ((rkN F m p k : Nat) : Int) := by
      rw [hnum, ← Int.natCast_emod]
      congr 1
      rw [Nat.mul_comm, Nat.mul_add_mod, Nat.mod_eq_of_lt hrl]
    rw [hdv, hmv]
    have hA5 := (hA3.mono e4).mono (Ex.new (o := .tup [.int ((numN F m p (F.keys.take (xs.length - (i + 1))) : Nat) : Int), .int ((rkN F m p k : Nat) : Int)]) hp5)
    have e35 := e4.trans (Ex.new (o := .tup [.int ((numN F m p (F.keys.take (xs.length - (i + 1))) : Nat) : Int), .int ((rkN F m p k : Nat) : Int)]) hp5)
    obtain ⟨⟨dx5, h15⟩, h25, h35⟩ := id hA5
    simp only [tSeq, tAsg, tRet, tIfS, tTest, tOp, tUn, tVar, tC, tCons, tNil, tCB, tHas, gName, rI0, rI, rU, tNext, tNot, tAnd, tOr, tChain, tIf, tB, tNever, tRetN, tDrop, tTup, tLst, tMeth, tMake, tM0, tM1, tBits, tTruI, tBM, gSub, tSl, tNoPart, tPart, gcE, gnE, bs_length, tListRevR, tRg1, tFldE, sFldE, tPar3, cxK, nxK, List.append_nil, L2.start, List.map_cons, List.map_nil, List.length_cons, List.length_nil, List.replicate, List.cons_append, List.nil_append, List.getElem?_cons_zero, List.getElem?_cons_succ, List.set_cons_zero, List.set_cons_succ, Option.some.injEq, V.int.injEq, V.bl.injEq, V.str.injEq, V.ref.injEq, exists_eq_left', exists_eq_left, exists_and_left, List.cons.injEq, and_true, true_and, eq_self_iff_true, Nat.reduceAdd, Nat.reduceSub, Nat.zero_add, rEqI, rNeI, tAndV, tOrV, tNotV, natI, tDGet, tDIn, tDNotIn, sDPut, tDGet2, tDNewT, tDNewK, arE T h15]
    refine ixT (j := 1) rfl (st_of (e35 _ _ hka)) rfl ⟨fr, F, k.2.1, rfl, h25, ok, inr.2.1, fun r H6 hr6 e6 h6' => gtup (st_of h6') rfl ?_⟩
    have hA6 := hA5.mono e6
    obtain ⟨⟨dx6, h16⟩, h26, h36⟩ := id hA6
    simp only [tSeq, tAsg, tRet, tIfS, tTest, tOp, tUn, tVar, tC, tCons, tNil, tCB, tHas, gName, rI0, rI, rU, tNext, tNot, tAnd, tOr, tChain, tIf, tB, tNever, tRetN, tDrop, tTup, tLst, tMeth, tMake, tM0, tM1, tBits, tTruI, tBM, gSub, tSl, tNoPart, tPart, gcE, gnE, bs_length, tListRevR, tRg1, tFldE, sFldE, tPar3, cxK, nxK, List.append_nil, L2.start, List.map_cons, List.map_nil, List.length_cons, List.length_nil, List.replicate, List.cons_append, List.nil_append, List.getElem?_cons_zero, List.getElem?_cons_succ, List.set_cons_zero, List.set_cons_succ, Option.some.injEq, V.int.injEq, V.bl.injEq, V.str.injEq, V.ref.injEq, exists_eq_left', exists_eq_left, exists_and_left, List.cons.injEq, and_true, true_and, eq_self_iff_true, Nat.reduceAdd, Nat.reduceSub, Nat.zero_add, rEqI, rNeI, tAndV, tOrV, tNotV, natI, tDGet, tDIn, tDNotIn, sDPut, tDGet2, tDNewT, tDNewK]
    refine ⟨.inl ⟨by have := wm.1; unfold OkW at this; omega, by have := wm.1; unfold OkW at this; omega⟩, dx6, fsA fr d, h16, rfl, a, d, fr, ka, F, m, k, rfl, hA6, ok, (e35.trans e6) _ _ hka, inr, ?_⟩
    obtain ⟨hl16, hsome⟩ := mok.d k inr
    refine ⟨F.tw k.2.1, F.tw k.2.1 * F.th k.2.1, rkN F m p k, digs m k, by rw [Int.natCast_mul], wm.1, wm.2.2.1, hl16, hsome, fun H7 e7 => ?_⟩
    rw [mok.pa k inr]
    have e37 := (e35.trans e6).trans e7
    have hgn : getD md k = none := hm2 _ _ (by omega) hk
    refine ⟨_, DPut.t (k := kk k) (e37 _ _ hmd) (e37 _ _ hka) (by rw [List.length_map]; exact sz_lt (by omega)), ?_⟩
    rw [putK_ent hgn]
    refine ⟨fun b o hb ho => by rw [upd_ne hb]; exact e37 _ _ (e3 b o hb ho), ⟨_, upd_same, by simp; omega, fun j k' hj hk' => ?_, fun j k' hj hk' => ?_⟩, _, rfl⟩
    · rw [getD_app]
      by_cases hkk : k = k'
      · subst hkk
        rw [hgn, if_pos rfl]
        rfl
      · have hjj : j ≠ xs.length - 1 - i := fun e => hkk (by rw [e, hk] at hk'; exact Option.some.inj hk')
        rw [hm1 j k' (by omega) hk']
        rfl
    · have hkk : ¬ k = k' := fun e => by
        subst e
        have h1 := Fr.idx hk
        have h2 := Fr.idx hk'
        omega
      rw [getD_app, hm2 j k' (by omega) hk', if_neg hkk]
      rfl
  · rintro σ' H3 ⟨e3, ⟨md, hmd, hml, hm1, hm2⟩, v3, v4, v5, v6, rfl⟩
    have eH3 := keepH e3
    obtain ⟨⟨dx3, h13⟩, h23, h33⟩ := hA.mono eH3
    simp only [tSeq, tAsg, tRet, tIfS, tTest, tOp, tUn, tVar, tC, tCons, tNil, tCB, tHas, gName, rI0, rI, rU, tNext, tNot, tAnd, tOr, tChain, tIf, tB, tNever, tRetN, tDrop, tTup, tLst, tMeth, tMake, tM0, tM1, tBits, tTruI, tBM, gSub, tSl, tNoPart, tPart, gcE, gnE, bs_length, tListRevR, tRg1, tFldE, sFldE, tPar3, cxK, nxK, List.append_nil, L2.start, List.map_cons, List.map_nil, List.length_cons, List.length_nil, List.replicate, List.cons_append, List.nil_append, List.getElem?_cons_zero, List.getElem?_cons_succ, List.set_cons_zero, List.set_cons_succ, Option.some.injEq, V.int.injEq, V.bl.injEq, V.str.injEq, V.ref.injEq, exists_eq_left', exists_eq_left, exists_and_left, List.cons.injEq, and_true, true_and, eq_self_iff_true, Nat.reduceAdd, Nat.reduceSub, Nat.zero_add, rEqI, rNeI, tAndV, tOrV, tNotV, natI, tDGet, tDIn, tDNotIn, sDPut, tDGet2, tDNewT, tDNewK, arE T h13]
    refine ⟨fr, pd, F, p, rfl, h23, ok, okp, fits, ⟨md, hmd, fun k hk => ?_⟩, fun r H4 hr4 e4 hP4 => q r H4 (fresh_back eH3 hr4) (eH3.trans e4) hP4⟩
    obtain ⟨j, hj, hje⟩ := List.getElem_of_mem (Fr.mem_keys.mpr hk)
    exact hm1 j k (by omega) (by rw [List.getElem?_eq_getElem hj, hje])
end
end PK


set_option maxHeartbeats 4000000
namespace PK
open PySem PySem.Spec PyProof.Rows L2 Evl
local macro_rules | `(tactic| walk_at "rd") => `(tactic| simp only [tSeq, tAsg, tRet, tIfS, tTest, tOp, tUn, tVar, tC, tCons, tNil, tCB, tHas, gName, rI0, rI, rU, tNext, tNot, tAnd, tOr, tChain, tIf, tB, tNever, tRetN, tDrop, tTup, tLst, tMeth, tMake, tM0, tM1, tBits, tTruI, tBM, gSub, tSl, tNoPart, tPart, gcE, gnE, bs_length, tListRevR, tRg1, tFldE, sFldE, tPar3, cxK, nxK, List.append_nil,
  L2.start, List.map_cons, List.map_nil, List.length_cons, List.length_nil, List.replicate, List.cons_append, List.nil_append, List.getElem?_cons_zero, List.getElem?_cons_succ, List.set_cons_zero, List.set_cons_succ,
  Option.some.injEq, V.int.injEq, V.bl.injEq, V.str.injEq, V.ref.injEq, exists_eq_left', exists_eq_left, exists_and_left, List.cons.injEq, and_true, true_and, eq_self_iff_true, Nat.reduceAdd, Nat.reduceSub, Nat.zero_add])
/-! ### regions -/
structure Rg where
  l : Nat
  t : Nat
  w : Nat
  h : Nat
  a : Nat
def Rg.ok (r : Rg) : Prop := r.l < 64 ∧ r.t < 64 ∧ (1 ≤ r.w ∧ r.w ≤ 64) ∧ (1 ≤ r.h ∧ r.h ≤ 64) ∧ r.a ≤ 16
def rgO (r : Rg) : HO := .tup [.int (r.l : Int), .int (r.t : Int), .int (r.w : Int), .int (r.h : Int), .int (r.a : Int)]
def RegsAt (H : Hp) (a : Addr) : Prop := ∃ xs rs, H a = some (.lst xs) ∧ All2 (fun v r => ObjAt H v (rgO r)) xs rs ∧ (∀ r ∈ rs, r.ok) ∧ rs.length ≤ 16
theorem RegsAt.mono {H H' : Hp} {a : Addr} (e : Ex H H') (h : RegsAt H a) : RegsAt H' a := by
  obtain ⟨xs, rs, h1, h2, h3, h4⟩ := h
  exact ⟨xs, rs, e _ _ h1, All2.mono (fun _ _ r => r.mono e) h2, h3, h4⟩
section
variable {K : PySem.W.Frag} {σ : L2.St} {H : Hp} {ta : TA}
/-- numbers below a bound, over range(k) -/
theorem lc_rngB {tl : TE} {j k b : Nat} {vs : List Nat} {Q : VK} (h : ∀ Q : List V → Hp → Prop, Q [.int (k : Int)] H → ta σ H Q) (hk : k ≤ 10000) (hw : ∀ x, wipe ((wipe σ vs).set j (some x)) vs = wipe σ vs)
    (he : ∀ (i : Nat) H1 (R : VK), i < k → Ex H H1 → (∀ (n : Nat) H4, n ≤ b → Ex H1 H4 → R (.int (n : Int)) H4) → tl ((wipe σ vs).set j (some (.int (i : Int)))) H1 R)
    (q : ∀ p H1 (ns : List Nat), H p = none → Ex H H1 → H1 p = some (.lst (intsN ns)) → ns.length = k → (∀ n ∈ ns, n ≤ b) → Q (.ref p) H1) : tLc (iRng1 ta) (gName j) tYes tl vs σ H Q := by
  refine h _ ⟨_, rfl, by omega, by omega, fun D hD => ?_⟩
  rw [Int.toNat_natCast]
  refine lc_it walk_range (fun i H' => Ex H H' ∧ ∃ ns : List Nat, H' D = some (.lst (intsN ns)) ∧ ns.length = i ∧ ∀ n ∈ ns, n ≤ b) ⟨Ex.new hD, [], upd_same, rfl, fun _ h => absurd h List.not_mem_nil⟩ (fun _ _ _ _ => trivial) (fun i x H1 H2 hi p y => ?_) fun H1 p => ?_
  · obtain ⟨rfl, rfl⟩ := y
    obtain ⟨e1, ns, hns, hl, hb⟩ := p
    dsimp only
    rw [Int.zero_add]
    refine ⟨hw _, yesT (A := fun H3 => tl _ H3 _) (he i H2 _ hi e1 fun n H4 hn e4 => ⟨_, e4 _ _ hns, by rw [intsN_len, hl]; exact sz_lt (by omega), Ex.mut (e1.trans e4) hD, ns ++ [n], ?_, by simp [hl], fun n' hn' => ?_⟩)⟩
    · rw [upd_same]
      unfold intsN
      rw [List.map_append]
      rfl
    · rcases List.mem_append.mp hn' with z | z
      · exact hb _ z
      · simp at z
        omega
  · obtain ⟨e1, ns, hns, hl, hb⟩ := p
    exact q D H1 ns hD e1 hns hl hb
end
section
variable {P : Program} {w : World} {K : PySem.W.Frag} {mg : Str → Option Value} {base : Heap} {CF CP CA : Addr}
def spRect : Sp := fun vs H Q _ => ∃ r : Rg, vs = [.int (r.l : Int), .int (r.t : Int), .int (r.w : Int), .int (r.h : Int)] ∧ r.ok ∧ Q (.bl true) H
theorem has_is_rectangle (T : Top K mg CF CP CA) : Has P w K mg base CX0 1 "_is_rectangle" ["left", "top", "width", "height"] spRect := by
  refine has0 T.d_is_rectangle sc_is_rectangle (fun vs H Q E h => by
    repeat (obtain ⟨_, h⟩ := h)
    subst_vars
    rfl) fun f cdv A outer s H vs Q E hr h => ?_
  obtain ⟨r, rfl, ⟨h1, h2, h3, h4, h5⟩, q⟩ := h
  refine ⟨_, (pss_cons (ps_if (PW.pt (pw_or (pt_not (pt_chain op_le op_lt pe_int (pv 0) (pe_gint T.c_SIDE_MOST))) (pw_or1 (pt_not (pt_chain op_le op_lt pe_int (pv 1) (pe_gint T.c_SIDE_MOST)))))) (pss_one (ps_ret pe_bl)) pss_nil)
      (pss_one (ps_ret (pe_and (pe_chain op_le op_le pe_int (pv 2) (pe_gint T.c_SIDE_MOST)) (pe_one (pe_chain op_le op_le pe_int (pv 3) (pe_gint T.c_SIDE_MOST))))))), ?_⟩
  simp only [tSeq, tAsg, tRet, tIfS, tTest, tOp, tUn, tVar, tC, tCons, tNil, tCB, tHas, gName, rI0, rI, rU, tNext, tNot, tAnd, tOr, tChain, tIf, tB, tNever, tRetN, tDrop, tTup, tLst, tMeth, tMake, tM0, tM1, tBits, tTruI, tBM, gSub, tSl, tNoPart, tPart, gcE, gnE, bs_length, tListRevR, tRg1, tFldE, sFldE, tPar3, cxK, nxK, List.append_nil, L2.start, List.map_cons, List.map_nil, List.length_cons, List.length_nil, List.replicate, List.cons_append, List.nil_append, List.getElem?_cons_zero, List.getElem?_cons_succ, List.set_cons_zero, List.set_cons_succ, Option.some.injEq, V.int.injEq, V.bl.injEq, V.str.injEq, V.ref.injEq, exists_eq_left', exists_eq_left, exists_and_left, List.cons.injEq, and_true, true_and, eq_self_iff_true, Nat.reduceAdd, Nat.reduceSub, Nat.zero_add, rEqI, rNeI, tAndV, tOrV, tNotV, natI, tDGet, tDIn, tDNotIn, sDPut, tDGet2, tDNewT, tDNewK, tDSetd, tCKw]
  rw [if_pos (decide_eq_true (by omega)), if_neg (by simp; omega), if_pos (decide_eq_true (by omega)), if_neg (by simp; omega)]
  rw [if_pos (decide_eq_true (by omega)), if_pos (decide_eq_true (by omega)), if_pos (decide_eq_true (by omega)), decide_eq_true (by omega)]
  exact q
def spRegs : Sp := fun vs H Q _ => ∃ a : Addr, vs = [.ref a] ∧ RegsAt H a ∧ Q .non H
theorem has_check_regions (T : Top K mg CF CP CA) : Has P w K mg base CX0 2 "check_regions" ["regions"] spRegs := by
  have G_is_rectangle := has_is_rectangle (P := P) (w := w) (base := base) T
  refine has0 T.d_check_regions sc_check_regions (fun vs H Q E h => by
    repeat (obtain ⟨_, h⟩ := h)
    subst_vars
    rfl) fun f cdv A outer s H vs Q E hr h => ?_
  obtain ⟨a, rfl, ⟨xs, rs, h1, h2, h3, h4⟩, q⟩ := h
  refine ⟨_, (pss_cons (ps_if (pt_cmpR op_gt (pe_callB call_len rfl T.n_len boot_len (pa_cons (pv 0) pa_nil)) (pe_gint T.c_REGIONS_MOST) (nomark _)) (pss_one ps_never) pss_nil)
      (pss_one (ps_for PassesOwn.never rfl (pi_list (pv 0)) (pg_tup rfl (pgs_cons (pg_name (i := 1) sc_check_regions.nd rfl (by first | exact .inl rfl | exact .inr rfl)) (pgs_cons (pg_name (i := 2) sc_check_regions.nd rfl (by first | exact .inl rfl | exact .inr rfl)) (pgs_cons (pg_name (i := 3) sc_check_regions.nd rfl (by first | exact .inl rfl | exact .inr rfl)) (pgs_cons (pg_name (i := 4) sc_check_regions.nd rfl (by first | exact .inl rfl | exact .inr rfl)) (pgs_cons (pg_name (i := 5) sc_check_regions.nd rfl (by first | exact .inl rfl | exact .inr rfl)) pgs_nil)))))) (pss_one (ps_if (PW.pt (pw_or (pt_not (pt_val (pe_has G_is_rectangle (hr.mono (by decide)) (pa_cons (pv 1) (pa_cons (pv 2) (pa_cons (pv 3) (pa_cons (pv 4) pa_nil))))))) (pw_or1 (pt_not (pt_chain op_le op_le pe_int (pv 5) (pe_gint T.c_BOOST_MOST)))))) (pss_one ps_never) pss_nil))))), ?_⟩
  simp only [tSeq, tAsg, tRet, tIfS, tTest, tOp, tUn, tVar, tC, tCons, tNil, tCB, tHas, gName, rI0, rI, rU, tNext, tNot, tAnd, tOr, tChain, tIf, tB, tNever, tRetN, tDrop, tTup, tLst, tMeth, tMake, tM0, tM1, tBits, tTruI, tBM, gSub, tSl, tNoPart, tPart, gcE, gnE, bs_length, tListRevR, tRg1, tFldE, sFldE, tPar3, cxK, nxK, List.append_nil, L2.start, List.map_cons, List.map_nil, List.length_cons, List.length_nil, List.replicate, List.cons_append, List.nil_append, List.getElem?_cons_zero, List.getElem?_cons_succ, List.set_cons_zero, List.set_cons_succ, Option.some.injEq, V.int.injEq, V.bl.injEq, V.str.injEq, V.ref.injEq, exists_eq_left', exists_eq_left, exists_and_left, List.cons.injEq, and_true, true_and, eq_self_iff_true, Nat.reduceAdd, Nat.reduceSub, Nat.zero_add, rEqI, rNeI, tAndV, tOrV, tNotV, natI, tDGet, tDIn, tDNotIn, sDPut, tDGet2, tDNewT, tDNewK, tDSetd, tCKw]
  have hl := h2.length
  refine ⟨_, lenL (sq_of h1), ?_⟩
  rw [if_neg (by simp; omega)]
  refine s_listT (a := a) (xs := xs) (fun Q q => ⟨_, rfl, q⟩) (sq_of h1) (fun i σ' H' => H' = H ∧ ∃ v1 v2 v3 v4 v5, σ' = [some (.ref a), v1, v2, v3, v4, v5]) ⟨rfl, _, _, _, _, _, rfl⟩ (fun i σ' H' p => by rw [p.1]; exact sq_of h1) ?_ ?_
  · rintro i x σ' H' hx ⟨rfl, v1, v2, v3, v4, v5, rfl⟩
    obtain ⟨r, hr1, ra, rfl, hra⟩ := All2.get h2 hx
    have ok := h3 r (List.mem_of_getElem? hr1)
    refine gtup (st_of hra) rfl ?_
    simp only [tSeq, tAsg, tRet, tIfS, tTest, tOp, tUn, tVar, tC, tCons, tNil, tCB, tHas, gName, rI0, rI, rU, tNext, tNot, tAnd, tOr, tChain, tIf, tB, tNever, tRetN, tDrop, tTup, tLst, tMeth, tMake, tM0, tM1, tBits, tTruI, tBM, gSub, tSl, tNoPart, tPart, gcE, gnE, bs_length, tListRevR, tRg1, tFldE, sFldE, tPar3, cxK, nxK, List.append_nil, L2.start, List.map_cons, List.map_nil, List.length_cons, List.length_nil, List.replicate, List.cons_append, List.nil_append, List.getElem?_cons_zero, List.getElem?_cons_succ, List.set_cons_zero, List.set_cons_succ, Option.some.injEq, V.int.injEq, V.bl.injEq, V.str.injEq, V.ref.injEq, exists_eq_left', exists_eq_left, exists_and_left, List.cons.injEq, and_true, true_and, eq_self_iff_true, Nat.reduceAdd, Nat.reduceSub, Nat.zero_add, rEqI, rNeI, tAndV, tOrV, tNotV, natI, tDGet, tDIn, tDNotIn, sDPut, tDGet2, tDNewT, tDNewK, tDSetd, tCKw]
    refine ⟨r, rfl, ok, _, rfl, ?_⟩
    obtain ⟨k1, k2, k3, k4, k5⟩ := ok
    rw [if_neg (by decide), if_pos (decide_eq_true (by omega)), if_neg (by simp; omega)]
    exact ⟨rfl, _, rfl⟩
  · rintro σ' H' ⟨rfl, v1, v2, v3, v4, v5, rfl⟩
    exact q
theorem ifB {c : Bool} {S T : Prop} (s : S) (t : T) : if c = true then S else T := by
  cases c
  · exact iteF t
  · exact iteT s
def spTouches (CF : Addr) : Sp := fun vs H Q _ => ∃ (a b : Addr) (F : Fr) (t : Nat) (i1 i2 i3 i4 : Int), vs = [.ref a, .ref b, .int (t : Int)] ∧ FrAt CF H a F ∧ F.ok ∧ t < F.tiles ∧ H b = some (.tup [.int i1, .int i2, .int i3, .int i4]) ∧ ∀ bb H', Ex H H' → Q (.bl bb) H'
theorem has_touches (T : Top K mg CF CP CA) : Has P w K mg base CX0 4 "touches" ["frame", "rectangle", "tile"] (spTouches CF) := by
  have G_tile_corner := has_tile_corner (P := P) (w := w) (base := base) T
  have G_tile_size := has_tile_size (P := P) (w := w) (base := base) T
  refine has0 T.d_touches sc_touches (fun vs H Q E h => by
    repeat (obtain ⟨_, h⟩ := h)
    subst_vars
    rfl) fun f cdv A outer s H vs Q E hr h => ?_
  obtain ⟨a, b, F, t, i1, i2, i3, i4, rfl, hF, ok, ht, hb, q⟩ := h
  refine ⟨_, (pss_cons (ps_asg (pv 1) (pg_tup rfl (pgs_cons (pg_name (i := 3) sc_touches.nd rfl (by first | exact .inl rfl | exact .inr rfl)) (pgs_cons (pg_name (i := 4) sc_touches.nd rfl (by first | exact .inl rfl | exact .inr rfl)) (pgs_cons (pg_name (i := 5) sc_touches.nd rfl (by first | exact .inl rfl | exact .inr rfl)) (pgs_cons (pg_name (i := 6) sc_touches.nd rfl (by first | exact .inl rfl | exact .inr rfl)) pgs_nil))))))
      (pss_cons (ps_asg (pe_has G_tile_corner (hr.mono (by decide)) (pa_cons (pv 0) (pa_cons (pv 2) pa_nil))) (pg_tup rfl (pgs_cons (pg_name (i := 7) sc_touches.nd rfl (by first | exact .inl rfl | exact .inr rfl)) (pgs_cons (pg_name (i := 8) sc_touches.nd rfl (by first | exact .inl rfl | exact .inr rfl)) pgs_nil))))
      (pss_cons (ps_asg (pe_has G_tile_size (hr.mono (by decide)) (pa_cons (pv 0) (pa_cons (pv 2) pa_nil))) (pg_tup rfl (pgs_cons (pg_name (i := 9) sc_touches.nd rfl (by first | exact .inl rfl | exact .inr rfl)) (pgs_cons (pg_name (i := 10) sc_touches.nd rfl (by first | exact .inl rfl | exact .inr rfl)) pgs_nil))))
      (pss_cons (ps_if (pt_cmpR op_ge (pe_callB (call_max2 rfl) rfl T.n_max (by decide +kernel) (pa_cons (pv 3) (pa_cons (pv 7) pa_nil))) (pe_callB (call_min2 rfl) rfl T.n_min (by decide +kernel) (pa_cons (pe_op op_add (pv 3) (pv 5)) (pa_cons (pe_op op_add (pv 7) (pv 9)) pa_nil))) (nomark _)) (pss_one (ps_ret pe_bl)) pss_nil)
      (pss_one (ps_ret (pe_cmpR op_lt (pe_callB (call_max2 rfl) rfl T.n_max (by decide +kernel) (pa_cons (pv 4) (pa_cons (pv 8) pa_nil))) (pe_callB (call_min2 rfl) rfl T.n_min (by decide +kernel) (pa_cons (pe_op op_add (pv 4) (pv 6)) (pa_cons (pe_op op_add (pv 8) (pv 10)) pa_nil))) (nomark _)))))))), ?_⟩
  simp only [tSeq, tAsg, tRet, tIfS, tTest, tOp, tUn, tVar, tC, tCons, tNil, tCB, tHas, gName, rI0, rI, rU, tNext, tNot, tAnd, tOr, tChain, tIf, tB, tNever, tRetN, tDrop, tTup, tLst, tMeth, tMake, tM0, tM1, tBits, tTruI, tBM, gSub, tSl, tNoPart, tPart, gcE, gnE, bs_length, tListRevR, tRg1, tFldE, sFldE, tPar3, cxK, nxK, List.append_nil, L2.start, List.map_cons, List.map_nil, List.length_cons, List.length_nil, List.replicate, List.cons_append, List.nil_append, List.getElem?_cons_zero, List.getElem?_cons_succ, List.set_cons_zero, List.set_cons_succ, Option.some.injEq, V.int.injEq, V.bl.injEq, V.str.injEq, V.ref.injEq, exists_eq_left', exists_eq_left, exists_and_left, List.cons.injEq, and_true, true_and, eq_self_iff_true, Nat.reduceAdd, Nat.reduceSub, Nat.zero_add, rEqI, rNeI, tAndV, tOrV, tNotV, natI, tDGet, tDIn, tDNotIn, sDPut, tDGet2, tDNewT, tDNewK, tDSetd, tCKw]
  refine gtup (st_of hb) rfl ?_
  simp only [tSeq, tAsg, tRet, tIfS, tTest, tOp, tUn, tVar, tC, tCons, tNil, tCB, tHas, gName, rI0, rI, rU, tNext, tNot, tAnd, tOr, tChain, tIf, tB, tNever, tRetN, tDrop, tTup, tLst, tMeth, tMake, tM0, tM1, tBits, tTruI, tBM, gSub, tSl, tNoPart, tPart, gcE, gnE, bs_length, tListRevR, tRg1, tFldE, sFldE, tPar3, cxK, nxK, List.append_nil, L2.start, List.map_cons, List.map_nil, List.length_cons, List.length_nil, List.replicate, List.cons_append, List.nil_append, List.getElem?_cons_zero, List.getElem?_cons_succ, List.set_cons_zero, List.set_cons_succ, Option.some.injEq, V.int.injEq, V.bl.injEq, V.str.injEq, V.ref.injEq, exists_eq_left', exists_eq_left, exists_and_left, List.cons.injEq, and_true, true_and, eq_self_iff_true, Nat.reduceAdd, Nat.reduceSub, Nat.zero_add, rEqI, rNeI, tAndV, tOrV, tNotV, natI, tDGet, tDIn, tDNotIn, sDPut, tDGet2, tDNewT, tDNewK, tDSetd, tCKw]
  refine ⟨a, F, t, rfl, hF, ok, ht, fun p1 H1 hp1 e1 h1 => gtup (st_of h1) rfl ?_⟩
  simp only [tSeq, tAsg, tRet, tIfS, tTest, tOp, tUn, tVar, tC, tCons, tNil, tCB, tHas, gName, rI0, rI, rU, tNext, tNot, tAnd, tOr, tChain, tIf, tB, tNever, tRetN, tDrop, tTup, tLst, tMeth, tMake, tM0, tM1, tBits, tTruI, tBM, gSub, tSl, tNoPart, tPart, gcE, gnE, bs_length, tListRevR, tRg1, tFldE, sFldE, tPar3, cxK, nxK, List.append_nil, L2.start, List.map_cons, List.map_nil, List.length_cons, List.length_nil, List.replicate, List.cons_append, List.nil_append, List.getElem?_cons_zero, List.getElem?_cons_succ, List.set_cons_zero, List.set_cons_succ, Option.some.injEq, V.int.injEq, V.bl.injEq, V.str.injEq, V.ref.injEq, exists_eq_left', exists_eq_left, exists_and_left, List.cons.injEq, and_true, true_and, eq_self_iff_true, Nat.reduceAdd, Nat.reduceSub, Nat.zero_add, rEqI, rNeI, tAndV, tOrV, tNotV, natI, tDGet, tDIn, tDNotIn, sDPut, tDGet2, tDNewT, tDNewK, tDSetd, tCKw]
  refine ⟨a, F, t, rfl, hF.mono e1, ok, ht, fun p2 H2 hp2 e2 h2 => gtup (st_of h2) rfl ?_⟩
  simp only [tSeq, tAsg, tRet, tIfS, tTest, tOp, tUn, tVar, tC, tCons, tNil, tCB, tHas, gName, rI0, rI, rU, tNext, tNot, tAnd, tOr, tChain, tIf, tB, tNever, tRetN, tDrop, tTup, tLst, tMeth, tMake, tM0, tM1, tBits, tTruI, tBM, gSub, tSl, tNoPart, tPart, gcE, gnE, bs_length, tListRevR, tRg1, tFldE, sFldE, tPar3, cxK, nxK, List.append_nil, L2.start, List.map_cons, List.map_nil, List.length_cons, List.length_nil, List.replicate, List.cons_append, List.nil_append, List.getElem?_cons_zero, List.getElem?_cons_succ, List.set_cons_zero, List.set_cons_succ, Option.some.injEq, V.int.injEq, V.bl.injEq, V.str.injEq, V.ref.injEq, exists_eq_left', exists_eq_left, exists_and_left, List.cons.injEq, and_true, true_and, eq_self_iff_true, Nat.reduceAdd, Nat.reduceSub, Nat.zero_add, rEqI, rNeI, tAndV, tOrV, tNotV, natI, tDGet, tDIn, tDNotIn, sDPut, tDGet2, tDNewT, tDNewK, tDSetd, tCKw]
  refine ⟨_, _, ⟨rfl, rfl⟩, _, _, ⟨rfl, rfl⟩, ?_⟩
  exact ifB (q _ _ (e1.trans e2)) ⟨_, _, ⟨rfl, rfl⟩, _, _, ⟨rfl, rfl⟩, q _ _ (e1.trans e2)⟩
def spBoost (CF : Addr) : Sp := fun vs H Q _ => ∃ (a b : Addr) (F : Fr) (t : Nat), vs = [.ref a, .ref b, .int (t : Int)] ∧ FrAt CF H a F ∧ F.ok ∧ t < F.tiles ∧ RegsAt H b ∧ ∀ (n : Nat) H', n ≤ 16 → Ex H H' → Q (.int (n : Int)) H'
theorem has_boost (T : Top K mg CF CP CA) : Has P w K mg base CX0 5 "boost" ["frame", "regions", "tile"] (spBoost CF) := by
  have G_touches := has_touches (P := P) (w := w) (base := base) T
  refine has0 T.d_boost sc_boost (fun vs H Q E h => by
    repeat (obtain ⟨_, h⟩ := h)
    subst_vars
    rfl) fun f cdv A outer s H vs Q E hr h => ?_
  obtain ⟨a, b, F, t, rfl, hF, ok, ht, ⟨xs, rs, h1, h2, h3, h4⟩, q⟩ := h
  refine ⟨_, (pss_cons (ps_set (i := 3) sc_boost.nd rfl (by first | exact .inl rfl | exact .inr rfl) pe_int)
      (pss_cons (ps_for PassesOwn.never rfl (pi_list (pv 1)) (pg_tup rfl (pgs_cons (pg_name (i := 4) sc_boost.nd rfl (by first | exact .inl rfl | exact .inr rfl)) (pgs_cons (pg_name (i := 5) sc_boost.nd rfl (by first | exact .inl rfl | exact .inr rfl)) (pgs_cons (pg_name (i := 6) sc_boost.nd rfl (by first | exact .inl rfl | exact .inr rfl)) (pgs_cons (pg_name (i := 7) sc_boost.nd rfl (by first | exact .inl rfl | exact .inr rfl)) (pgs_cons (pg_name (i := 8) sc_boost.nd rfl (by first | exact .inl rfl | exact .inr rfl)) pgs_nil)))))) (pss_one (ps_if (pt_val (pe_has G_touches (hr.mono (by decide)) (pa_cons (pv 0) (pa_cons (pe_tup (pa_cons (pv 4) (pa_cons (pv 5) (pa_cons (pv 6) (pa_cons (pv 7) pa_nil))))) (pa_cons (pv 2) pa_nil))))) (pss_one (ps_set (i := 3) sc_boost.nd rfl (by first | exact .inl rfl | exact .inr rfl) (pe_callB (call_max2 rfl) rfl T.n_max (by decide +kernel) (pa_cons (pv 3) (pa_cons (pv 8) pa_nil))))) pss_nil)))
      (pss_one (ps_ret (pv 3))))), ?_⟩
  simp only [tSeq, tAsg, tRet, tIfS, tTest, tOp, tUn, tVar, tC, tCons, tNil, tCB, tHas, gName, rI0, rI, rU, tNext, tNot, tAnd, tOr, tChain, tIf, tB, tNever, tRetN, tDrop, tTup, tLst, tMeth, tMake, tM0, tM1, tBits, tTruI, tBM, gSub, tSl, tNoPart, tPart, gcE, gnE, bs_length, tListRevR, tRg1, tFldE, sFldE, tPar3, cxK, nxK, List.append_nil, L2.start, List.map_cons, List.map_nil, List.length_cons, List.length_nil, List.replicate, List.cons_append, List.nil_append, List.getElem?_cons_zero, List.getElem?_cons_succ, List.set_cons_zero, List.set_cons_succ, Option.some.injEq, V.int.injEq, V.bl.injEq, V.str.injEq, V.ref.injEq, exists_eq_left', exists_eq_left, exists_and_left, List.cons.injEq, and_true, true_and, eq_self_iff_true, Nat.reduceAdd, Nat.reduceSub, Nat.zero_add, rEqI, rNeI, tAndV, tOrV, tNotV, natI, tDGet, tDIn, tDNotIn, sDPut, tDGet2, tDNewT, tDNewK, tDSetd, tCKw]
  refine s_listT (a := b) (xs := xs) (fun Q q => ⟨_, rfl, q⟩) (sq_of h1) (fun i σ' H' => Ex H H' ∧ ∃ (n : Nat) (v4 v5 v6 v7 v8 : Option V), n ≤ 16 ∧ σ' = [some (.ref a), some (.ref b), some (.int (t : Int)), some (.int (n : Int)), v4, v5, v6, v7, v8]) ⟨Ex.refl _, 0, _, _, _, _, _, by decide, rfl⟩ (fun i σ' H' p => sq_of (p.1 _ _ h1)) ?_ ?_
  · rintro i x σ' H' hx ⟨e1, n, v4, v5, v6, v7, v8, hn, rfl⟩
    obtain ⟨r, hr1, ra, rfl, hra⟩ := All2.get h2 hx
    have okr := h3 r (List.mem_of_getElem? hr1)
    refine gtup (st_of (e1 _ _ hra)) rfl ?_
    simp only [tSeq, tAsg, tRet, tIfS, tTest, tOp, tUn, tVar, tC, tCons, tNil, tCB, tHas, gName, rI0, rI, rU, tNext, tNot, tAnd, tOr, tChain, tIf, tB, tNever, tRetN, tDrop, tTup, tLst, tMeth, tMake, tM0, tM1, tBits, tTruI, tBM, gSub, tSl, tNoPart, tPart, gcE, gnE, bs_length, tListRevR, tRg1, tFldE, sFldE, tPar3, cxK, nxK, List.append_nil, L2.start, List.map_cons, List.map_nil, List.length_cons, List.length_nil, List.replicate, List.cons_append, List.nil_append, List.getElem?_cons_zero, List.getElem?_cons_succ, List.set_cons_zero, List.set_cons_succ, Option.some.injEq, V.int.injEq, V.bl.injEq, V.str.injEq, V.ref.injEq, exists_eq_left', exists_eq_left, exists_and_left, List.cons.injEq, and_true, true_and, eq_self_iff_true, Nat.reduceAdd, Nat.reduceSub, Nat.zero_add, rEqI, rNeI, tAndV, tOrV, tNotV, natI, tDGet, tDIn, tDNotIn, sDPut, tDGet2, tDNewT, tDNewK, tDSetd, tCKw]
    refine ⟨by decide, fun p2 hp2 => ⟨a, p2, F, t, _, _, _, _, rfl, hF.mono (e1.trans (Ex.new hp2)), ok, ht, upd_same, fun bb H3 e3 => ⟨_, rfl, ?_⟩⟩⟩
    have e13 := (e1.trans (Ex.new hp2)).trans e3
    cases bb
    · exact iteF ⟨e13, n, hn, rfl, _, rfl⟩
    · refine iteT ⟨_, _, ⟨rfl, rfl⟩, e13, ?_⟩
      have := okr.2.2.2.2
      by_cases hm : (r.a : Int) > (n : Int)
      · rw [if_pos hm]
        exact ⟨r.a, this, rfl, _, rfl⟩
      · rw [if_neg hm]
        exact ⟨n, hn, rfl, _, rfl⟩
  · rintro σ' H' ⟨e1, n, v4, v5, v6, v7, v8, hn, rfl⟩
    simp only [tSeq, tAsg, tRet, tIfS, tTest, tOp, tUn, tVar, tC, tCons, tNil, tCB, tHas, gName, rI0, rI, rU, tNext, tNot, tAnd, tOr, tChain, tIf, tB, tNever, tRetN, tDrop, tTup, tLst, tMeth, tMake, tM0, tM1, tBits, tTruI, tBM, gSub, tSl, tNoPart, tPart, gcE, gnE, bs_length, tListRevR, tRg1, tFldE, sFldE, tPar3, cxK, nxK, List.append_nil, L2.start, List.map_cons, List.map_nil, List.length_cons, List.length_nil, List.replicate, List.cons_append, List.nil_append, List.getElem?_cons_zero, List.getElem?_cons_succ, List.set_cons_zero, List.set_cons_succ, Option.some.injEq, V.int.injEq, V.bl.injEq, V.str.injEq, V.ref.injEq, exists_eq_left', exists_eq_left, exists_and_left, List.cons.injEq, and_true, true_and, eq_self_iff_true, Nat.reduceAdd, Nat.reduceSub, Nat.zero_add, rEqI, rNeI, tAndV, tOrV, tNotV, natI, tDGet, tDIn, tDNotIn, sDPut, tDGet2, tDNewT, tDNewK, tDSetd, tCKw]
    exact q n H' hn e1
end
/-! ### plans -/
/-- a key's place among rows -/
def plc (ns : List Nat) (k : Key) : Nat := k.2.2 + ns.getD k.2.1 0
/-- rows by places: each holds, in order, the keys of its place among ks; they stand apart and behind H0 -/
structure RowsD (H0 H : Hp) (d : Addr) (ns : List Nat) (ks : List Key) (qs : List Nat) (ra : Nat → Addr) : Prop where
  dic : ∃ kvs, H d = some (.dK kvs) ∧ kvs.map (·.1) = qs.map (fun q : Nat => Sum.inl (q : Int)) ∧ (∀ q ∈ qs, valV kvs (Sum.inl (q : Int)) = some (.ref (ra q))) ∧ ∀ q : Nat, q ∉ qs → valV kvs (Sum.inl (q : Int)) = none
  nd : qs.Nodup
  mem : ∀ q, q ∈ qs ↔ ∃ k ∈ ks, plc ns k = q
  row : ∀ q ∈ qs, H0 (ra q) = none ∧ ∃ xs, H (ra q) = some (.lst xs) ∧ KeysAt H xs (ks.filter fun k => decide (plc ns k = q)) ∧ xs.length ≤ ks.length
  inj : ∀ q ∈ qs, ∀ q' ∈ qs, ra q = ra q' → q = q'
  len : qs.length ≤ ks.length
theorem filter_yes {ks : List Key} {k : Key} {ns : List Nat} {q : Nat} (h : plc ns k = q) : (ks ++ [k]).filter (fun k => decide (plc ns k = q)) = ks.filter (fun k => decide (plc ns k = q)) ++ [k] := by
  rw [List.filter_append, List.filter_cons, if_pos (decide_eq_true h), List.filter_nil]
theorem filter_no {ks : List Key} {k : Key} {ns : List Nat} {q : Nat} (h : ¬ plc ns k = q) : (ks ++ [k]).filter (fun k => decide (plc ns k = q)) = ks.filter (fun k => decide (plc ns k = q)) := by
  rw [List.filter_append, List.filter_cons, if_neg (by simpa using h), List.filter_nil, List.append_nil]
theorem RowsD.mono {H0 H H' : Hp} {d : Addr} {ns : List Nat} {ks : List Key} {qs : List Nat} {ra : Nat → Addr} (e : Ex H H') (h : RowsD H0 H d ns ks qs ra) : RowsD H0 H' d ns ks qs ra := by
  obtain ⟨⟨kvs, a1, a2, a3⟩, b, c, f, g, i⟩ := h
  exact ⟨⟨kvs, e _ _ a1, a2, a3⟩, b, c, fun q hq => by
    obtain ⟨h1, xs, h2, h3, h4⟩ := f q hq
    exact ⟨h1, xs, e _ _ h2, h3.mono e, h4⟩, g, i⟩
theorem RowsD.old {H0 H : Hp} {d : Addr} {ns : List Nat} {ks : List Key} {qs : List Nat} {ra : Nat → Addr} (h : RowsD H0 H d ns ks qs ra) {v : V} {k : Key} (hk : KeyAt H v k) (hq : plc ns k ∈ qs) {xs : List V} (hx : H (ra (plc ns k)) = some (.lst xs)) :
    RowsD H0 (upd H (ra (plc ns k)) (.lst (xs ++ [v]))) d ns (ks ++ [k]) qs ra := by
  obtain ⟨⟨kvs, a1, a2, a3⟩, b, c, f, g, i⟩ := h
  refine ⟨⟨kvs, ?_, a2, a3⟩, b, fun q => ?_, fun q hq' => ?_, g, by simp; omega⟩
  · rw [upd_ne]
    · exact a1
    · rintro rfl
      rw [hx] at a1
      cases a1
  · rw [c q]
    constructor
    · rintro ⟨k', hk', e⟩
      exact ⟨k', List.mem_append_left _ hk', e⟩
    · rintro ⟨k', hk', e⟩
      rcases List.mem_append.mp hk' with z | z
      · exact ⟨k', z, e⟩
      · obtain rfl := List.mem_singleton.mp z
        rw [← e]
        exact (c _).mp hq
  · obtain ⟨h1, ys, h2, h3, h4⟩ := f q hq'
    refine ⟨h1, ?_⟩
    by_cases e : plc ns k = q
    · subst e
      rw [hx] at h2
      cases h2
      refine ⟨_, upd_same, ?_, by simp; omega⟩
      rw [filter_yes rfl]
      exact All2.snoc (hk.lst hx) (h3.lst hx)
    · refine ⟨ys, ?_, ?_, by simp; omega⟩
      · rw [upd_ne]
        · exact h2
        · exact fun z => e (g _ hq' _ hq z).symm
      · rw [filter_no e]
        exact h3.lst hx
theorem RowsD.add {H0 H : Hp} {d : Addr} {ns : List Nat} {ks : List Key} {qs : List Nat} {ra : Nat → Addr} (h : RowsD H0 H d ns ks qs ra) {v : V} {k : Key} (hk : KeyAt H v k) (hq : plc ns k ∉ qs) {p : Addr} (hp : H p = some (.lst [])) (hp0 : H0 p = none) (hpr : ∀ q ∈ qs, ra q ≠ p)
    {kvs : List (L2.Key × V)} (hd : H d = some (.dK kvs)) :
    RowsD H0 (upd (upd H d (.dK (putK kvs (Sum.inl ((plc ns k : Nat) : Int)) (.ref p)))) p (.lst [v])) d ns (ks ++ [k]) (qs ++ [plc ns k]) (fun q => if q = plc ns k then p else ra q) := by
  obtain ⟨⟨kvs', a1, a2, a3, a4⟩, b, c, f, g, i⟩ := h
  rw [hd] at a1
  cases a1
  have hdp : d ≠ p := by
    rintro rfl
    rw [hd] at hp
    cases hp
  have hpd : (upd H d (.dK (putK kvs (Sum.inl ((plc ns k : Nat) : Int)) (.ref p)))) p = some (.lst []) := by rw [upd_ne hdp.symm]; exact hp
  have keepK : ∀ {u : V} {k' : Key}, KeyAt H u k' → KeyAt (upd (upd H d (.dK (putK kvs (Sum.inl ((plc ns k : Nat) : Int)) (.ref p)))) p (.lst [v])) u k' := fun {u k'} hu => by
    refine KeyAt.lst hpd ?_
    obtain ⟨x, ex, hx⟩ := hu
    refine ⟨x, ex, ?_⟩
    rw [upd_ne]
    · exact hx
    · rintro rfl
      rw [hd] at hx
      cases hx
  refine ⟨⟨_, by rw [upd_ne hdp]; exact upd_same, ?_, fun q hq' => ?_, fun q hq' => ?_⟩, ?_, fun q => ?_, fun q hq' => ?_, fun q hq' q' hq'' e => ?_, by simp; omega⟩
  · rw [putK_new _ (a4 _ hq), List.map_append, a2, List.map_append]
    rfl
  · rw [valV_put]
    by_cases e : q = plc ns k
    · rw [if_pos e, if_pos (by rw [e])]
    · rw [if_neg e, if_neg (fun z => e (Int.ofNat_inj.mp (Sum.inl.inj z)))]
      exact a3 q ((List.mem_append.mp hq').resolve_right fun z => e (List.mem_singleton.mp z))
  · rw [valV_put, if_neg (fun z => hq' (List.mem_append_right _ (List.mem_singleton.mpr (Int.ofNat_inj.mp (Sum.inl.inj z)))))]
    exact a4 q fun z => hq' (List.mem_append_left _ z)
  · exact List.nodup_append.mpr ⟨b, by simp, fun x hx y hy e => hq (by rw [← List.mem_singleton.mp hy, ← e]; exact hx)⟩
  · rw [List.mem_append, c q, List.mem_singleton]
    constructor
    · rintro (⟨k', hk', e⟩ | e)
      · exact ⟨k', List.mem_append_left _ hk', e⟩
      · exact ⟨k, List.mem_append_right _ List.mem_cons_self, e.symm⟩
    · rintro ⟨k', hk', e⟩
      rcases List.mem_append.mp hk' with z | z
      · exact .inl ⟨k', z, e⟩
      · obtain rfl := List.mem_singleton.mp z
        exact .inr e.symm
  · by_cases e : q = plc ns k
    · subst e
      rw [if_pos rfl]
      refine ⟨hp0, _, upd_same, ?_, by simp⟩
      rw [filter_yes rfl]
      have hnil : ks.filter (fun k' => decide (plc ns k' = plc ns k)) = [] := by
        rw [List.filter_eq_nil_iff]
        intro k' hk' z
        exact hq ((c _).mpr ⟨k', hk', by simpa using z⟩)
      rw [hnil]
      exact .cons (keepK hk) .nil
    · rw [if_neg e]
      have hq0 : q ∈ qs := (List.mem_append.mp hq').resolve_right fun z => e (List.mem_singleton.mp z)
      obtain ⟨h1, ys, h2, h3, h4⟩ := f q hq0
      refine ⟨h1, ys, ?_, ?_, by simp; omega⟩
      · rw [upd_ne (hpr q hq0), upd_ne]
        · exact h2
        · intro z
          rw [z, hd] at h2
          cases h2
      · rw [filter_no (fun z => e z.symm)]
        exact All2.mono (fun _ _ r => keepK r) h3
  · by_cases e1 : q = plc ns k
    · by_cases e2 : q' = plc ns k
      · rw [e1, e2]
      · rw [if_pos e1, if_neg e2] at e
        exact absurd e.symm (hpr q' ((List.mem_append.mp hq'').resolve_right fun z => e2 (List.mem_singleton.mp z)))
    · by_cases e2 : q' = plc ns k
      · rw [if_neg e1, if_pos e2] at e
        exact absurd e (hpr q ((List.mem_append.mp hq').resolve_right fun z => e1 (List.mem_singleton.mp z)))
      · rw [if_neg e1, if_neg e2] at e
        exact g q ((List.mem_append.mp hq').resolve_right fun z => e1 (List.mem_singleton.mp z)) q' ((List.mem_append.mp hq'').resolve_right fun z => e2 (List.mem_singleton.mp z)) e
section
variable {P : Program} {w : World} {K : PySem.W.Frag} {mg : Str → Option Value} {base : Heap} {CF CP CA : Addr}
theorem Fr.keys_nd (F : Fr) : F.keys.Nodup := by
  have h : (List.range (F.D * (F.C * F.tiles))).Nodup := List.nodup_range
  rw [← F.codes] at h
  unfold List.Nodup at h ⊢
  rw [List.pairwise_map] at h
  exact h.imp fun hne e => hne (by rw [e])
theorem clE {K : PySem.W.Frag} {te0 : TE} {g : TG} {tt : TT} {b : TH} {vs : List Nat} {σ : L2.St} {H : Hp} {Nx : Hp → Prop} : tClause (iList K te0) g tt vs b σ H Nx = te0 σ H fun v H1 => tClause (iList K (tC v)) g tt vs b σ H1 Nx := rfl
theorem flat_len {f : Nat → List Key} (h : ∀ q, (f q).length ≤ 1000) : ∀ l : List Nat, (l.flatMap f).length ≤ l.length * 1000
  | [] => by simp
  | q :: l => by
    rw [List.flatMap_cons, List.length_append, List.length_cons, Nat.add_mul]
    have := flat_len h l
    have := h q
    omega
def spPlan (CF : Addr) : Sp := fun vs H Q _ => ∃ (a b : Addr) (F : Fr), vs = [.ref a, .ref b] ∧ FrAt CF H a F ∧ F.ok ∧ RegsAt H b ∧
  ∀ l H' xs ks, H l = none → Ex H H' → H' l = some (.lst xs) → KeysAt H' xs ks → ks.Nodup → (∀ k, k ∈ ks ↔ InR F k) → Q (.ref l) H'
theorem has_plan (T : Top K mg CF CP CA) : Has P w K mg base CX0 6 "plan" ["frame", "regions"] (spPlan CF) := by
  have G_check_regions := has_check_regions (P := P) (w := w) (base := base) T
  have G_all_keys := has_all_keys (P := P) (w := w) (base := base) T
  have G_boost := has_boost (P := P) (w := w) (base := base) T
  obtain ⟨f_Frame_tiles, fd_Frame_tiles, mm_Frame_tiles, b_Frame_tiles, F_Frame_tiles⟩ := (has_Frame_tiles (P := P) (w := w) (base := base) T).ex
  refine has0 T.d_plan sc_plan (fun vs H Q E h => by
    repeat (obtain ⟨_, h⟩ := h)
    subst_vars
    rfl) fun f cdv A outer s H vs Q E hr h => ?_
  obtain ⟨a, b, F, rfl, hF, ok, hR, q⟩ := h
  refine ⟨_, (pss_cons (ps_expr (pe_has G_check_regions (hr.mono (by decide)) (pa_cons (pv 1) pa_nil)))
      (pss_cons (ps_setLc (own := [("tile", 3)]) (i := 2) rfl sc_plan.nd rfl rfl (sw_true rfl rfl rfl (by decide +kernel)) (pi_range1 rfl T.n_range (pa_cons (pe_meth0 (pv 0) T.clF mm_Frame_tiles F_Frame_tiles (hr.mono (by decide)) b_Frame_tiles .nil pass0) pa_nil)) (blkOk_by (N := ["frame", "regions", "ahead", "tile", "rows", "key", "place"]) (sc := defScope s_plan) (by decide +kernel)) (fun _ _ _ _ _ => by exact (pg_name (i := 3) sc_plan.nd rfl (by first | exact .inl rfl | exact .inr rfl))) (fun _ _ _ _ _ => by exact pts_nil) (fun _ _ _ _ _ => by exact (pe_has G_boost (hr.mono (by decide)) (pa_cons (pv 0) (pa_cons (pv 1) (pa_cons (pv 3) pa_nil))))))
      (pss_cons (ps_set (i := 4) sc_plan.nd rfl (by first | exact .inl rfl | exact .inr rfl) pe_dnewK)
      (pss_cons (ps_for PassesOwn.never rfl (pi_list (pe_has G_all_keys (hr.mono (by decide)) (pa_cons (pv 0) pa_nil))) (pg_name (i := 5) sc_plan.nd rfl (by first | exact .inl rfl | exact .inr rfl)) (pss_one (ps_expr (pe_bm PySem.F.plainAttrs_list PySem.F.slot_list_append PySem.F.type_list_append mt_append (pe_dsetd (pv 4) (pe_op op_add (pe_ix ix_tup (pv 5) pe_int (fun _ _ => rfl)) (pe_ix ix_list (pv 2) (pe_ix ix_tup (pv 5) pe_int (fun _ _ => rfl)) (fun _ _ => rfl))) (pe_lst pa_nil) ⟨rfl, rfl, rfl, rfl⟩) (pa_cons (pv 5) pa_nil)))))
      (pss_one (ps_ret (pe_lc2 (own := [("place", 6), ("key", 5)]) (vs1 := [5]) rfl sc_plan.nd (pi_list (pe_callBK (cr_sortDR rfl) rfl T.n_sorted (by decide +kernel) (pa_cons (pv 4) pa_nil) (pk_cons pe_bl pk_nil))) (blkOk_by (N := ["frame", "regions", "ahead", "tile", "rows", "key", "place"]) (sc := defScope s_plan) (by decide +kernel)) (by decide) (fun _ _ _ _ _ => by exact (pg_name (i := 6) sc_plan.nd rfl (by first | exact .inl rfl | exact .inr rfl))) (fun _ _ _ _ _ => by exact pts_nil) (fun _ _ _ _ _ => by exact (pi_listK (K := K) rfl (pe_dget (hu_of hr) (pv 4) (pv 6) (fun _ _ => rfl)))) (fun _ _ _ _ _ => by exact (pg_name (i := 5) sc_plan.nd rfl (by first | exact .inl rfl | exact .inr rfl))) (fun _ _ _ _ _ => by exact pts_nil) (fun _ _ _ _ _ => by exact (pv 5))))))))), ?_⟩
  simp only [tSeq, tAsg, tRet, tIfS, tTest, tOp, tUn, tVar, tC, tCons, tNil, tCB, tHas, gName, rI0, rI, rU, tNext, tNot, tAnd, tOr, tChain, tIf, tB, tNever, tRetN, tDrop, tTup, tLst, tMeth, tMake, tM0, tM1, tBits, tTruI, tBM, gSub, tSl, tNoPart, tPart, gcE, gnE, bs_length, tListRevR, tRg1, tFldE, sFldE, tPar3, cxK, nxK, List.append_nil, L2.start, List.map_cons, List.map_nil, List.length_cons, List.length_nil, List.replicate, List.cons_append, List.nil_append, List.getElem?_cons_zero, List.getElem?_cons_succ, List.set_cons_zero, List.set_cons_succ, Option.some.injEq, V.int.injEq, V.bl.injEq, V.str.injEq, V.ref.injEq, exists_eq_left', exists_eq_left, exists_and_left, List.cons.injEq, and_true, true_and, eq_self_iff_true, Nat.reduceAdd, Nat.reduceSub, Nat.zero_add, rEqI, rNeI, tAndV, tOrV, tNotV, natI, tDGet, tDIn, tDNotIn, sDPut, tDGet2, tDNewT, tDNewK, tDSetd, tCKw]
  refine ⟨b, rfl, hR, ?_⟩
  obtain ⟨dx, hF0⟩ := id hF
  have htl := F.tiles_le ok
  refine lc_rngB (k := F.tiles) (b := 16) (fun Q q => ?_) (by omega) (fun _ => rfl) ?_ ?_
  · simp only [tSeq, tAsg, tRet, tIfS, tTest, tOp, tUn, tVar, tC, tCons, tNil, tCB, tHas, gName, rI0, rI, rU, tNext, tNot, tAnd, tOr, tChain, tIf, tB, tNever, tRetN, tDrop, tTup, tLst, tMeth, tMake, tM0, tM1, tBits, tTruI, tBM, gSub, tSl, tNoPart, tPart, gcE, gnE, bs_length, tListRevR, tRg1, tFldE, sFldE, tPar3, cxK, nxK, List.append_nil, L2.start, List.map_cons, List.map_nil, List.length_cons, List.length_nil, List.replicate, List.cons_append, List.nil_append, List.getElem?_cons_zero, List.getElem?_cons_succ, List.set_cons_zero, List.set_cons_succ, Option.some.injEq, V.int.injEq, V.bl.injEq, V.str.injEq, V.ref.injEq, exists_eq_left', exists_eq_left, exists_and_left, List.cons.injEq, and_true, true_and, eq_self_iff_true, Nat.reduceAdd, Nat.reduceSub, Nat.zero_add, rEqI, rNeI, tAndV, tOrV, tNotV, natI, tDGet, tDIn, tDNotIn, sDPut, tDGet2, tDNewT, tDNewK, tDSetd, tCKw]
    exact ⟨dx, fsF F, hF0, rfl, a, F, rfl, hF, ok, q⟩
  · intro i H1 R hi e1 hR1
    simp only [wipe, List.set_cons_zero, List.set_cons_succ, List.foldl_cons, List.foldl_nil]
    simp only [tSeq, tAsg, tRet, tIfS, tTest, tOp, tUn, tVar, tC, tCons, tNil, tCB, tHas, gName, rI0, rI, rU, tNext, tNot, tAnd, tOr, tChain, tIf, tB, tNever, tRetN, tDrop, tTup, tLst, tMeth, tMake, tM0, tM1, tBits, tTruI, tBM, gSub, tSl, tNoPart, tPart, gcE, gnE, bs_length, tListRevR, tRg1, tFldE, sFldE, tPar3, cxK, nxK, List.append_nil, L2.start, List.map_cons, List.map_nil, List.length_cons, List.length_nil, List.replicate, List.cons_append, List.nil_append, List.getElem?_cons_zero, List.getElem?_cons_succ, List.set_cons_zero, List.set_cons_succ, Option.some.injEq, V.int.injEq, V.bl.injEq, V.str.injEq, V.ref.injEq, exists_eq_left', exists_eq_left, exists_and_left, List.cons.injEq, and_true, true_and, eq_self_iff_true, Nat.reduceAdd, Nat.reduceSub, Nat.zero_add, rEqI, rNeI, tAndV, tOrV, tNotV, natI, tDGet, tDIn, tDNotIn, sDPut, tDGet2, tDNewT, tDNewK, tDSetd, tCKw]
    exact ⟨a, b, F, i, rfl, hF.mono e1, ok, hi, hR.mono e1, hR1⟩
  · intro ah H1 ns hah e1 hahl hnl hnb
    intro rd hrd
    have e2 := e1.trans (Ex.new (o := .dK []) hrd)
    rw [forE]
    simp only [tSeq, tAsg, tRet, tIfS, tTest, tOp, tUn, tVar, tC, tCons, tNil, tCB, tHas, gName, rI0, rI, rU, tNext, tNot, tAnd, tOr, tChain, tIf, tB, tNever, tRetN, tDrop, tTup, tLst, tMeth, tMake, tM0, tM1, tBits, tTruI, tBM, gSub, tSl, tNoPart, tPart, gcE, gnE, bs_length, tListRevR, tRg1, tFldE, sFldE, tPar3, cxK, nxK, List.append_nil, L2.start, List.map_cons, List.map_nil, List.length_cons, List.length_nil, List.replicate, List.cons_append, List.nil_append, List.getElem?_cons_zero, List.getElem?_cons_succ, List.set_cons_zero, List.set_cons_succ, Option.some.injEq, V.int.injEq, V.bl.injEq, V.str.injEq, V.ref.injEq, exists_eq_left', exists_eq_left, exists_and_left, List.cons.injEq, and_true, true_and, eq_self_iff_true, Nat.reduceAdd, Nat.reduceSub, Nat.zero_add, rEqI, rNeI, tAndV, tOrV, tNotV, natI, tDGet, tDIn, tDNotIn, sDPut, tDGet2, tDNewT, tDNewK, tDSetd, tCKw]
    refine ⟨a, F, rfl, hF.mono e2, ok, fun l H2 xs hl e3 hlx hks => ?_⟩
    have hxl := hks.length
    have hkl := F.keys_len ok
    have hrd2 : H2 rd = some (.dK []) := e3 _ _ upd_same
    have hlrd : l ≠ rd := (ne_of_none (upd_same (H := H1) (a := rd) (o := .dK [])) hl).symm
    have e02 : Ex H H2 := e2.trans e3
    have hrd0 : H rd = none := fresh_back e1 hrd
    have keepH : ∀ {H' : Hp}, (∀ b o, b ≠ rd → H2 b = some o → H' b = some o) → Ex H H' := fun {H'} e b o h => e b o (by
      rintro rfl
      rw [hrd0] at h
      cases h) (e02 b o h)
    have keepK : ∀ {H' : Hp}, (∀ b o, b ≠ rd → H2 b = some o → H' b = some o) → ∀ {v k}, KeyAt H2 v k → KeyAt H' v k := fun {H'} e {v k} h => by
      obtain ⟨x, ex, hx⟩ := h
      refine ⟨x, ex, e x _ ?_ hx⟩
      rintro rfl
      rw [hrd2] at hx
      cases hx
    have hah2 : H2 ah = some (.lst (intsN ns)) := ((Ex.new (o := .dK []) hrd).trans e3) _ _ hahl
    have hahrd : ah ≠ rd := ne_of_none hahl hrd
    refine s_list (a := l) (xs := xs) (fun Q q => q) (sq_of hlx) (fun i σ' H' => (∀ b o, b ≠ rd → H2 b = some o → H' b = some o) ∧ (∃ qs ra, RowsD H2 H' rd ns (F.keys.take i) qs ra) ∧ ∃ v5, σ' = [some (.ref a), some (.ref b), some (.ref ah), none, some (.ref rd), v5, none])
      ⟨fun _ _ _ h => h, ⟨[], fun _ => 0, ⟨⟨[], hrd2, rfl, fun _ h => absurd h List.not_mem_nil, fun _ _ => rfl⟩, List.nodup_nil, fun q => by simp, fun _ h => absurd h List.not_mem_nil, fun _ h => absurd h List.not_mem_nil, by simp⟩⟩, none, rfl⟩ (fun i σ' H' p => sq_of (p.1 _ _ hlrd hlx)) ?_ ?_
    · rintro i x σ' H3 hx ⟨e4, ⟨qs, ra, hD⟩, v5, rfl⟩
      obtain ⟨k, hk, hkx⟩ := All2.get hks hx
      have inr := Fr.mem_keys.mp (List.mem_of_getElem? hk)
      have hk3 := keepK e4 hkx
      obtain ⟨ka, rfl, hka⟩ := id hk3
      have hil : i < F.keys.length := (List.getElem?_eq_some_iff.mp hk).1
      have htl2 : (F.keys.take i).length = i := by rw [List.length_take]; omega
      have hlen := hD.len
      rw [htl2] at hlen
      simp only [tSeq, tAsg, tRet, tIfS, tTest, tOp, tUn, tVar, tC, tCons, tNil, tCB, tHas, gName, rI0, rI, rU, tNext, tNot, tAnd, tOr, tChain, tIf, tB, tNever, tRetN, tDrop, tTup, tLst, tMeth, tMake, tM0, tM1, tBits, tTruI, tBM, gSub, tSl, tNoPart, tPart, gcE, gnE, bs_length, tListRevR, tRg1, tFldE, sFldE, tPar3, cxK, nxK, List.append_nil, L2.start, List.map_cons, List.map_nil, List.length_cons, List.length_nil, List.replicate, List.cons_append, List.nil_append, List.getElem?_cons_zero, List.getElem?_cons_succ, List.set_cons_zero, List.set_cons_succ, Option.some.injEq, V.int.injEq, V.bl.injEq, V.str.injEq, V.ref.injEq, exists_eq_left', exists_eq_left, exists_and_left, List.cons.injEq, and_true, true_and, eq_self_iff_true, Nat.reduceAdd, Nat.reduceSub, Nat.zero_add, rEqI, rNeI, tAndV, tOrV, tNotV, natI, tDGet, tDIn, tDNotIn, sDPut, tDGet2, tDNewT, tDNewK, tDSetd, tCKw]
      obtain ⟨kvs, d1, d2, d3, d4⟩ := id hD.dic
      have hns : ns[k.2.1]? = some (ns.getD k.2.1 0) := getD_some (by rw [hnl]; exact inr.2.1)
      refine ⟨.inl ⟨_, .inl d1⟩, ixT (j := 2) rfl (st_of hka) rfl (ixT (j := 1) rfl (st_of hka) rfl (ixL rfl (sq_of (e4 _ _ hahrd hah2)) (intsN_get hns) ⟨_, rfl, _, rfl, by decide, fun p hp => ?_⟩))⟩
      have hplc : ((k.2.2 : Nat) : Int) + ((ns.getD k.2.1 0 : Nat) : Int) = ((plc ns k : Nat) : Int) := by unfold plc; rw [Int.natCast_add]
      rw [hplc]
      have hkvl : kvs.length = qs.length := by
        have := congrArg List.length d2
        simpa using this
      have hD' := hD.mono (Ex.new (o := .lst []) hp)
      refine ⟨kvs, Ex.new hp _ _ d1, Sum.inl ((plc ns k : Nat) : Int), rfl, sz_lt (by omega), ?_, ?_⟩
      · intro v hv
        by_cases hq : plc ns k ∈ qs
        · rw [d3 _ hq] at hv
          cases hv
          obtain ⟨r1, ys, r2, r3, r4⟩ := hD'.row _ hq
          rw [htl2] at r4
          refine ⟨.inl ⟨rfl, _, sq_of r2⟩, _, _, _, rfl, rfl, r2, sz_lt (by omega), ?_, ⟨qs, ra, ?_⟩, _, rfl⟩
          · intro b o hb ho
            rw [upd_ne]
            · exact Ex.new hp _ _ (e4 b o hb ho)
            · rintro rfl
              rw [r1] at ho
              cases ho
          · rw [take_snoc hk]
            exact hD'.old (hk3.mono (Ex.new hp)) hq r2
        · rw [d4 _ hq] at hv
          cases hv
      · intro hv
        have hq : plc ns k ∉ qs := fun z => by
          rw [d3 _ z] at hv
          cases hv
        have hprd : rd ≠ p := ne_of_none d1 hp
        have hpp : (upd (upd H3 p (.lst [])) rd (.dK (putK kvs (Sum.inl ((plc ns k : Nat) : Int)) (.ref p)))) p = some (.lst []) := by rw [upd_ne hprd.symm]; exact upd_same
        have hp2 : H2 p = none := by
          cases h : H2 p with
          | none => rfl
          | some o =>
            rw [e4 p o hprd.symm h] at hp
            cases hp
        refine ⟨.inl ⟨rfl, _, sq_of hpp⟩, _, _, _, rfl, rfl, hpp, by decide, ?_, ⟨qs ++ [plc ns k], fun q => if q = plc ns k then p else ra q, ?_⟩, _, rfl⟩
        · intro b o hb ho
          have h3 := e4 b o hb ho
          rw [upd_ne (ne_of_none h3 hp), upd_ne hb]
          exact Ex.new hp _ _ h3
        · rw [take_snoc hk]
          exact hD'.add (hk3.mono (Ex.new hp)) hq upd_same hp2 (fun q hq' z => by
            obtain ⟨_, ys, r2, _⟩ := hD.row q hq'
            rw [z, hp] at r2
            cases r2) (Ex.new hp _ _ d1)
    · rintro σ' H3 ⟨e4, ⟨qs, ra, hD⟩, v5, rfl⟩
      rw [hxl, List.take_length] at hD
      simp only [tSeq, tAsg, tRet, tIfS, tTest, tOp, tUn, tVar, tC, tCons, tNil, tCB, tHas, gName, rI0, rI, rU, tNext, tNot, tAnd, tOr, tChain, tIf, tB, tNever, tRetN, tDrop, tTup, tLst, tMeth, tMake, tM0, tM1, tBits, tTruI, tBM, gSub, tSl, tNoPart, tPart, gcE, gnE, bs_length, tListRevR, tRg1, tFldE, sFldE, tPar3, cxK, nxK, List.append_nil, L2.start, List.map_cons, List.map_nil, List.length_cons, List.length_nil, List.replicate, List.cons_append, List.nil_append, List.getElem?_cons_zero, List.getElem?_cons_succ, List.set_cons_zero, List.set_cons_succ, Option.some.injEq, V.int.injEq, V.bl.injEq, V.str.injEq, V.ref.injEq, exists_eq_left', exists_eq_left, exists_and_left, List.cons.injEq, and_true, true_and, eq_self_iff_true, Nat.reduceAdd, Nat.reduceSub, Nat.zero_add, rEqI, rNeI, tAndV, tOrV, tNotV, natI, tDGet, tDIn, tDNotIn, sDPut, tDGet2, tDNewT, tDNewK, tDSetd, tCKw, lc2_is]
      rw [lc3E]
      simp only [tSeq, tAsg, tRet, tIfS, tTest, tOp, tUn, tVar, tC, tCons, tNil, tCB, tHas, gName, rI0, rI, rU, tNext, tNot, tAnd, tOr, tChain, tIf, tB, tNever, tRetN, tDrop, tTup, tLst, tMeth, tMake, tM0, tM1, tBits, tTruI, tBM, gSub, tSl, tNoPart, tPart, gcE, gnE, bs_length, tListRevR, tRg1, tFldE, sFldE, tPar3, cxK, nxK, List.append_nil, L2.start, List.map_cons, List.map_nil, List.length_cons, List.length_nil, List.replicate, List.cons_append, List.nil_append, List.getElem?_cons_zero, List.getElem?_cons_succ, List.set_cons_zero, List.set_cons_succ, Option.some.injEq, V.int.injEq, V.bl.injEq, V.str.injEq, V.ref.injEq, exists_eq_left', exists_eq_left, exists_and_left, List.cons.injEq, and_true, true_and, eq_self_iff_true, Nat.reduceAdd, Nat.reduceSub, Nat.zero_add, rEqI, rNeI, tAndV, tOrV, tNotV, natI, tDGet, tDIn, tDNotIn, sDPut, tDGet2, tDNewT, tDNewK, tDSetd, tCKw]
      obtain ⟨kvs, d1, d2, d3, d4⟩ := id hD.dic
      have hlen := hD.len
      refine ⟨rd, kvs, qs.map fun q : Nat => (q : Int), rfl, rfl, .inl d1, by rw [d2, List.map_map]; rfl, by simp; omega, fun ys ps perm hps => ?_⟩
      have hys : ∃ qs' : List Nat, ys = qs'.map (fun q : Nat => (q : Int)) ∧ qs'.Perm qs := by
        refine ⟨ys.map Int.toNat, ?_, ?_⟩
        · rw [List.map_map]
          have : ∀ y ∈ ys, ((fun q : Nat => (q : Int)) ∘ Int.toNat) y = y := fun y hy => by
            obtain ⟨q, _, rfl⟩ := List.mem_map.mp (perm.mem_iff.mp hy)
            simp
          exact ((List.map_congr_left this).trans (List.map_id' ys)).symm
        · have h1 := perm.map Int.toNat
          rw [List.map_map] at h1
          have h2 : qs.map (Int.toNat ∘ fun q : Nat => (q : Int)) = qs := by
            conv => rhs; rw [← List.map_id qs]
            apply List.map_congr_left
            intro q _
            simp
          rw [h2] at h1
          exact h1
      obtain ⟨qs', rfl, perm'⟩ := hys
      have eH3 : Ex H H3 := keepH e4
      have hD4 := hD.mono (Ex.new (o := .lst ((qs'.map (fun q : Nat => (q : Int))).map V.int)) hps)
      generalize hH4 : upd H3 ps (.lst ((qs'.map (fun q : Nat => (q : Int))).map V.int)) = H4 at hD4
      have hps4 : H4 ps = some (.lst ((qs'.map (fun q : Nat => (q : Int))).map V.int)) := by rw [← hH4]; exact upd_same
      have eH4 : Ex H H4 := by rw [← hH4]; exact eH3.trans (Ex.new hps)
      have hql : qs'.length = qs.length := perm'.length_eq
      let grp : Nat → List Key := fun q => F.keys.filter fun k => decide (plc ns k = q)
      have hnd : F.keys.Nodup := F.keys_nd
      have hg1 : ∀ q, (grp q).length ≤ 1000 := fun q => by
        have := List.length_filter_le (fun k => decide (plc ns k = q)) F.keys
        exact Nat.le_trans this hkl
      refine c0_list (a := ps) (xs := (qs'.map (fun q : Nat => (q : Int))).map V.int) (fun Q q => q) (sq_of hps4) (fun _ => rfl) (fun D i H' => Ex H4 H' ∧ ∃ acc, H' D = some (.lst acc) ∧ KeysAt H' acc ((qs'.take i).flatMap grp)) (fun D hD => ⟨Ex.new hD, [], upd_same, .nil⟩) (fun D i H' _ p => sq_of (p.1 _ _ hps4)) ?_ ?_
      · rintro D i x H5 hDn hx ⟨e5, acc, hacc, hka⟩
        rw [List.map_map, List.getElem?_map] at hx
        obtain ⟨q0, hq0, rfl⟩ := Option.map_eq_some_iff.mp hx
        have hq0m : q0 ∈ qs := perm'.mem_iff.mp (List.mem_of_getElem? hq0)
        have hi : i < qs'.length := (List.getElem?_eq_some_iff.mp hq0).1
        refine yesT ?_
        rw [clE]
        simp only [wipe, List.set_cons_zero, List.set_cons_succ, List.foldl_cons, List.foldl_nil]
        obtain ⟨kvs5, d15, d25, d35, d45⟩ := (hD4.mono e5).dic
        have hg := DGet.k (k := Sum.inl (q0 : Int)) d15
        rw [d35 q0 hq0m] at hg
        obtain ⟨_, xq, hxq, hxk, _⟩ := hD4.row q0 hq0m
        simp only [tSeq, tAsg, tRet, tIfS, tTest, tOp, tUn, tVar, tC, tCons, tNil, tCB, tHas, gName, rI0, rI, rU, tNext, tNot, tAnd, tOr, tChain, tIf, tB, tNever, tRetN, tDrop, tTup, tLst, tMeth, tMake, tM0, tM1, tBits, tTruI, tBM, gSub, tSl, tNoPart, tPart, gcE, gnE, bs_length, tListRevR, tRg1, tFldE, sFldE, tPar3, cxK, nxK, List.append_nil, L2.start, List.map_cons, List.map_nil, List.length_cons, List.length_nil, List.replicate, List.cons_append, List.nil_append, List.getElem?_cons_zero, List.getElem?_cons_succ, List.set_cons_zero, List.set_cons_succ, Option.some.injEq, V.int.injEq, V.bl.injEq, V.str.injEq, V.ref.injEq, exists_eq_left', exists_eq_left, exists_and_left, List.cons.injEq, and_true, true_and, eq_self_iff_true, Nat.reduceAdd, Nat.reduceSub, Nat.zero_add, rEqI, rNeI, tAndV, tOrV, tNotV, natI, tDGet, tDIn, tDNotIn, sDPut, tDGet2, tDNewT, tDNewK, tDSetd, tCKw]
        refine ⟨_, hg, ?_⟩
        refine cl_list (a := ra q0) (xs := xq) (fun Q q => q) (sq_of (e5 _ _ hxq)) (fun _ => rfl) (fun j H' => Ex H4 H' ∧ ∃ acc, H' D = some (.lst acc) ∧ KeysAt H' acc ((qs'.take i).flatMap grp ++ (grp q0).take j)) ⟨e5, acc, hacc, by simpa using hka⟩ (fun j H' p => sq_of (p.1 _ _ hxq)) ?_ ?_
        · rintro j x H6 hx6 ⟨e6, acc6, hacc6, hka6⟩
          obtain ⟨k, hk, hkx⟩ := All2.get hxk hx6
          refine yesT ?_
          simp only [wipe, List.set_cons_zero, List.set_cons_succ, List.foldl_cons, List.foldl_nil, tLast]
          simp only [tSeq, tAsg, tRet, tIfS, tTest, tOp, tUn, tVar, tC, tCons, tNil, tCB, tHas, gName, rI0, rI, rU, tNext, tNot, tAnd, tOr, tChain, tIf, tB, tNever, tRetN, tDrop, tTup, tLst, tMeth, tMake, tM0, tM1, tBits, tTruI, tBM, gSub, tSl, tNoPart, tPart, gcE, gnE, bs_length, tListRevR, tRg1, tFldE, sFldE, tPar3, cxK, nxK, List.append_nil, L2.start, List.map_cons, List.map_nil, List.length_cons, List.length_nil, List.replicate, List.cons_append, List.nil_append, List.getElem?_cons_zero, List.getElem?_cons_succ, List.set_cons_zero, List.set_cons_succ, Option.some.injEq, V.int.injEq, V.bl.injEq, V.str.injEq, V.ref.injEq, exists_eq_left', exists_eq_left, exists_and_left, List.cons.injEq, and_true, true_and, eq_self_iff_true, Nat.reduceAdd, Nat.reduceSub, Nat.zero_add, rEqI, rNeI, tAndV, tOrV, tNotV, natI, tDGet, tDIn, tDNotIn, sDPut, tDGet2, tDNewT, tDNewK, tDSetd, tCKw]
          have hal := hka6.length
          rw [List.length_append] at hal
          have w1 := flat_len hg1 (qs'.take i)
          have w2 : (qs'.take i).length ≤ 1000 := by rw [List.length_take]; omega
          have w3 : ((grp q0).take j).length ≤ 1000 := by rw [List.length_take]; have := hg1 q0; omega
          have w4 := Nat.mul_le_mul_right 1000 w2
          refine ⟨acc6, hacc6, by rw [sizeLine_eq]; omega, Ex.mut e6 hDn, _, upd_same, ?_⟩
          rw [take_snoc hk, ← List.append_assoc]
          exact All2.snoc ((hkx.mono e6).lst hacc6) (hka6.lst hacc6)
        · rintro H6 ⟨e6, acc6, hacc6, hka6⟩
          refine ⟨e6, acc6, hacc6, ?_⟩
          rw [hxk.length, List.take_length] at hka6
          rw [take_snoc hq0, List.flatMap_append]
          simpa using hka6
      · rintro D H5 hDn ⟨e5, acc, hacc, hka⟩
        rw [List.length_map, List.length_map, List.take_length] at hka
        refine q D H5 acc (qs'.flatMap grp) (fresh_back eH4 hDn) (eH4.trans e5) hacc hka ?_ ?_
        · unfold List.Nodup
          rw [List.pairwise_flatMap]
          refine ⟨fun q0 _ => hnd.filter _, (perm'.nodup_iff.mpr hD.nd).imp fun {q1 q2} hne x hx y hy e => hne ?_⟩
          have h1 := (List.mem_filter.mp hx).2
          have h2 := (List.mem_filter.mp hy).2
          rw [← e] at h2
          simp only [decide_eq_true_eq] at h1 h2
          rw [← h1, ← h2]
        · intro k
          rw [List.mem_flatMap]
          constructor
          · rintro ⟨q0, _, hk⟩
            exact Fr.mem_keys.mp (List.mem_filter.mp hk).1
          · intro hk
            have hm := Fr.mem_keys.mpr hk
            exact ⟨plc ns k, perm'.mem_iff.mpr ((hD.mem _).mpr ⟨k, hm, rfl⟩), List.mem_filter.mpr ⟨hm, by simp⟩⟩
end
end PK


set_option maxHeartbeats 4000000
namespace PK
open PySem PySem.Spec PyProof.Rows L2 Evl
local macro_rules | `(tactic| walk_at "rd") => `(tactic| simp only [tSeq, tAsg, tRet, tIfS, tTest, tOp, tUn, tVar, tC, tCons, tNil, tCB, tHas, gName, rI0, rI, rU, tNext, tNot, tAnd, tOr, tChain, tIf, tB, tNever, tRetN, tDrop, tTup, tLst, tMeth, tMake, tM0, tM1, tBits, tTruI, tBM, gSub, tSl, tNoPart, tPart, gcE, gnE, bs_length, tListRevR, tRg1, tFldE, sFldE, tPar3, cxK, nxK, List.append_nil,
  L2.start, List.map_cons, List.map_nil, List.length_cons, List.length_nil, List.replicate, List.cons_append, List.nil_append, List.getElem?_cons_zero, List.getElem?_cons_succ, List.set_cons_zero, List.set_cons_succ,
  Option.some.injEq, V.int.injEq, V.bl.injEq, V.str.injEq, V.ref.injEq, exists_eq_left', exists_eq_left, exists_and_left, List.cons.injEq, and_true, true_and, eq_self_iff_true, Nat.reduceAdd, Nat.reduceSub, Nat.zero_add])
/-! ### dicts by keys -/
def getG {α : Type} (m : List (Key × α)) (k : Key) : Option α := (m.find? fun e => decide (e.1 = k)).map (·.2)
def entG {α : Type} (f : α → V) (e : Key × α) : List L2.Key × V := (kk e.1, f e.2)
theorem valV_entG {α : Type} (f : α → V) (m : List (Key × α)) (k : Key) : valV (m.map (entG f)) (kk k) = (getG m k).map f := by
  unfold valV getG
  induction m with
  | nil => rfl
  | cons e m ih =>
    by_cases h : e.1 = k
    · have h2 : (entG f e).1 = kk k := by unfold entG; rw [h]
      simp [List.find?_cons, h, h2]
      rfl
    · have h2 : ¬ (entG f e).1 = kk k := fun z => h (kk_inj z)
      simp only [List.map_cons, List.find?_cons, h, h2, decide_false]
      exact ih
theorem putK_entG {α : Type} (f : α → V) {m : List (Key × α)} {k : Key} {c : α} (h : getG m k = none) : putK (m.map (entG f)) (kk k) (f c) = (m ++ [(k, c)]).map (entG f) := by
  have h2 := valV_any (kk k) (m.map (entG f))
  rw [valV_entG, h] at h2
  unfold putK
  rw [h2]
  simp
  rfl
theorem getG_app {α : Type} {m : List (Key × α)} {k k' : Key} {c : α} : getG (m ++ [(k, c)]) k' = (getG m k').or (if k = k' then some c else none) := by
  unfold getG
  rw [List.find?_append]
  cases h : m.find? fun e => decide (e.1 = k') with
  | some e => rfl
  | none =>
    by_cases hk : k = k'
    · simp [hk]
    · simp [hk]
theorem getG_none {α : Type} {m : List (Key × α)} {k : Key} : getG m k = none ↔ k ∉ m.map (·.1) := by
  unfold getG
  rw [Option.map_eq_none_iff, List.find?_eq_none, List.mem_map]
  constructor
  · rintro h ⟨e, he, rfl⟩
    exact h e he (by simp)
  · intro h e he z
    exact h ⟨e, he, by simpa using z⟩
theorem getG_mem {α : Type} : ∀ {m : List (Key × α)} {k : Key} {c : α}, (m.map (·.1)).Nodup → (k, c) ∈ m → getG m k = some c
  | e :: m, k, c, hn, h => by
    unfold getG
    rw [List.map_cons, List.nodup_cons] at hn
    rcases List.mem_cons.mp h with z | z
    · subst z
      simp
    · have hne : ¬ e.1 = k := fun w => hn.1 (w ▸ List.mem_map.mpr ⟨_, z, rfl⟩)
      simp only [List.find?_cons, hne, decide_false]
      exact getG_mem hn.2 z
theorem nodup_le : ∀ (N : Nat) (l : List Nat), l.Nodup → (∀ x ∈ l, x < N) → l.length ≤ N
  | 0, [], _, _ => Nat.le_refl _
  | 0, x :: l, _, h => absurd (h x List.mem_cons_self) (by omega)
  | N + 1, l, hn, h => by
    have h1 := nodup_le N (l.erase N) (hn.erase N) fun x hx => by
      have h2 := (hn.mem_erase_iff).mp hx
      have h3 := h x h2.2
      have := h2.1
      omega
    have h4 : l.length ≤ (l.erase N).length + 1 := by
      rw [List.length_erase]
      split <;> omega
    omega
theorem keys_bound {F : Fr} (ok : F.ok) {ks : List Key} (hn : ks.Nodup) (hm : ∀ k ∈ ks, InR F k) : ks.length ≤ 1000 := by
  have h0 := F.keys_len ok
  have h1 : (ks.map (code F)).length ≤ F.keys.length := nodup_le _ _ (by
    unfold List.Nodup
    rw [List.pairwise_map]
    refine List.Pairwise.imp_of_mem ?_ hn
    intro a b ha hb hne e
    obtain ⟨i, hi, hia⟩ := List.getElem_of_mem (Fr.mem_keys.mpr (hm a ha))
    obtain ⟨j, hj, hjb⟩ := List.getElem_of_mem (Fr.mem_keys.mpr (hm b hb))
    have h2 := Fr.idx (F := F) (j := i) (k := a) (by rw [List.getElem?_eq_getElem hi, hia])
    have h3 := Fr.idx (F := F) (j := j) (k := b) (by rw [List.getElem?_eq_getElem hj, hjb])
    have h4 : i = j := by rw [h2, h3, e]
    subst h4
    exact hne (by rw [← hia, ← hjb])) (fun x hx => by
    obtain ⟨k, hk, rfl⟩ := List.mem_map.mp hx
    obtain ⟨i, hi, hia⟩ := List.getElem_of_mem (Fr.mem_keys.mpr (hm k hk))
    have h2 := Fr.idx (F := F) (j := i) (k := k) (by rw [List.getElem?_eq_getElem hi, hia])
    omega)
  rw [List.length_map] at h1
  omega
/-! ### requests -/
abbrev Req := List (Key × Nat)
def ReqE (H : Hp) (v : V) (e : Key × Nat) : Prop := ∃ a b, v = .ref a ∧ H a = some (.tup [.ref b, .int (e.2 : Int)]) ∧ H b = some (keyT e.1)
def ReqAt (H : Hp) (l : Addr) (es : Req) : Prop := ∃ xs, H l = some (.lst xs) ∧ All2 (ReqE H) xs es
theorem ReqE.mono {H H' : Hp} {v : V} {e : Key × Nat} (x : Ex H H') (h : ReqE H v e) : ReqE H' v e := by
  obtain ⟨a, b, h1, h2, h3⟩ := h
  exact ⟨a, b, h1, x _ _ h2, x _ _ h3⟩
theorem ReqAt.mono {H H' : Hp} {l : Addr} {es : Req} (x : Ex H H') (h : ReqAt H l es) : ReqAt H' l es := by
  obtain ⟨xs, h1, h2⟩ := h
  exact ⟨xs, x _ _ h1, All2.mono (fun _ _ r => r.mono x) h2⟩
def opnM (F : Fr) (m : Dig) (k : Key) : Bool := decide (((fpM (F.tw k.2.1) (F.tw k.2.1 * F.th k.2.1) (digs m k)).getD []).length < F.tw k.2.1 * F.th k.2.1)
section
variable {P : Program} {w : World} {K : PySem.W.Frag} {mg : Str → Option Value} {base : Heap} {CF CP CA : Addr}
def spRequest (CF CA : Addr) : Sp := fun vs H Q _ => ∃ (a b d fr : Addr) (F : Fr) (m : Dig), vs = [.ref a, .ref b] ∧ ArrAt CF CA H a d fr F m ∧ F.ok ∧ DOk F m ∧ RegsAt H b ∧
  ∀ l H' (es : Req), H l = none → Ex H H' → ReqAt H' l es → (es.map (·.1)).Nodup → es.length ≤ 1000 → (∀ k n, (k, n) ∈ es ↔ InR F k ∧ opnM F m k = true ∧ n = (digs m k).length) → Q (.ref l) H'
theorem has_request (T : Top K mg CF CP CA) : Has P w K mg base CX0 11 "request" ["arrived", "regions"] (spRequest CF CA) := by
  have G_plan := has_plan (P := P) (w := w) (base := base) T
  have G_is_open := has_is_open (P := P) (w := w) (base := base) T
  obtain ⟨f_Arrived_digits, fd_Arrived_digits, mm_Arrived_digits, b_Arrived_digits, F_Arrived_digits⟩ := (has_Arrived_digits (P := P) (w := w) (base := base) T).ex
  refine has0 T.d_request sc_request (fun vs H Q E h => by
    repeat (obtain ⟨_, h⟩ := h)
    subst_vars
    rfl) fun f cdv A outer s H vs Q E hr h => ?_
  obtain ⟨a, b, d, fr, F, m, rfl, hA, ok, dok, hR, q⟩ := h
  refine ⟨_, (pss_cons (ps_set (i := 2) sc_request.nd rfl (by first | exact .inl rfl | exact .inr rfl) (pe_has G_plan (hr.mono (by decide)) (pa_cons (pe_fld (pv 0) rfl) (pa_cons (pv 1) pa_nil))))
      (pss_one (ps_ret (pe_lc (own := [("key", 3)]) rfl sc_request.nd (pi_list (pv 2)) (blkOk_by (N := ["arrived", "regions", "keys", "key"]) (sc := defScope s_request) (by decide +kernel)) (fun _ _ _ _ _ => by exact (pg_name (i := 3) sc_request.nd rfl (by first | exact .inl rfl | exact .inr rfl))) (fun _ _ _ _ _ => by exact (pts_one (pt_val (pe_has G_is_open (hr.mono (by decide)) (pa_cons (pv 0) (pa_cons (pv 3) pa_nil)))))) (fun _ _ _ _ _ => by exact (pe_tup (pa_cons (pv 3) (pa_cons (pe_callB call_len_str rfl T.n_len boot_len (pa_cons (pe_meth (pv 0) T.clA mm_Arrived_digits F_Arrived_digits (hr.mono (by decide)) b_Arrived_digits .nil pass0 (pa_cons (pv 3) pa_nil)) pa_nil)) pa_nil)))))))), ?_⟩
  obtain ⟨⟨dx, h1⟩, h2, h3⟩ := id hA
  simp only [tSeq, tAsg, tRet, tIfS, tTest, tOp, tUn, tVar, tC, tCons, tNil, tCB, tHas, gName, rI0, rI, rU, tNext, tNot, tAnd, tOr, tChain, tIf, tB, tNever, tRetN, tDrop, tTup, tLst, tMeth, tMake, tM0, tM1, tBits, tTruI, tBM, gSub, tSl, tNoPart, tPart, gcE, gnE, bs_length, tListRevR, tRg1, tFldE, sFldE, tPar3, cxK, nxK, List.append_nil, L2.start, List.map_cons, List.map_nil, List.length_cons, List.length_nil, List.replicate, List.cons_append, List.nil_append, List.getElem?_cons_zero, List.getElem?_cons_succ, List.set_cons_zero, List.set_cons_succ, Option.some.injEq, V.int.injEq, V.bl.injEq, V.str.injEq, V.ref.injEq, exists_eq_left', exists_eq_left, exists_and_left, List.cons.injEq, and_true, true_and, eq_self_iff_true, Nat.reduceAdd, Nat.reduceSub, Nat.zero_add, rEqI, rNeI, tAndV, tOrV, tNotV, natI, tDGet, tDIn, tDNotIn, sDPut, tDGet2, tDNewT, tDNewK, tDSetd, tCKw, arE T h1]
  refine ⟨fr, b, F, rfl, h2, ok, hR, fun l H1 xs ks hl e1 hlx hks hnd hmem => ?_⟩
  have hA1 := hA.mono e1
  have hxl := hks.length
  have kget : ∀ {i x}, xs[i]? = some x → KeyAt H1 x (ks.getD i default) ∧ InR F (ks.getD i default) := fun {i x} hx => by
    obtain ⟨k, hk, r⟩ := All2.get hks hx
    have e : ks.getD i default = k := by simp [hk]
    rw [e]
    exact ⟨r, (hmem k).mp (List.mem_of_getElem? hk)⟩
  have hkl : ks.length ≤ 1000 := keys_bound ok hnd fun k hk => (hmem k).mp hk
  simp only [tSeq, tAsg, tRet, tIfS, tTest, tOp, tUn, tVar, tC, tCons, tNil, tCB, tHas, gName, rI0, rI, rU, tNext, tNot, tAnd, tOr, tChain, tIf, tB, tNever, tRetN, tDrop, tTup, tLst, tMeth, tMake, tM0, tM1, tBits, tTruI, tBM, gSub, tSl, tNoPart, tPart, gcE, gnE, bs_length, tListRevR, tRg1, tFldE, sFldE, tPar3, cxK, nxK, List.append_nil, L2.start, List.map_cons, List.map_nil, List.length_cons, List.length_nil, List.replicate, List.cons_append, List.nil_append, List.getElem?_cons_zero, List.getElem?_cons_succ, List.set_cons_zero, List.set_cons_succ, Option.some.injEq, V.int.injEq, V.bl.injEq, V.str.injEq, V.ref.injEq, exists_eq_left', exists_eq_left, exists_and_left, List.cons.injEq, and_true, true_and, eq_self_iff_true, Nat.reduceAdd, Nat.reduceSub, Nat.zero_add, rEqI, rNeI, tAndV, tOrV, tNotV, natI, tDGet, tDIn, tDNotIn, sDPut, tDGet2, tDNewT, tDNewK, tDSetd, tCKw]
  refine lo_listF (a := l) (xs := xs) (fun Q q => ⟨_, rfl, q⟩) (sq_of hlx) (by omega) (fun i => opnM F m (ks.getD i default)) (fun i => .tup [xs.getD i .non, .int (((digs m (ks.getD i default)).length : Nat) : Int)]) (fun _ => rfl) ?_ ?_ ?_
  · intro i x H2 R hx e2 hR2
    obtain ⟨⟨ka, rfl, hka⟩, inr⟩ := kget hx
    simp only [wipe, List.set_cons_zero, List.set_cons_succ, List.foldl_cons, List.foldl_nil]
    obtain ⟨hl16, hsome⟩ := dok _ inr
    obtain ⟨s1, hs1⟩ := Option.isSome_iff_exists.mp hsome
    simp only [tSeq, tAsg, tRet, tIfS, tTest, tOp, tUn, tVar, tC, tCons, tNil, tCB, tHas, gName, rI0, rI, rU, tNext, tNot, tAnd, tOr, tChain, tIf, tB, tNever, tRetN, tDrop, tTup, tLst, tMeth, tMake, tM0, tM1, tBits, tTruI, tBM, gSub, tSl, tNoPart, tPart, gcE, gnE, bs_length, tListRevR, tRg1, tFldE, sFldE, tPar3, cxK, nxK, List.append_nil, L2.start, List.map_cons, List.map_nil, List.length_cons, List.length_nil, List.replicate, List.cons_append, List.nil_append, List.getElem?_cons_zero, List.getElem?_cons_succ, List.set_cons_zero, List.set_cons_succ, Option.some.injEq, V.int.injEq, V.bl.injEq, V.str.injEq, V.ref.injEq, exists_eq_left', exists_eq_left, exists_and_left, List.cons.injEq, and_true, true_and, eq_self_iff_true, Nat.reduceAdd, Nat.reduceSub, Nat.zero_add, rEqI, rNeI, tAndV, tOrV, tNotV, natI, tDGet, tDIn, tDNotIn, sDPut, tDGet2, tDNewT, tDNewK, tDSetd, tCKw]
    refine ⟨a, d, fr, ka, F, m, ks.getD i default, s1, rfl, hA1.mono e2, ok, e2 _ _ hka, inr, hl16, hs1, fun H3 e3 => ⟨_, rfl, ?_⟩⟩
    have := hR2 H3 e3
    unfold opnM at this
    rw [hs1] at this
    exact this
  · intro i x H2 R hx hf e2 hR2
    obtain ⟨⟨ka, rfl, hka⟩, inr⟩ := kget hx
    obtain ⟨⟨dx2, h12⟩, h22, h32⟩ := hA1.mono e2
    have hxg : xs.getD i .non = .ref ka := by simp [hx]
    rw [hxg] at hR2
    simp only [wipe, List.set_cons_zero, List.set_cons_succ, List.foldl_cons, List.foldl_nil]
    simp only [tSeq, tAsg, tRet, tIfS, tTest, tOp, tUn, tVar, tC, tCons, tNil, tCB, tHas, gName, rI0, rI, rU, tNext, tNot, tAnd, tOr, tChain, tIf, tB, tNever, tRetN, tDrop, tTup, tLst, tMeth, tMake, tM0, tM1, tBits, tTruI, tBM, gSub, tSl, tNoPart, tPart, gcE, gnE, bs_length, tListRevR, tRg1, tFldE, sFldE, tPar3, cxK, nxK, List.append_nil, L2.start, List.map_cons, List.map_nil, List.length_cons, List.length_nil, List.replicate, List.cons_append, List.nil_append, List.getElem?_cons_zero, List.getElem?_cons_succ, List.set_cons_zero, List.set_cons_succ, Option.some.injEq, V.int.injEq, V.bl.injEq, V.str.injEq, V.ref.injEq, exists_eq_left', exists_eq_left, exists_and_left, List.cons.injEq, and_true, true_and, eq_self_iff_true, Nat.reduceAdd, Nat.reduceSub, Nat.zero_add, rEqI, rNeI, tAndV, tOrV, tNotV, natI, tDGet, tDIn, tDNotIn, sDPut, tDGet2, tDNewT, tDNewK, tDSetd, tCKw]
    refine ⟨dx2, fsA fr d, h12, rfl, a, d, fr, ka, F, m, ks.getD i default, rfl, hA1.mono e2, ok, e2 _ _ hka, inr, _, rfl, ?_, by decide, fun p hp => ?_⟩
    · have := (dok _ inr).1
      rw [bs_length]
      exact sz_of (by omega)
    · rw [bs_length]
      exact hR2 p _ hp (Ex.new hp) upd_same
  · intro l2 H2 ys hl2 e2 hl2x hys
    have e : (ks.filter (opnM F m)).map (fun k => ((k, (digs m k).length) : Key × Nat)) = (((List.range xs.length).filter fun i => opnM F m (ks.getD i default)).map fun i => ((ks.getD i default, (digs m (ks.getD i default)).length) : Key × Nat)) := by
      rw [hxl]
      conv => lhs; rw [← range_get ks default, List.filter_map, List.map_map]
      rfl
    refine q l2 H2 ((ks.filter (opnM F m)).map fun k => (k, (digs m k).length)) (fresh_back e1 hl2) (e1.trans e2) ⟨ys, hl2x, ?_⟩ ?_ ?_ ?_
    · rw [e]
      refine all2_conv hys fun i hi v hv => ?_
      have hi2 : i < xs.length := List.mem_range.mp (List.mem_filter.mp hi).1
      obtain ⟨⟨ka, hka0, hka⟩, inr⟩ := kget (List.getElem?_eq_getElem hi2)
      obtain ⟨a2, rfl, ha2⟩ := hv
      have hxg : xs.getD i .non = .ref ka := by simp [hi2, hka0]
      rw [hxg] at ha2
      exact ⟨a2, ka, rfl, ha2, e2 _ _ hka⟩
    · rw [List.map_map]
      have : ((fun x : Key × Nat => x.1) ∘ fun k => ((k, (digs m k).length) : Key × Nat)) = id := rfl
      rw [this, List.map_id]
      exact hnd.filter _
    · have := List.length_filter_le (opnM F m) ks
      rw [List.length_map]
      omega
    · intro k n
      simp only [List.mem_map, List.mem_filter, Prod.mk.injEq]
      constructor
      · rintro ⟨k', ⟨h1, h2⟩, rfl, rfl⟩
        exact ⟨(hmem _).mp h1, h2, rfl⟩
      · rintro ⟨h1, h2, rfl⟩
        exact ⟨k, ⟨(hmem k).mpr h1, h2⟩, rfl, rfl⟩
def spReqs (CF : Addr) : Sp := fun vs H Q _ => ∃ (a l : Addr) (F : Fr) (es : Req), vs = [.ref a, .ref l] ∧ FrAt CF H a F ∧ F.ok ∧ ReqAt H l es ∧ (es.map (·.1)).Nodup ∧ es.length ≤ 1000 ∧ (∀ e ∈ es, InR F e.1 ∧ e.2 ≤ 65535) ∧ ∀ H', Ex H H' → Q .non H'
theorem has_check_requests (T : Top K mg CF CP CA) : Has P w K mg base CX0 4 "check_requests" ["frame", "requests"] (spReqs CF) := by
  have G_check_key := has_check_key (P := P) (w := w) (base := base) T
  refine has0 T.d_check_requests sc_check_requests (fun vs H Q E h => by
    repeat (obtain ⟨_, h⟩ := h)
    subst_vars
    rfl) fun f cdv A outer s H vs Q E hr h => ?_
  obtain ⟨a, l, F, es, rfl, hF, ok, ⟨xs, hlx, hes⟩, hnd, hel, hall, q⟩ := h
  refine ⟨_, (pss_cons (ps_set (i := 2) sc_check_requests.nd rfl (by first | exact .inl rfl | exact .inr rfl) pe_dnewT)
      (pss_one (ps_for PassesOwn.never rfl (pi_list (pv 1)) (pg_tup rfl (pgs_cons (pg_name (i := 3) sc_check_requests.nd rfl (by first | exact .inl rfl | exact .inr rfl)) (pgs_cons (pg_name (i := 4) sc_check_requests.nd rfl (by first | exact .inl rfl | exact .inr rfl)) pgs_nil))) (pss_cons (ps_expr (pe_has G_check_key (hr.mono (by decide)) (pa_cons (pv 0) (pa_cons (pv 3) pa_nil))))
      (pss_cons (ps_if (pt_not (pt_chain op_le op_le pe_int (pv 4) (pe_gint T.c_START_MOST))) (pss_one ps_never) pss_nil)
      (pss_cons (ps_if (pt_cmp (pc_din (hu_of hr) (pv 3) (pv 2))) (pss_one ps_never) pss_nil)
      (pss_one (ps_dput (hu_of hr) (pv 2) (pv 3) pe_bl rfl)))))))), ?_⟩
  simp only [tSeq, tAsg, tRet, tIfS, tTest, tOp, tUn, tVar, tC, tCons, tNil, tCB, tHas, gName, rI0, rI, rU, tNext, tNot, tAnd, tOr, tChain, tIf, tB, tNever, tRetN, tDrop, tTup, tLst, tMeth, tMake, tM0, tM1, tBits, tTruI, tBM, gSub, tSl, tNoPart, tPart, gcE, gnE, bs_length, tListRevR, tRg1, tFldE, sFldE, tPar3, cxK, nxK, List.append_nil, L2.start, List.map_cons, List.map_nil, List.length_cons, List.length_nil, List.replicate, List.cons_append, List.nil_append, List.getElem?_cons_zero, List.getElem?_cons_succ, List.set_cons_zero, List.set_cons_succ, Option.some.injEq, V.int.injEq, V.bl.injEq, V.str.injEq, V.ref.injEq, exists_eq_left', exists_eq_left, exists_and_left, List.cons.injEq, and_true, true_and, eq_self_iff_true, Nat.reduceAdd, Nat.reduceSub, Nat.zero_add, rEqI, rNeI, tAndV, tOrV, tNotV, natI, tDGet, tDIn, tDNotIn, sDPut, tDGet2, tDNewT, tDNewK, tDSetd, tCKw]
  intro sd hsd
  have hxl := hes.length
  have hsl : l ≠ sd := ne_of_none hlx hsd
  have keep : ∀ {H' : Hp}, (∀ b o, b ≠ sd → H b = some o → H' b = some o) → Ex H H' := fun {H'} e b o h => e b o (ne_of_none h hsd) h
  refine s_listT (a := l) (xs := xs) (fun Q q => ⟨_, rfl, q⟩) (sq_of (Ex.new hsd _ _ hlx)) (fun i σ' H' => (∀ b o, b ≠ sd → H b = some o → H' b = some o) ∧ (∃ m : List (Key × Unit), H' sd = some (.dT (m.map (entG fun _ => .bl true))) ∧ m.length = i ∧ m.map (·.1) = (es.take i).map (·.1)) ∧ ∃ v3 v4, σ' = [some (.ref a), some (.ref l), some (.ref sd), v3, v4])
    ⟨fun b o hb ho => by rw [upd_ne hb]; exact ho, ⟨[], upd_same, rfl, rfl⟩, none, none, rfl⟩ (fun i σ' H' p => sq_of (p.1 _ _ hsl hlx)) ?_ ?_
  · rintro i x σ' H' hx ⟨e1, ⟨m, hm, hml, hmk⟩, v3, v4, rfl⟩
    obtain ⟨e, he, ea, kb, rfl, hea, hkb⟩ := All2.get hes hx
    have eH := keep e1
    obtain ⟨inr, hst⟩ := hall e (List.mem_of_getElem? he)
    refine gtup (st_of (eH _ _ hea)) rfl ?_
    simp only [tSeq, tAsg, tRet, tIfS, tTest, tOp, tUn, tVar, tC, tCons, tNil, tCB, tHas, gName, rI0, rI, rU, tNext, tNot, tAnd, tOr, tChain, tIf, tB, tNever, tRetN, tDrop, tTup, tLst, tMeth, tMake, tM0, tM1, tBits, tTruI, tBM, gSub, tSl, tNoPart, tPart, gcE, gnE, bs_length, tListRevR, tRg1, tFldE, sFldE, tPar3, cxK, nxK, List.append_nil, L2.start, List.map_cons, List.map_nil, List.length_cons, List.length_nil, List.replicate, List.cons_append, List.nil_append, List.getElem?_cons_zero, List.getElem?_cons_succ, List.set_cons_zero, List.set_cons_succ, Option.some.injEq, V.int.injEq, V.bl.injEq, V.str.injEq, V.ref.injEq, exists_eq_left', exists_eq_left, exists_and_left, List.cons.injEq, and_true, true_and, eq_self_iff_true, Nat.reduceAdd, Nat.reduceSub, Nat.zero_add, rEqI, rNeI, tAndV, tOrV, tNotV, natI, tDGet, tDIn, tDNotIn, sDPut, tDGet2, tDNewT, tDNewK, tDSetd, tCKw]
    refine ⟨a, kb, F, e.1, rfl, hF.mono eH, ok, eH _ _ hkb, inr, ?_⟩
    dsimp only
    rw [if_pos (decide_eq_true (by omega)), if_neg (by simp; omega)]
    have hil : i < es.length := (List.getElem?_eq_some_iff.mp he).1
    have hnone : getG m e.1 = none := by
      rw [getG_none, hmk]
      intro hm2
      have h3 : (es.map (·.1)).take i ++ [e.1] = (es.map (·.1)).take (i + 1) := by
        rw [take_snoc (x := e.1) (by rw [List.getElem?_map, he]; rfl)]
      have h4 : ((es.map (·.1)).take (i + 1)).Nodup := hnd.sublist (List.take_sublist _ _)
      rw [← h3] at h4
      rw [List.map_take] at hm2
      exact (List.nodup_append.mp h4).2.2 e.1 hm2 e.1 List.mem_cons_self rfl
    have hg := DGet.t (k := kk e.1) hm (eH _ _ hkb)
    rw [valV_entG, hnone] at hg
    refine ⟨_, hg, iteF ⟨_, DPut.t (k := kk e.1) hm (eH _ _ hkb) (by rw [List.length_map]; exact sz_lt (by omega)), ?_, ⟨m ++ [(e.1, ())], ?_, by simp; omega, ?_⟩, _, rfl⟩⟩
    · intro b o hb ho
      rw [upd_ne hb]
      exact e1 b o hb ho
    · rw [upd_same]
      have := putK_entG (f := fun _ : Unit => V.bl true) (c := ()) hnone
      rw [this]
    · rw [take_snoc he, List.map_append, List.map_append, hmk]
      rfl
  · rintro σ' H' ⟨e1, _, v3, v4, rfl⟩
    exact q H' (keep e1)
def spAsked (CF CP : Addr) : Sp := fun vs H Q _ => ∃ (a b l : Addr) (F : Fr) (p : Pic) (es : Req), vs = [.ref a, .ref b, .ref l] ∧ FrAt CF H a F ∧ PicAt CP H b p ∧ Fits F p ∧ F.ok ∧ ReqAt H l es ∧ (es.map (·.1)).Nodup ∧ es.length ≤ 1000 ∧ (∀ e ∈ es, InR F e.1 ∧ e.2 ≤ 65535) ∧ ∀ H', Ex H H' → Q .non H'
theorem has_check_asked (T : Top K mg CF CP CA) : Has P w K mg base CX0 5 "check_asked" ["frame", "picture", "requests"] (spAsked CF CP) := by
  have G_check_requests := has_check_requests (P := P) (w := w) (base := base) T
  have G_fits_frame := has_fits_frame (P := P) (w := w) (base := base) T
  refine has0 T.d_check_asked sc_check_asked (fun vs H Q E h => by
    repeat (obtain ⟨_, h⟩ := h)
    subst_vars
    rfl) fun f cdv A outer s H vs Q E hr h => ?_
  obtain ⟨a, b, l, F, p, es, rfl, hF, hP, fits, ok, hR, hnd, hel, hall, q⟩ := h
  refine ⟨_, (pss_cons (ps_if (pt_not (pt_val (pe_has G_fits_frame (hr.mono (by decide)) (pa_cons (pv 0) (pa_cons (pv 1) pa_nil))))) (pss_one ps_never) pss_nil)
      (pss_one (ps_expr (pe_has G_check_requests (hr.mono (by decide)) (pa_cons (pv 0) (pa_cons (pv 2) pa_nil)))))), ?_⟩
  simp only [tSeq, tAsg, tRet, tIfS, tTest, tOp, tUn, tVar, tC, tCons, tNil, tCB, tHas, gName, rI0, rI, rU, tNext, tNot, tAnd, tOr, tChain, tIf, tB, tNever, tRetN, tDrop, tTup, tLst, tMeth, tMake, tM0, tM1, tBits, tTruI, tBM, gSub, tSl, tNoPart, tPart, gcE, gnE, bs_length, tListRevR, tRg1, tFldE, sFldE, tPar3, cxK, nxK, List.append_nil, L2.start, List.map_cons, List.map_nil, List.length_cons, List.length_nil, List.replicate, List.cons_append, List.nil_append, List.getElem?_cons_zero, List.getElem?_cons_succ, List.set_cons_zero, List.set_cons_succ, Option.some.injEq, V.int.injEq, V.bl.injEq, V.str.injEq, V.ref.injEq, exists_eq_left', exists_eq_left, exists_and_left, List.cons.injEq, and_true, true_and, eq_self_iff_true, Nat.reduceAdd, Nat.reduceSub, Nat.zero_add, rEqI, rNeI, tAndV, tOrV, tNotV, natI, tDGet, tDIn, tDNotIn, sDPut, tDGet2, tDNewT, tDNewK, tDSetd, tCKw]
  refine ⟨a, b, F, p, rfl, hF, hP, _, rfl, ?_⟩
  rw [decide_eq_true (show F.W = p.W ∧ F.Hh = p.Hh ∧ F.D = p.D ∧ F.C = p.C from fits), if_neg (by decide)]
  exact ⟨a, l, F, es, rfl, hF, ok, hR, hnd, hel, hall, q⟩
def spBitsN : Sp := fun vs H Q _ => ∃ n : Nat, vs = [.int ((n : Nat) : Int)] ∧ 1 ≤ n ∧ Q (.int (bitLen (n - 1) : Nat)) H
theorem has_bits_needed (T : Top K mg CF CP CA) : Has P w K mg base CX0 1 "bits_needed" ["number"] spBitsN := by
  refine has0 T.d_bits_needed sc_bits_needed (fun vs H Q E h => by
    repeat (obtain ⟨_, h⟩ := h)
    subst_vars
    rfl) fun f cdv A outer s H vs Q E hr h => ?_
  obtain ⟨n, rfl, hn, q⟩ := h
  refine ⟨_, (pss_one (ps_ret (pe_bits (pe_op op_sub (pv 0) pe_int)))), ?_⟩
  simp only [tSeq, tAsg, tRet, tIfS, tTest, tOp, tUn, tVar, tC, tCons, tNil, tCB, tHas, gName, rI0, rI, rU, tNext, tNot, tAnd, tOr, tChain, tIf, tB, tNever, tRetN, tDrop, tTup, tLst, tMeth, tMake, tM0, tM1, tBits, tTruI, tBM, gSub, tSl, tNoPart, tPart, gcE, gnE, bs_length, tListRevR, tRg1, tFldE, sFldE, tPar3, cxK, nxK, List.append_nil, L2.start, List.map_cons, List.map_nil, List.length_cons, List.length_nil, List.replicate, List.cons_append, List.nil_append, List.getElem?_cons_zero, List.getElem?_cons_succ, List.set_cons_zero, List.set_cons_succ, Option.some.injEq, V.int.injEq, V.bl.injEq, V.str.injEq, V.ref.injEq, exists_eq_left', exists_eq_left, exists_and_left, List.cons.injEq, and_true, true_and, eq_self_iff_true, Nat.reduceAdd, Nat.reduceSub, Nat.zero_add, rEqI, rNeI, tAndV, tOrV, tNotV, natI, tDGet, tDIn, tDNotIn, sDPut, tDGet2, tDNewT, tDNewK, tDSetd, tCKw]
  have e : Builtin.Int.intBits ((n : Int) - 1) = bitLen (n - 1) := by
    have e1 : (n : Int) - 1 = ((n - 1 : Nat) : Int) := by omega
    rw [e1]
    unfold Builtin.Int.intBits bitLen
    by_cases h0 : n - 1 = 0
    · rw [h0]; rfl
    · have h1 : ¬ (((n - 1 : Nat) : Int) == 0) = true := by simpa using h0
      rw [if_neg h1, if_neg h0, Int.natAbs_natCast]
  rw [e]
  exact q
def spRemL (CF CA : Addr) : Sp := fun vs H Q _ => ∃ (a d fr : Addr) (F : Fr) (m : Dig), vs = [.ref a] ∧ ArrAt CF CA H a d fr F m ∧ F.ok ∧ DOk F m ∧ (∀ k, InR F k → 1 ≤ chM F m k ∧ chM F m k ≤ 16) ∧ ∀ H', Ex H H' → Q (.int (bitLen (cpM F m - 1) : Nat)) H'
theorem cp_pos {F : Fr} {m : Dig} : ∀ {ks : List Key} {n : Nat}, (∀ k ∈ ks, 1 ≤ chM F m k) → 1 ≤ n → 1 ≤ ks.foldl (fun n k => n * chM F m k) n
  | [], _, _, hn => hn
  | k :: ks, n, hk, hn => by
    simp only [List.foldl_cons]
    exact cp_pos (fun k' hk' => hk k' (List.mem_cons_of_mem _ hk')) (Nat.mul_le_mul hn (hk k List.mem_cons_self))
theorem has_remainder_length (T : Top K mg CF CP CA) : Has P w K mg base CX0 11 "remainder_length" ["arrived"] (spRemL CF CA) := by
  have G_bits_needed := has_bits_needed (P := P) (w := w) (base := base) T
  have G_count_pictures := has_count_pictures (P := P) (w := w) (base := base) T
  refine has0 T.d_remainder_length sc_remainder_length (fun vs H Q E h => by
    repeat (obtain ⟨_, h⟩ := h)
    subst_vars
    rfl) fun f cdv A outer s H vs Q E hr h => ?_
  obtain ⟨a, d, fr, F, m, rfl, hA, ok, dok, hch, q⟩ := h
  refine ⟨_, (pss_one (ps_ret (pe_has G_bits_needed (hr.mono (by decide)) (pa_cons (pe_has G_count_pictures (hr.mono (by decide)) (pa_cons (pv 0) pa_nil)) pa_nil)))), ?_⟩
  simp only [tSeq, tAsg, tRet, tIfS, tTest, tOp, tUn, tVar, tC, tCons, tNil, tCB, tHas, gName, rI0, rI, rU, tNext, tNot, tAnd, tOr, tChain, tIf, tB, tNever, tRetN, tDrop, tTup, tLst, tMeth, tMake, tM0, tM1, tBits, tTruI, tBM, gSub, tSl, tNoPart, tPart, gcE, gnE, bs_length, tListRevR, tRg1, tFldE, sFldE, tPar3, cxK, nxK, List.append_nil, L2.start, List.map_cons, List.map_nil, List.length_cons, List.length_nil, List.replicate, List.cons_append, List.nil_append, List.getElem?_cons_zero, List.getElem?_cons_succ, List.set_cons_zero, List.set_cons_succ, Option.some.injEq, V.int.injEq, V.bl.injEq, V.str.injEq, V.ref.injEq, exists_eq_left', exists_eq_left, exists_and_left, List.cons.injEq, and_true, true_and, eq_self_iff_true, Nat.reduceAdd, Nat.reduceSub, Nat.zero_add, rEqI, rNeI, tAndV, tOrV, tNotV, natI, tDGet, tDIn, tDNotIn, sDPut, tDGet2, tDNewT, tDNewK, tDSetd, tCKw]
  exact ⟨a, d, fr, F, m, rfl, hA, ok, dok, fun k hk => (hch k hk).2, fun H1 e1 => ⟨cpM F m, rfl, cp_pos (fun k hk => (hch k (Fr.mem_keys.mp hk)).1) (by decide), q H1 e1⟩⟩
/-- of the picture's tiles -/
structure POk (F : Fr) (p : Pic) : Prop where
  len : ∀ k, InR F k → (pcM F p k).length ≤ 12
  pre : ∀ k n, InR F k → (fpM (F.tw k.2.1) (F.tw k.2.1 * F.th k.2.1) ((pcM F p k).take n)).isSome = true
def spConc (CF CP CA : Addr) : Sp := fun vs H Q _ => ∃ (a b l : Addr) (F : Fr) (p : Pic) (es : Req), vs = [.ref a, .ref b, .ref l] ∧ FrAt CF H a F ∧ PicAt CP H b p ∧ Fits F p ∧ F.ok ∧ p.ok ∧ POk F p ∧ ReqAt H l es ∧ (es.map (·.1)).Nodup ∧ es.length ≤ 1000 ∧ (∀ e ∈ es, InR F e.1 ∧ e.2 ≤ 65535) ∧
  ∀ r d H' m, H r = none → Ex H H' → ArrAt CF CA H' r d a F m → (∀ k, InR F k → digs m k = (pcM F p k).take ((getG es k).getD (pcM F p k).length)) → Q (.ref r) H'
theorem has_concluded (T : Top K mg CF CP CA) : Has P w K mg base CX0 8 "_concluded" ["frame", "picture", "requests"] (spConc CF CP CA) := by
  obtain ⟨f_iA, fd_iA, mkA, b_iA, F_iA⟩ := (has_Arrived_init (P := P) (w := w) (base := base) T).ex
  have G_all_keys := has_all_keys (P := P) (w := w) (base := base) T
  have G_packet_code := has_packet_code (P := P) (w := w) (base := base) T
  obtain ⟨f_Arrived_accept, fd_Arrived_accept, mm_Arrived_accept, b_Arrived_accept, F_Arrived_accept⟩ := (has_Arrived_accept (P := P) (w := w) (base := base) T).ex
  refine has0 T.d_concluded sc_concluded (fun vs H Q E h => by
    repeat (obtain ⟨_, h⟩ := h)
    subst_vars
    rfl) fun f cdv A outer s H vs Q E hr h => ?_
  obtain ⟨a, b, l, F, p, es, rfl, hF, hP, fits, ok, okp, pok, ⟨xs, hlx, hes⟩, hnd, hel, hall, q⟩ := h
  refine ⟨_, (pss_cons (ps_set (i := 3) sc_concluded.nd rfl (by first | exact .inl rfl | exact .inr rfl) pe_dnewT)
      (pss_cons (ps_for PassesOwn.never rfl (pi_list (pv 2)) (pg_tup rfl (pgs_cons (pg_name (i := 4) sc_concluded.nd rfl (by first | exact .inl rfl | exact .inr rfl)) (pgs_cons (pg_name (i := 5) sc_concluded.nd rfl (by first | exact .inl rfl | exact .inr rfl)) pgs_nil))) (pss_one (ps_dput (hu_of hr) (pv 3) (pv 4) (pv 5) rfl)))
      (pss_cons (ps_set (i := 6) sc_concluded.nd rfl (by first | exact .inl rfl | exact .inr rfl) (pe_make mkA F_iA (hr.mono (by decide)) rfl T.gA b_iA .nil pass0 (pa_cons (pv 0) pa_nil)))
      (pss_cons (ps_for PassesOwn.never rfl (pi_list (pe_has G_all_keys (hr.mono (by decide)) (pa_cons (pv 0) pa_nil))) (pg_name (i := 4) sc_concluded.nd rfl (by first | exact .inl rfl | exact .inr rfl)) (pss_cons (ps_set (i := 7) sc_concluded.nd rfl (by first | exact .inl rfl | exact .inr rfl) (pe_has G_packet_code (hr.mono (by decide)) (pa_cons (pv 0) (pa_cons (pv 1) (pa_cons (pv 4) pa_nil)))))
      (pss_one (ps_expr (pe_meth (pv 6) T.clA mm_Arrived_accept F_Arrived_accept (hr.mono (by decide)) b_Arrived_accept .nil pass0 (pa_cons (pv 4) (pa_cons pe_int (pa_cons (pe_slice sl_str (pv 7) po_none (po_some (pe_dget2 (hu_of hr) (pv 3) (pv 4) (pe_callB call_len_str rfl T.n_len boot_len (pa_cons (pv 7) pa_nil)) ⟨rfl, rfl, rfl, rfl⟩))) pa_nil))))))))
      (pss_one (ps_ret (pv 6))))))), ?_⟩
  simp only [tSeq, tAsg, tRet, tIfS, tTest, tOp, tUn, tVar, tC, tCons, tNil, tCB, tHas, gName, rI0, rI, rU, tNext, tNot, tAnd, tOr, tChain, tIf, tB, tNever, tRetN, tDrop, tTup, tLst, tMeth, tMake, tM0, tM1, tBits, tTruI, tBM, gSub, tSl, tNoPart, tPart, gcE, gnE, bs_length, tListRevR, tRg1, tFldE, sFldE, tPar3, cxK, nxK, List.append_nil, L2.start, List.map_cons, List.map_nil, List.length_cons, List.length_nil, List.replicate, List.cons_append, List.nil_append, List.getElem?_cons_zero, List.getElem?_cons_succ, List.set_cons_zero, List.set_cons_succ, Option.some.injEq, V.int.injEq, V.bl.injEq, V.str.injEq, V.ref.injEq, exists_eq_left', exists_eq_left, exists_and_left, List.cons.injEq, and_true, true_and, eq_self_iff_true, Nat.reduceAdd, Nat.reduceSub, Nat.zero_add, rEqI, rNeI, tAndV, tOrV, tNotV, natI, tDGet, tDIn, tDNotIn, sDPut, tDGet2, tDNewT, tDNewK, tDSetd, tCKw]
  intro sd hsd
  have hxl := hes.length
  have hsl : l ≠ sd := ne_of_none hlx hsd
  have keep : ∀ {H' : Hp}, (∀ b o, b ≠ sd → H b = some o → H' b = some o) → Ex H H' := fun {H'} e b o h => e b o (ne_of_none h hsd) h
  refine s_listT (a := l) (xs := xs) (fun Q q => ⟨_, rfl, q⟩) (sq_of (Ex.new hsd _ _ hlx)) (fun i σ' H' => (∀ b o, b ≠ sd → H b = some o → H' b = some o) ∧ H' sd = some (.dT ((es.take i).map (entG fun n : Nat => .int (n : Int)))) ∧ ∃ v4 v5, σ' = [some (.ref a), some (.ref b), some (.ref l), some (.ref sd), v4, v5, none, none])
    ⟨fun b o hb ho => by rw [upd_ne hb]; exact ho, upd_same, none, none, rfl⟩ (fun i σ' H' p => sq_of (p.1 _ _ hsl hlx)) ?_ ?_
  · rintro i x σ' H' hx ⟨e1, hm, v4, v5, rfl⟩
    obtain ⟨e, he, ea, kb, rfl, hea, hkb⟩ := All2.get hes hx
    have eH := keep e1
    refine gtup (st_of (eH _ _ hea)) rfl ?_
    have hil : i < es.length := (List.getElem?_eq_some_iff.mp he).1
    have hnone : getG (es.take i) e.1 = none := by
      rw [getG_none]
      intro hm2
      have h3 : (es.map (·.1)).take i ++ [e.1] = (es.map (·.1)).take (i + 1) := by
        rw [take_snoc (x := e.1) (by rw [List.getElem?_map, he]; rfl)]
      have h4 : ((es.map (·.1)).take (i + 1)).Nodup := hnd.sublist (List.take_sublist _ _)
      rw [← h3] at h4
      rw [List.map_take] at hm2
      exact (List.nodup_append.mp h4).2.2 e.1 hm2 e.1 List.mem_cons_self rfl
    simp only [tSeq, tAsg, tRet, tIfS, tTest, tOp, tUn, tVar, tC, tCons, tNil, tCB, tHas, gName, rI0, rI, rU, tNext, tNot, tAnd, tOr, tChain, tIf, tB, tNever, tRetN, tDrop, tTup, tLst, tMeth, tMake, tM0, tM1, tBits, tTruI, tBM, gSub, tSl, tNoPart, tPart, gcE, gnE, bs_length, tListRevR, tRg1, tFldE, sFldE, tPar3, cxK, nxK, List.append_nil, L2.start, List.map_cons, List.map_nil, List.length_cons, List.length_nil, List.replicate, List.cons_append, List.nil_append, List.getElem?_cons_zero, List.getElem?_cons_succ, List.set_cons_zero, List.set_cons_succ, Option.some.injEq, V.int.injEq, V.bl.injEq, V.str.injEq, V.ref.injEq, exists_eq_left', exists_eq_left, exists_and_left, List.cons.injEq, and_true, true_and, eq_self_iff_true, Nat.reduceAdd, Nat.reduceSub, Nat.zero_add, rEqI, rNeI, tAndV, tOrV, tNotV, natI, tDGet, tDIn, tDNotIn, sDPut, tDGet2, tDNewT, tDNewK, tDSetd, tCKw]
    refine ⟨_, DPut.t (k := kk e.1) hm (eH _ _ hkb) (by rw [List.length_map, List.length_take]; exact sz_lt (by omega)), ?_, ?_, _, rfl⟩
    · intro b o hb ho
      rw [upd_ne hb]
      exact e1 b o hb ho
    · rw [upd_same]
      have := putK_entG (f := fun n : Nat => V.int (n : Int)) (c := e.2) hnone
      rw [this, take_snoc he]
  · rintro σ' H1 ⟨e1, hm, v4, v5, rfl⟩
    rw [hxl, List.take_length] at hm
    have eH1 := keep e1
    simp only [tSeq, tAsg, tRet, tIfS, tTest, tOp, tUn, tVar, tC, tCons, tNil, tCB, tHas, gName, rI0, rI, rU, tNext, tNot, tAnd, tOr, tChain, tIf, tB, tNever, tRetN, tDrop, tTup, tLst, tMeth, tMake, tM0, tM1, tBits, tTruI, tBM, gSub, tSl, tNoPart, tPart, gcE, gnE, bs_length, tListRevR, tRg1, tFldE, sFldE, tPar3, cxK, nxK, List.append_nil, L2.start, List.map_cons, List.map_nil, List.length_cons, List.length_nil, List.replicate, List.cons_append, List.nil_append, List.getElem?_cons_zero, List.getElem?_cons_succ, List.set_cons_zero, List.set_cons_succ, Option.some.injEq, V.int.injEq, V.bl.injEq, V.str.injEq, V.ref.injEq, exists_eq_left', exists_eq_left, exists_and_left, List.cons.injEq, and_true, true_and, eq_self_iff_true, Nat.reduceAdd, Nat.reduceSub, Nat.zero_add, rEqI, rNeI, tAndV, tOrV, tNotV, natI, tDGet, tDIn, tDNotIn, sDPut, tDGet2, tDNewT, tDNewK, tDSetd, tCKw]
    intro x dx hx hdx hne
    have hA1 : ∀ b o, H1 b = some o → (upd (upd H1 dx (.own x)) x (.ins CA dx [])) b = some o := fun b o ho => by
      rw [upd_ne (ne_of_none ho hx), upd_ne (ne_of_none ho hdx)]
      exact ho
    refine ⟨x, dx, a, F, rfl, upd_same, (hF.mono eH1).mono hA1, fun d H2 hd keep2 hArr => ⟨rfl, ?_⟩⟩
    have e12 : Ex H1 H2 := fun b o ho => keep2 b o (ne_of_none ho hx) (hA1 b o ho)
    have hd1 : H1 d = none := fresh_back hA1 hd
    have hd0 : H d = none := fresh_back eH1 hd1
    have hx0 : H x = none := fresh_back eH1 hx
    have eH2 := eH1.trans e12
    rw [forE]
    simp only [tSeq, tAsg, tRet, tIfS, tTest, tOp, tUn, tVar, tC, tCons, tNil, tCB, tHas, gName, rI0, rI, rU, tNext, tNot, tAnd, tOr, tChain, tIf, tB, tNever, tRetN, tDrop, tTup, tLst, tMeth, tMake, tM0, tM1, tBits, tTruI, tBM, gSub, tSl, tNoPart, tPart, gcE, gnE, bs_length, tListRevR, tRg1, tFldE, sFldE, tPar3, cxK, nxK, List.append_nil, L2.start, List.map_cons, List.map_nil, List.length_cons, List.length_nil, List.replicate, List.cons_append, List.nil_append, List.getElem?_cons_zero, List.getElem?_cons_succ, List.set_cons_zero, List.set_cons_succ, Option.some.injEq, V.int.injEq, V.bl.injEq, V.str.injEq, V.ref.injEq, exists_eq_left', exists_eq_left, exists_and_left, List.cons.injEq, and_true, true_and, eq_self_iff_true, Nat.reduceAdd, Nat.reduceSub, Nat.zero_add, rEqI, rNeI, tAndV, tOrV, tNotV, natI, tDGet, tDIn, tDNotIn, sDPut, tDGet2, tDNewT, tDNewK, tDSetd, tCKw]
    refine ⟨a, F, rfl, hF.mono eH2, ok, fun lk H3 ks hlk e3 hlkx hks => ?_⟩
    have hkl := hks.length
    have hArr3 := hArr.mono e3
    have hsd3 : H3 sd = some (.dT (es.map (entG fun n : Nat => .int (n : Int)))) := (e12.trans e3) _ _ hm
    have hsdd : sd ≠ d := ne_of_none hm hd1
    have hlkd : lk ≠ d := (ne_of_none hArr.dic hlk).symm
    have eH3 := eH2.trans e3
    have hbnd := F.keys_len ok
    refine s_list (a := lk) (xs := ks) (fun Q q => q) (sq_of hlkx) (fun i σ' H' => (∀ b o, b ≠ d → H3 b = some o → H' b = some o) ∧ (∃ m : Dig, ArrAt CF CA H' x d a F m ∧ m.length ≤ i ∧ (∀ j k, j < i → F.keys[j]? = some k → digs m k = (pcM F p k).take ((getG es k).getD (pcM F p k).length)) ∧ ∀ j k, i ≤ j → F.keys[j]? = some k → getD m k = none) ∧
        ∃ v4 v5 v7, σ' = [some (.ref a), some (.ref b), some (.ref l), some (.ref sd), v4, v5, some (.ref x), v7])
      ⟨fun _ _ _ h => h, ⟨[], hArr3, Nat.le_refl _, fun j k hj _ => by omega, fun _ _ _ _ => rfl⟩, _, _, _, rfl⟩ (fun i σ' H' p => sq_of (p.1 _ _ hlkd hlkx)) ?_ ?_
    · rintro i x4 σ' H4 hx4 ⟨e4, ⟨m, hAm, hml, hm1, hm2⟩, v4, v5, v7, rfl⟩
      obtain ⟨k, hk, hkx⟩ := All2.get hks hx4
      have inr := Fr.mem_keys.mp (List.mem_of_getElem? hk)
      obtain ⟨ka, rfl, hka3⟩ := hkx
      have hkad : ka ≠ d := by
        rintro rfl
        rw [hArr3.dic] at hka3
        cases hka3
      have hka := e4 _ _ hkad hka3
      have eH4 : Ex H H4 := fun b o ho => e4 b o (ne_of_none ho hd0) (eH3 b o ho)
      have wm := Fr.wm ok inr.2.1
      simp only [tSeq, tAsg, tRet, tIfS, tTest, tOp, tUn, tVar, tC, tCons, tNil, tCB, tHas, gName, rI0, rI, rU, tNext, tNot, tAnd, tOr, tChain, tIf, tB, tNever, tRetN, tDrop, tTup, tLst, tMeth, tMake, tM0, tM1, tBits, tTruI, tBM, gSub, tSl, tNoPart, tPart, gcE, gnE, bs_length, tListRevR, tRg1, tFldE, sFldE, tPar3, cxK, nxK, List.append_nil, L2.start, List.map_cons, List.map_nil, List.length_cons, List.length_nil, List.replicate, List.cons_append, List.nil_append, List.getElem?_cons_zero, List.getElem?_cons_succ, List.set_cons_zero, List.set_cons_succ, Option.some.injEq, V.int.injEq, V.bl.injEq, V.str.injEq, V.ref.injEq, exists_eq_left', exists_eq_left, exists_and_left, List.cons.injEq, and_true, true_and, eq_self_iff_true, Nat.reduceAdd, Nat.reduceSub, Nat.zero_add, rEqI, rNeI, tAndV, tOrV, tNotV, natI, tDGet, tDIn, tDNotIn, sDPut, tDGet2, tDNewT, tDNewK, tDSetd, tCKw]
      refine ⟨a, b, ka, F, p, k, rfl, hF.mono eH4, hP.mono eH4, ok, okp, fits, hka, inr, fun H5 e5 => ?_⟩
      have hA5 := hAm.mono e5
      obtain ⟨⟨dx5, h15⟩, h25, h35⟩ := id hA5
      have hsd5 := e5 _ _ (e4 _ _ hsdd hsd3)
      have hcl := pok.len k inr
      have hg := DGet.t (k := kk k) hsd5 (e5 _ _ hka)
      rw [valV_entG] at hg
      refine ⟨dx5, fsA a d, h15, rfl, ?_⟩
      simp only [tSeq, tAsg, tRet, tIfS, tTest, tOp, tUn, tVar, tC, tCons, tNil, tCB, tHas, gName, rI0, rI, rU, tNext, tNot, tAnd, tOr, tChain, tIf, tB, tNever, tRetN, tDrop, tTup, tLst, tMeth, tMake, tM0, tM1, tBits, tTruI, tBM, gSub, tSl, tNoPart, tPart, gcE, gnE, bs_length, tListRevR, tRg1, tFldE, sFldE, tPar3, cxK, nxK, List.append_nil, L2.start, List.map_cons, List.map_nil, List.length_cons, List.length_nil, List.replicate, List.cons_append, List.nil_append, List.getElem?_cons_zero, List.getElem?_cons_succ, List.set_cons_zero, List.set_cons_succ, Option.some.injEq, V.int.injEq, V.bl.injEq, V.str.injEq, V.ref.injEq, exists_eq_left', exists_eq_left, exists_and_left, List.cons.injEq, and_true, true_and, eq_self_iff_true, Nat.reduceAdd, Nat.reduceSub, Nat.zero_add, rEqI, rNeI, tAndV, tOrV, tNotV, natI, tDGet, tDIn, tDNotIn, sDPut, tDGet2, tDNewT, tDNewK, tDSetd, tCKw]
      refine ⟨.inr ⟨_, .inl hsd5⟩, sz_of (by omega), _, hg, ?_⟩
      have hidx : ((getG es k).map fun n : Nat => V.int (n : Int)).getD (.int ((pcM F p k).length : Int)) = .int (((getG es k).getD (pcM F p k).length : Nat) : Int) := by
        cases getG es k <;> rfl
      rw [hidx]
      refine ⟨_, rfl, _, rfl, by rw [bs_length]; exact sz_of (by omega), ?_⟩
      rw [cut_to]
      generalize hc : (pcM F p k).take ((getG es k).getD (pcM F p k).length) = c
      have hcl2 : c.length ≤ 16 := by rw [← hc, List.length_take]; omega
      have hcs : (fpM (F.tw k.2.1) (F.tw k.2.1 * F.th k.2.1) c).isSome = true := by rw [← hc]; exact pok.pre k _ inr
      have hgn := hm2 i k (Nat.le_refl _) hk
      have hil : i < F.keys.length := (List.getElem?_eq_some_iff.mp hk).1
      refine ⟨x, d, a, ka, F, m, k, c, rfl, hA5, ok, e5 _ _ hka, inr, hgn, hcl2, hcs, by omega, fun v H6 keep6 hA6 => ?_⟩
      have huniq : ∀ j k', F.keys[j]? = some k' → j ≠ i → k ≠ k' := fun j k' hj hne e => by
        subst e
        exact hne ((Fr.idx hj).trans (Fr.idx hk).symm)
      refine ⟨fun b o hb ho => keep6 b o hb (e5 _ _ (e4 b o hb ho)), ⟨_, hA6, ?_, ?_, ?_⟩, _, rfl⟩
      · split
        · omega
        · simp; omega
      · intro j k' hj hjk
        by_cases hji : j = i
        · subst hji
          rw [hk] at hjk
          obtain rfl := Option.some.inj hjk
          rw [hc]
          split
          · next h0 => unfold digs; rw [hgn, h0]; rfl
          · unfold digs
            rw [getD_app, hgn, if_pos rfl]
            rfl
        · have := hm1 j k' (by omega) hjk
          split
          · exact this
          · rw [← this]
            unfold digs
            rw [getD_app, if_neg (huniq j k' hjk hji), Option.or_none]
      · intro j k' hj hjk
        have h0 := hm2 j k' (by omega) hjk
        split
        · exact h0
        · rw [getD_app, h0, if_neg (huniq j k' hjk (by omega))]
          rfl
    · rintro σ' H4 ⟨e4, ⟨m, hAm, hml, hm1, hm2⟩, v4, v5, v7, rfl⟩
      simp only [tSeq, tAsg, tRet, tIfS, tTest, tOp, tUn, tVar, tC, tCons, tNil, tCB, tHas, gName, rI0, rI, rU, tNext, tNot, tAnd, tOr, tChain, tIf, tB, tNever, tRetN, tDrop, tTup, tLst, tMeth, tMake, tM0, tM1, tBits, tTruI, tBM, gSub, tSl, tNoPart, tPart, gcE, gnE, bs_length, tListRevR, tRg1, tFldE, sFldE, tPar3, cxK, nxK, List.append_nil, L2.start, List.map_cons, List.map_nil, List.length_cons, List.length_nil, List.replicate, List.cons_append, List.nil_append, List.getElem?_cons_zero, List.getElem?_cons_succ, List.set_cons_zero, List.set_cons_succ, Option.some.injEq, V.int.injEq, V.bl.injEq, V.str.injEq, V.ref.injEq, exists_eq_left', exists_eq_left, exists_and_left, List.cons.injEq, and_true, true_and, eq_self_iff_true, Nat.reduceAdd, Nat.reduceSub, Nat.zero_add, rEqI, rNeI, tAndV, tOrV, tNotV, natI, tDGet, tDIn, tDNotIn, sDPut, tDGet2, tDNewT, tDNewK, tDSetd, tCKw]
      have eH4 : Ex H H4 := fun b o ho => e4 b o (ne_of_none ho hd0) (eH3 b o ho)
      refine q x d H4 m hx0 eH4 hAm fun k hk => ?_
      obtain ⟨j, hj, hje⟩ := List.getElem_of_mem (Fr.mem_keys.mpr hk)
      exact hm1 j k (by omega) (by rw [List.getElem?_eq_getElem hj, hje])
end
end PK


set_option maxHeartbeats 4000000
namespace PK
open PySem PySem.Spec PyProof.Rows L2 Evl
local macro_rules | `(tactic| walk_at "rd") => `(tactic| simp only [tSeq, tAsg, tRet, tIfS, tTest, tOp, tUn, tVar, tC, tCons, tNil, tCB, tHas, gName, rI0, rI, rU, tNext, tNot, tAnd, tOr, tChain, tIf, tB, tNever, tRetN, tDrop, tTup, tLst, tMeth, tMake, tM0, tM1, tBits, tTruI, tBM, gSub, tSl, tNoPart, tPart, gcE, gnE, bs_length, tListRevR, tRg1, tFldE, sFldE, tPar3, cxK, nxK, List.append_nil,
  L2.start, List.map_cons, List.map_nil, List.length_cons, List.length_nil, List.replicate, List.cons_append, List.nil_append, List.getElem?_cons_zero, List.getElem?_cons_succ, List.set_cons_zero, List.set_cons_succ,
  Option.some.injEq, V.int.injEq, V.bl.injEq, V.str.injEq, V.ref.injEq, exists_eq_left', exists_eq_left, exists_and_left, List.cons.injEq, and_true, true_and, eq_self_iff_true, Nat.reduceAdd, Nat.reduceSub, Nat.zero_add])
/-! ### codes of packets -/
theorem take_min {α : Type} (l : List α) (n : Nat) : l.take n = l.take (min n l.length) := by
  apply List.ext_getElem?
  intro i
  rw [List.getElem?_take, List.getElem?_take]
  by_cases h : i < l.length
  · by_cases h2 : i < n
    · rw [if_pos h2, if_pos (by omega)]
    · rw [if_neg h2, if_neg (by omega)]
  · rw [List.getElem?_eq_none (by omega)]
    split <;> split <;> rfl
structure Pk (w m : Nat) (b c : List Bool) : Prop where
  fp : (fpM w m c).isSome = true
  cnt : 1 ≤ cntM w m c ∧ cntM w m c ≤ 16
  rk : 0 ≤ rkM w m c b ∧ rkM w m c b < (cntM w m c : Int)
  pa : paM w m c (rkM w m c b).toNat = b
  one : ((fpM w m c).getD []).length = m → cntM w m c = 1 ∧ rkM w m c b = 0
theorem pack_at {w m : Nat} (hs : (w, m) ∈ shapes) {b : List Bool} (hb : b.length = m) : (codeM w b).length ≤ 12 ∧ (∀ n, Pk w m b ((codeM w b).take n)) ∧ ((fpM w m (codeM w b)).getD []).length = m := by
  have h := List.all_eq_true.mp (List.all_eq_true.mp pack_all (w, m) hs) b (mem_allB hb)
  simp only [Bool.and_eq_true, decide_eq_true_eq, List.all_eq_true] at h
  obtain ⟨h1, h2⟩ := h
  have key : ∀ k, k ≤ (codeM w b).length → packOk w m b ((codeM w b).take k) (decide (k = (codeM w b).length)) = true := fun k hk => h2 k (List.mem_range.mpr (by omega))
  refine ⟨h1, fun n => ?_, ?_⟩
  · rw [take_min]
    have h3 := key (min n (codeM w b).length) (by omega)
    generalize (codeM w b).take (min n (codeM w b).length) = c at h3 ⊢
    unfold packOk at h3
    rw [Bool.and_eq_true] at h3
    obtain ⟨h4, h5⟩ := h3
    simp only [Bool.and_eq_true, decide_eq_true_eq] at h5
    obtain ⟨_, h7, h8, h9⟩ := h5
    obtain ⟨q, hq⟩ : ∃ q, fpM w m c = some q := by
      cases hf : fpM w m c with
      | none => rw [hf] at h4; cases h4
      | some q => exact ⟨q, rfl⟩
    refine ⟨by rw [hq]; rfl, h7, h8, h9, fun h10 => ?_⟩
    rw [hq] at h4 h10
    simp only [Bool.and_eq_true, Bool.or_eq_true, decide_eq_true_eq] at h4
    have h11 : q.length = m := h10
    rcases h4.1.2 with z | z
    · omega
    · exact z
  · have h3 := key (codeM w b).length (Nat.le_refl _)
    rw [List.take_length] at h3
    unfold packOk at h3
    rw [Bool.and_eq_true] at h3
    obtain ⟨h4, h5⟩ := h3
    simp only [Bool.and_eq_true, decide_eq_true_eq] at h5
    obtain ⟨q, hq⟩ : ∃ q, fpM w m (codeM w b) = some q := by
      cases hf : fpM w m (codeM w b) with
      | none => rw [hf] at h4; cases h4
      | some q => exact ⟨q, rfl⟩
    rw [hq] at h4 ⊢
    simp only [Bool.and_eq_true, Bool.or_eq_true, decide_eq_true_eq] at h4
    rcases h4.2 with z | z
    · simp at z
    · exact z
section
variable {F : Fr} {p : Pic}
theorem pk_of (ok : F.ok) {k : Key} (hk : InR F k) : (pcM F p k).length ≤ 12 ∧ (∀ n, Pk (F.tw k.2.1) (F.tw k.2.1 * F.th k.2.1) (pbM F p k) ((pcM F p k).take n)) ∧ ((fpM (F.tw k.2.1) (F.tw k.2.1 * F.th k.2.1) (pcM F p k)).getD []).length = F.tw k.2.1 * F.th k.2.1 :=
  pack_at (Fr.wm ok hk.2.1).2.2.2.2 (pb_len ok hk)
theorem pok_of (ok : F.ok) : POk F p := ⟨fun k hk => (pk_of ok hk).1, fun k n hk => ((pk_of ok hk).2.1 n).fp⟩
/-- what has arrived are the first digits of the codes -/
theorem mok_of (ok : F.ok) {m : Dig} {f : Key → Nat} (h : ∀ k, InR F k → digs m k = (pcM F p k).take (f k)) : MOk F m p := by
  have hp : ∀ k, InR F k → Pk (F.tw k.2.1) (F.tw k.2.1 * F.th k.2.1) (pbM F p k) (digs m k) := fun k hk => by
    rw [h k hk]
    exact (pk_of ok hk).2.1 _
  refine ⟨fun k hk => ⟨?_, (hp k hk).fp⟩, fun k hk => (hp k hk).cnt, fun k hk => (hp k hk).rk, fun k hk => (hp k hk).pa, fun k hk => ?_⟩
  · rw [h k hk, List.length_take]
    have := (pk_of (p := p) ok hk).1
    omega
  · rw [h k hk, List.isPrefixOf_iff_prefix]
    exact List.take_prefix _ _
theorem num_congr {m m' : Dig} : ∀ {ks : List Key} {n : Nat}, (∀ k ∈ ks, chM F m k = chM F m' k ∧ rkN F m p k = rkN F m' p k) → ks.foldl (fun n k => n * chM F m k + rkN F m p k) n = ks.foldl (fun n k => n * chM F m' k + rkN F m' p k) n
  | [], _, _ => rfl
  | k :: ks, n, h => by
    simp only [List.foldl_cons]
    rw [(h k List.mem_cons_self).1, (h k List.mem_cons_self).2]
    exact num_congr fun k' hk' => h k' (List.mem_cons_of_mem _ hk')
theorem cp_congr {m m' : Dig} : ∀ {ks : List Key} {n : Nat}, (∀ k ∈ ks, chM F m k = chM F m' k) → ks.foldl (fun n k => n * chM F m k) n = ks.foldl (fun n k => n * chM F m' k) n
  | [], _, _ => rfl
  | k :: ks, n, h => by
    simp only [List.foldl_cons]
    rw [h k List.mem_cons_self]
    exact cp_congr fun k' hk' => h k' (List.mem_cons_of_mem _ hk')
/-- the source's view has the viewer's numbers -/
theorem same_num (ok : F.ok) {m m' : Dig} {f : Key → Nat} {es : Req} (h : ∀ k, InR F k → digs m k = (pcM F p k).take (f k)) (hnd : (es.map (·.1)).Nodup) (hes : ∀ k n, (k, n) ∈ es ↔ InR F k ∧ opnM F m k = true ∧ n = (digs m k).length)
    (h' : ∀ k, InR F k → digs m' k = (pcM F p k).take ((getG es k).getD (pcM F p k).length)) : numN F m' p F.keys = numN F m p F.keys ∧ cpM F m' = cpM F m := by
  have key : ∀ k ∈ F.keys, chM F m' k = chM F m k ∧ rkN F m' p k = rkN F m p k := fun k hk => by
    have inr := Fr.mem_keys.mp hk
    by_cases ho : opnM F m k = true
    · have hg : getG es k = some (digs m k).length := getG_mem hnd ((hes k _).mpr ⟨inr, ho, rfl⟩)
      have e : digs m' k = digs m k := by
        rw [h' k inr, hg]
        show (pcM F p k).take (digs m k).length = _
        rw [h k inr, List.length_take, ← take_min]
      unfold chM rkN
      rw [e]
      exact ⟨rfl, rfl⟩
    · have hg : getG es k = none := by
        rw [getG_none]
        intro hm
        obtain ⟨e, he, rfl⟩ := List.mem_map.mp hm
        exact ho ((hes e.1 e.2).mp he).2.1
      have e : digs m' k = pcM F p k := by
        rw [h' k inr, hg]
        exact List.take_length
      obtain ⟨p1, p2, p3⟩ := pk_of (p := p) ok inr
      have q1 := (p2 (pcM F p k).length)
      rw [List.take_length] at q1
      obtain ⟨c1, r1⟩ := q1.one p3
      have q2 := p2 (f k)
      rw [← h k inr] at q2
      have hlen : ((fpM (F.tw k.2.1) (F.tw k.2.1 * F.th k.2.1) (digs m k)).getD []).length = F.tw k.2.1 * F.th k.2.1 := by
        obtain ⟨s, hs⟩ := Option.isSome_iff_exists.mp q2.fp
        have hl := fpM_len hs
        unfold opnM at ho
        rw [hs] at ho ⊢
        simp at ho ⊢
        omega
      obtain ⟨c2, r2⟩ := q2.one hlen
      unfold chM rkN
      rw [e, c1, c2, r1, r2]
      exact ⟨rfl, rfl⟩
  exact ⟨num_congr key, cp_congr fun k hk => (key k hk).1⟩
/-- whole codes: one picture, nothing is left -/
theorem whole_num (ok : F.ok) {m' : Dig} (h' : ∀ k, InR F k → digs m' k = pcM F p k) : numN F m' p F.keys = 0 ∧ cpM F m' = 1 := by
  have key : ∀ k ∈ F.keys, chM F m' k = 1 ∧ rkN F m' p k = 0 := fun k hk => by
    have inr := Fr.mem_keys.mp hk
    obtain ⟨p1, p2, p3⟩ := pk_of (p := p) ok inr
    have q1 := (p2 (pcM F p k).length)
    rw [List.take_length] at q1
    obtain ⟨c1, r1⟩ := q1.one p3
    unfold chM rkN
    rw [h' k inr, c1, r1]
    exact ⟨rfl, rfl⟩
  have a1 : ∀ (ks : List Key), (∀ k ∈ ks, chM F m' k = 1 ∧ rkN F m' p k = 0) → ks.foldl (fun n k => n * chM F m' k + rkN F m' p k) 0 = 0 := fun ks => by
    induction ks with
    | nil => intro _; rfl
    | cons k ks ih =>
      intro h
      simp only [List.foldl_cons]
      rw [(h k List.mem_cons_self).1, (h k List.mem_cons_self).2]
      exact ih fun k' hk' => h k' (List.mem_cons_of_mem _ hk')
  have a2 : ∀ (ks : List Key), (∀ k ∈ ks, chM F m' k = 1 ∧ rkN F m' p k = 0) → ks.foldl (fun n k => n * chM F m' k) 1 = 1 := fun ks => by
    induction ks with
    | nil => intro _; rfl
    | cons k ks ih =>
      intro h
      simp only [List.foldl_cons]
      rw [(h k List.mem_cons_self).1]
      exact ih fun k' hk' => h k' (List.mem_cons_of_mem _ hk')
  exact ⟨a1 _ key, a2 _ key⟩
end
/-! ### binary numbers -/
theorem val_foldl : ∀ (l : List Bool) (n : Nat), l.foldl (fun n b => 2 * n + (if b = true then 1 else 0)) n = n * 2 ^ l.length + valM l
  | [], n => by simp [valM]
  | b :: l, n => by
    unfold valM
    rw [List.foldl_cons, List.foldl_cons, val_foldl l, val_foldl l (2 * 0 + _), List.length_cons, Nat.pow_succ]
    generalize (if b = true then 1 else 0) = x
    rw [Nat.add_mul, Nat.mul_zero, Nat.zero_add, Nat.mul_comm 2 n, Nat.mul_assoc, Nat.mul_comm 2 (2 ^ l.length)]
    omega
theorem val_cons (b : Bool) (l : List Bool) : valM (b :: l) = (if b = true then 1 else 0) * 2 ^ l.length + valM l := by
  unfold valM
  rw [List.foldl_cons, val_foldl]
  unfold valM
  simp
theorem digT_len (n k : Nat) : (digT n k).length = k := by simp [digT]
theorem digT_succ (n k : Nat) : digT n (k + 1) = decide ((n / 2 ^ k) % 2 = 1) :: digT n k := by
  unfold digT
  rw [List.range_succ_eq_map, List.map_cons, List.map_map]
  congr 1
  apply List.map_congr_left
  intro i hi
  have := List.mem_range.mp hi
  show decide ((n / 2 ^ (k + 1 - 1 - (i + 1))) % 2 = 1) = _
  rw [show k + 1 - 1 - (i + 1) = k - 1 - i by omega]
theorem val_dig (n : Nat) : ∀ k, valM (digT n k) = n % 2 ^ k
  | 0 => by simp [digT, valM, Nat.mod_one]
  | k + 1 => by
    rw [digT_succ, val_cons, digT_len, val_dig n k, Nat.mod_pow_succ]
    rcases Nat.mod_two_eq_zero_or_one (n / 2 ^ k) with z | z
    · rw [z]; simp
    · rw [z]; simp; omega
theorem lt_bitLen (n : Nat) : n < 2 ^ bitLen n := by
  unfold bitLen
  by_cases h : n = 0
  · subst h; decide
  · rw [if_neg h]
    exact Nat.lt_log2_self
end PK


set_option maxHeartbeats 4000000
namespace PK
open PySem PySem.Spec PyProof.Rows L2 Evl
local macro_rules | `(tactic| walk_at "rd") => `(tactic| simp only [tSeq, tAsg, tRet, tIfS, tTest, tOp, tUn, tVar, tC, tCons, tNil, tCB, tHas, gName, rI0, rI, rU, tNext, tNot, tAnd, tOr, tChain, tIf, tB, tNever, tRetN, tDrop, tTup, tLst, tMeth, tMake, tM0, tM1, tBits, tTruI, tBM, gSub, tSl, tNoPart, tPart, gcE, gnE, bs_length, tListRevR, tRg1, tFldE, sFldE, tPar3, cxK, nxK, List.append_nil,
  L2.start, List.map_cons, List.map_nil, List.length_cons, List.length_nil, List.replicate, List.cons_append, List.nil_append, List.getElem?_cons_zero, List.getElem?_cons_succ, List.set_cons_zero, List.set_cons_succ,
  Option.some.injEq, V.int.injEq, V.bl.injEq, V.str.injEq, V.ref.injEq, exists_eq_left', exists_eq_left, exists_and_left, List.cons.injEq, and_true, true_and, eq_self_iff_true, Nat.reduceAdd, Nat.reduceSub, Nat.zero_add])
theorem cp_le {F : Fr} {m : Dig} : ∀ {ks : List Key} {n : Nat}, (∀ k ∈ ks, chM F m k ≤ 16) → ks.foldl (fun n k => n * chM F m k) n ≤ n * 2 ^ (4 * ks.length)
  | [], n, _ => by simp
  | k :: ks, n, h => by
    simp only [List.foldl_cons]
    have h1 := cp_le (n := n * chM F m k) fun k' hk' => h k' (List.mem_cons_of_mem _ hk')
    refine Nat.le_trans h1 ?_
    rw [List.length_cons, show 4 * (ks.length + 1) = 4 * ks.length + 4 by omega, Nat.pow_add, Nat.mul_assoc, Nat.mul_comm (2 ^ (4 * ks.length)) (2 ^ 4)]
    refine Nat.mul_le_mul_left _ (Nat.mul_le_mul_right _ ?_)
    exact h k List.mem_cons_self
theorem bitLen_le {n k : Nat} (h : n < 2 ^ k) : bitLen n ≤ k := by
  unfold bitLen
  by_cases h0 : n = 0
  · rw [if_pos h0]; omega
  · rw [if_neg h0]
    have := (Nat.log2_lt h0).mpr h
    omega
theorem cp_bits {F : Fr} (ok : F.ok) {m : Dig} (h : ∀ k, InR F k → 1 ≤ chM F m k ∧ chM F m k ≤ 16) : bitLen (cpM F m - 1) ≤ 4000 ∧ 1 ≤ cpM F m := by
  have h1 := cp_le (F := F) (m := m) (ks := F.keys) (n := 1) fun k hk => (h k (Fr.mem_keys.mp hk)).2
  have h2 := F.keys_len ok
  have h3 : 1 ≤ cpM F m := cp_pos (fun k hk => (h k (Fr.mem_keys.mp hk)).1) (by decide)
  have h4 : cpM F m - 1 < 2 ^ (4 * F.keys.length) := by
    rw [Nat.one_mul] at h1
    unfold cpM at h3 ⊢
    omega
  exact ⟨Nat.le_trans (bitLen_le h4) (by omega), h3⟩
section
variable {P : Program} {w : World} {K : PySem.W.Frag} {mg : Str → Option Value} {base : Heap} {CF CP CA : Addr}
def spRemainder (CF CP CA : Addr) : Sp := fun vs H Q _ => ∃ (a b l : Addr) (F : Fr) (p : Pic) (es : Req), vs = [.ref a, .ref b, .ref l] ∧ FrAt CF H a F ∧ PicAt CP H b p ∧ Fits F p ∧ F.ok ∧ p.ok ∧ ReqAt H l es ∧ (es.map (·.1)).Nodup ∧ es.length ≤ 1000 ∧ (∀ e ∈ es, InR F e.1 ∧ e.2 ≤ 65535) ∧
  ∀ m H', Ex H H' → (∀ k, InR F k → digs m k = (pcM F p k).take ((getG es k).getD (pcM F p k).length)) → Q (.str (bs (digT (numN F m p F.keys) (bitLen (cpM F m - 1))))) H'
theorem has_remainder (T : Top K mg CF CP CA) : Has P w K mg base CX0 12 "remainder" ["frame", "picture", "requests"] (spRemainder CF CP CA) := by
  have G_check_asked := has_check_asked (P := P) (w := w) (base := base) T
  have G_concluded := has_concluded (P := P) (w := w) (base := base) T
  have G_binary := has_binary (P := P) (w := w) (base := base) T
  have G_number_of := has_number_of (P := P) (w := w) (base := base) T
  have G_remainder_length := has_remainder_length (P := P) (w := w) (base := base) T
  refine has0 T.d_remainder sc_remainder (fun vs H Q E h => by
    repeat (obtain ⟨_, h⟩ := h)
    subst_vars
    rfl) fun f cdv A outer s H vs Q E hr h => ?_
  obtain ⟨a, b, l, F, p, es, rfl, hF, hP, fits, ok, okp, hR, hnd, hel, hall, q⟩ := h
  refine ⟨_, (pss_cons (ps_expr (pe_has G_check_asked (hr.mono (by decide)) (pa_cons (pv 0) (pa_cons (pv 1) (pa_cons (pv 2) pa_nil)))))
      (pss_cons (ps_set (i := 3) sc_remainder.nd rfl (by first | exact .inl rfl | exact .inr rfl) (pe_has G_concluded (hr.mono (by decide)) (pa_cons (pv 0) (pa_cons (pv 1) (pa_cons (pv 2) pa_nil)))))
      (pss_one (ps_ret (pe_has G_binary (hr.mono (by decide)) (pa_cons (pe_has G_number_of (hr.mono (by decide)) (pa_cons (pv 3) (pa_cons (pv 1) pa_nil))) (pa_cons (pe_has G_remainder_length (hr.mono (by decide)) (pa_cons (pv 3) pa_nil)) pa_nil))))))), ?_⟩
  simp only [tSeq, tAsg, tRet, tIfS, tTest, tOp, tUn, tVar, tC, tCons, tNil, tCB, tHas, gName, rI0, rI, rU, tNext, tNot, tAnd, tOr, tChain, tIf, tB, tNever, tRetN, tDrop, tTup, tLst, tMeth, tMake, tM0, tM1, tBits, tTruI, tBM, gSub, tSl, tNoPart, tPart, gcE, gnE, bs_length, tListRevR, tRg1, tFldE, sFldE, tPar3, cxK, nxK, List.append_nil, L2.start, List.map_cons, List.map_nil, List.length_cons, List.length_nil, List.replicate, List.cons_append, List.nil_append, List.getElem?_cons_zero, List.getElem?_cons_succ, List.set_cons_zero, List.set_cons_succ, Option.some.injEq, V.int.injEq, V.bl.injEq, V.str.injEq, V.ref.injEq, exists_eq_left', exists_eq_left, exists_and_left, List.cons.injEq, and_true, true_and, eq_self_iff_true, Nat.reduceAdd, Nat.reduceSub, Nat.zero_add, rEqI, rNeI, tAndV, tOrV, tNotV, natI, tDGet, tDIn, tDNotIn, sDPut, tDGet2, tDNewT, tDNewK, tDSetd, tCKw]
  refine ⟨a, b, l, F, p, es, rfl, hF, hP, fits, ok, hR, hnd, hel, hall, fun H1 e1 => ?_⟩
  simp only [tSeq, tAsg, tRet, tIfS, tTest, tOp, tUn, tVar, tC, tCons, tNil, tCB, tHas, gName, rI0, rI, rU, tNext, tNot, tAnd, tOr, tChain, tIf, tB, tNever, tRetN, tDrop, tTup, tLst, tMeth, tMake, tM0, tM1, tBits, tTruI, tBM, gSub, tSl, tNoPart, tPart, gcE, gnE, bs_length, tListRevR, tRg1, tFldE, sFldE, tPar3, cxK, nxK, List.append_nil, L2.start, List.map_cons, List.map_nil, List.length_cons, List.length_nil, List.replicate, List.cons_append, List.nil_append, List.getElem?_cons_zero, List.getElem?_cons_succ, List.set_cons_zero, List.set_cons_succ, Option.some.injEq, V.int.injEq, V.bl.injEq, V.str.injEq, V.ref.injEq, exists_eq_left', exists_eq_left, exists_and_left, List.cons.injEq, and_true, true_and, eq_self_iff_true, Nat.reduceAdd, Nat.reduceSub, Nat.zero_add, rEqI, rNeI, tAndV, tOrV, tNotV, natI, tDGet, tDIn, tDNotIn, sDPut, tDGet2, tDNewT, tDNewK, tDSetd, tCKw]
  refine ⟨a, b, l, F, p, es, rfl, hF.mono e1, hP.mono e1, fits, ok, okp, pok_of ok, hR.mono e1, hnd, hel, hall, fun r d H2 m hr2 e2 hA hm => ?_⟩
  have mok := mok_of ok hm
  simp only [tSeq, tAsg, tRet, tIfS, tTest, tOp, tUn, tVar, tC, tCons, tNil, tCB, tHas, gName, rI0, rI, rU, tNext, tNot, tAnd, tOr, tChain, tIf, tB, tNever, tRetN, tDrop, tTup, tLst, tMeth, tMake, tM0, tM1, tBits, tTruI, tBM, gSub, tSl, tNoPart, tPart, gcE, gnE, bs_length, tListRevR, tRg1, tFldE, sFldE, tPar3, cxK, nxK, List.append_nil, L2.start, List.map_cons, List.map_nil, List.length_cons, List.length_nil, List.replicate, List.cons_append, List.nil_append, List.getElem?_cons_zero, List.getElem?_cons_succ, List.set_cons_zero, List.set_cons_succ, Option.some.injEq, V.int.injEq, V.bl.injEq, V.str.injEq, V.ref.injEq, exists_eq_left', exists_eq_left, exists_and_left, List.cons.injEq, and_true, true_and, eq_self_iff_true, Nat.reduceAdd, Nat.reduceSub, Nat.zero_add, rEqI, rNeI, tAndV, tOrV, tNotV, natI, tDGet, tDIn, tDNotIn, sDPut, tDGet2, tDNewT, tDNewK, tDSetd, tCKw]
  refine ⟨r, b, d, a, F, m, p, rfl, hA, hP.mono (e1.trans e2), ok, okp, fits, mok, fun H3 e3 => ?_⟩
  simp only [tSeq, tAsg, tRet, tIfS, tTest, tOp, tUn, tVar, tC, tCons, tNil, tCB, tHas, gName, rI0, rI, rU, tNext, tNot, tAnd, tOr, tChain, tIf, tB, tNever, tRetN, tDrop, tTup, tLst, tMeth, tMake, tM0, tM1, tBits, tTruI, tBM, gSub, tSl, tNoPart, tPart, gcE, gnE, bs_length, tListRevR, tRg1, tFldE, sFldE, tPar3, cxK, nxK, List.append_nil, L2.start, List.map_cons, List.map_nil, List.length_cons, List.length_nil, List.replicate, List.cons_append, List.nil_append, List.getElem?_cons_zero, List.getElem?_cons_succ, List.set_cons_zero, List.set_cons_succ, Option.some.injEq, V.int.injEq, V.bl.injEq, V.str.injEq, V.ref.injEq, exists_eq_left', exists_eq_left, exists_and_left, List.cons.injEq, and_true, true_and, eq_self_iff_true, Nat.reduceAdd, Nat.reduceSub, Nat.zero_add, rEqI, rNeI, tAndV, tOrV, tNotV, natI, tDGet, tDIn, tDNotIn, sDPut, tDGet2, tDNewT, tDNewK, tDSetd, tCKw]
  refine ⟨r, d, a, F, m, rfl, hA.mono e3, ok, mok.d, mok.ch, fun H4 e4 => ?_⟩
  have hcb := (cp_bits ok mok.ch).1
  exact ⟨_, _, rfl, by omega, fun H5 e5 => q m H5 ((((e1.trans e2).trans e3).trans e4).trans e5) hm⟩
def spFinish (CF CP CA : Addr) : Sp := fun vs H Q _ => ∃ (a d fr : Addr) (F : Fr) (m : Dig) (p : Pic), vs = [.ref a, .str (bs (digT (numN F m p F.keys) (bitLen (cpM F m - 1))))] ∧ ArrAt CF CA H a d fr F m ∧ F.ok ∧ p.ok ∧ Fits F p ∧ MOk F m p ∧ ∀ r H', H r = none → Ex H H' → PicAt CP H' r p → Q (.ref r) H'
theorem has_finish (T : Top K mg CF CP CA) : Has P w K mg base CX0 12 "finish" ["arrived", "digits"] (spFinish CF CP CA) := by
  have G_picture_at := has_picture_at (P := P) (w := w) (base := base) T
  have G_remainder_length := has_remainder_length (P := P) (w := w) (base := base) T
  have G_binary_value := has_binary_value (P := P) (w := w) (base := base) T
  refine has0 T.d_finish sc_finish (fun vs H Q E h => by
    repeat (obtain ⟨_, h⟩ := h)
    subst_vars
    rfl) fun f cdv A outer s H vs Q E hr h => ?_
  obtain ⟨a, d, fr, F, m, p, rfl, hA, ok, okp, fits, mok, q⟩ := h
  refine ⟨_, (pss_cons (ps_if (pt_cmpR op_ne (pe_callB call_len_str rfl T.n_len boot_len (pa_cons (pv 1) pa_nil)) (pe_has G_remainder_length (hr.mono (by decide)) (pa_cons (pv 0) pa_nil)) (nomark _)) (pss_one (ps_ret pe_non)) pss_nil)
      (pss_one (ps_ret (pe_has G_picture_at (hr.mono (by decide)) (pa_cons (pv 0) (pa_cons (pe_has G_binary_value (hr.mono (by decide)) (pa_cons (pv 1) pa_nil)) pa_nil)))))), ?_⟩
  simp only [tSeq, tAsg, tRet, tIfS, tTest, tOp, tUn, tVar, tC, tCons, tNil, tCB, tHas, gName, rI0, rI, rU, tNext, tNot, tAnd, tOr, tChain, tIf, tB, tNever, tRetN, tDrop, tTup, tLst, tMeth, tMake, tM0, tM1, tBits, tTruI, tBM, gSub, tSl, tNoPart, tPart, gcE, gnE, bs_length, tListRevR, tRg1, tFldE, sFldE, tPar3, cxK, nxK, List.append_nil, L2.start, List.map_cons, List.map_nil, List.length_cons, List.length_nil, List.replicate, List.cons_append, List.nil_append, List.getElem?_cons_zero, List.getElem?_cons_succ, List.set_cons_zero, List.set_cons_succ, Option.some.injEq, V.int.injEq, V.bl.injEq, V.str.injEq, V.ref.injEq, exists_eq_left', exists_eq_left, exists_and_left, List.cons.injEq, and_true, true_and, eq_self_iff_true, Nat.reduceAdd, Nat.reduceSub, Nat.zero_add, rEqI, rNeI, tAndV, tOrV, tNotV, natI, tDGet, tDIn, tDNotIn, sDPut, tDGet2, tDNewT, tDNewK, tDSetd, tCKw]
  obtain ⟨hcb, hcp⟩ := cp_bits ok mok.ch
  have hlt := num_lt mok (ks := F.keys) (n := 0) (N := 1) (fun k hk => Fr.mem_keys.mp hk) (by decide)
  have hlt2 : numN F m p F.keys < cpM F m := hlt
  rw [digT_len]
  refine ⟨sz_of (by omega), a, d, fr, F, m, rfl, hA, ok, mok.d, mok.ch, fun H1 e1 => ?_⟩
  simp only [tSeq, tAsg, tRet, tIfS, tTest, tOp, tUn, tVar, tC, tCons, tNil, tCB, tHas, gName, rI0, rI, rU, tNext, tNot, tAnd, tOr, tChain, tIf, tB, tNever, tRetN, tDrop, tTup, tLst, tMeth, tMake, tM0, tM1, tBits, tTruI, tBM, gSub, tSl, tNoPart, tPart, gcE, gnE, bs_length, tListRevR, tRg1, tFldE, sFldE, tPar3, cxK, nxK, List.append_nil, L2.start, List.map_cons, List.map_nil, List.length_cons, List.length_nil, List.replicate, List.cons_append, List.nil_append, List.getElem?_cons_zero, List.getElem?_cons_succ, List.set_cons_zero, List.set_cons_succ, Option.some.injEq, V.int.injEq, V.bl.injEq, V.str.injEq, V.ref.injEq, exists_eq_left', exists_eq_left, exists_and_left, List.cons.injEq, and_true, true_and, eq_self_iff_true, Nat.reduceAdd, Nat.reduceSub, Nat.zero_add, rEqI, rNeI, tAndV, tOrV, tNotV, natI, tDGet, tDIn, tDNotIn, sDPut, tDGet2, tDNewT, tDNewK, tDSetd, tCKw]
  rw [if_neg (by simp)]
  refine ⟨_, rfl, by rw [digT_len]; omega, ?_⟩
  have hv : valM (digT (numN F m p F.keys) (bitLen (cpM F m - 1))) = numN F m p F.keys := by
    rw [val_dig]
    refine Nat.mod_eq_of_lt (Nat.lt_of_le_of_lt ?_ (lt_bitLen (cpM F m - 1)))
    omega
  rw [hv]
  exact ⟨a, d, fr, F, m, p, rfl, hA.mono e1, ok, okp, fits, mok, fun r H2 hr2 e2 hP => q r H2 (fresh_back e1 hr2) (e1.trans e2) hP⟩
end
/-! ### data that equals itself -/
def rowsD (rows : List (List Nat)) : PyData := .list (rows.map fun r => .list (r.map fun n : Nat => .int (n : Int)))
theorem ints_all (r : List Nat) : PyData.eqvAll (r.map fun n : Nat => .int (n : Int)) (r.map fun n : Nat => .int (n : Int)) = true ∧ PyData.canLayAll0 (r.map fun n : Nat => .int (n : Int)) = true ∧ PyData.depthAll (r.map fun n : Nat => .int (n : Int)) = 0 := by
  induction r with
  | nil => exact ⟨rfl, rfl, rfl⟩
  | cons n r ih =>
    refine ⟨?_, ?_, ?_⟩
    · show (((n : Int) == (n : Int)) && PyData.eqvAll _ _) = true
      rw [ih.1]; simp
    · show (true && PyData.canLayAll0 _) = true
      rw [ih.2.1]; rfl
    · show max 0 (PyData.depthAll _) = 0
      rw [ih.2.2]; rfl
theorem rows_all (rows : List (List Nat)) : PyData.eqv (rowsD rows) (rowsD rows) = true ∧ SeqAt.shaped (rowsD rows) = true := by
  have h : PyData.eqvAll (rows.map fun r => PyData.list (r.map fun n : Nat => .int (n : Int))) (rows.map fun r => PyData.list (r.map fun n : Nat => .int (n : Int))) = true ∧ PyData.canLayAll0 (rows.map fun r => PyData.list (r.map fun n : Nat => .int (n : Int))) = true ∧ PyData.depthAll (rows.map fun r => PyData.list (r.map fun n : Nat => .int (n : Int))) ≤ 1 := by
    induction rows with
    | nil => exact ⟨rfl, rfl, Nat.zero_le _⟩
    | cons r rows ih =>
      refine ⟨?_, ?_, ?_⟩
      · show (PyData.eqvAll _ _ && PyData.eqvAll _ _) = true
        rw [(ints_all r).1, ih.1]; rfl
      · show (PyData.canLayAll0 _ && PyData.canLayAll0 _) = true
        rw [(ints_all r).2.1, ih.2.1]; rfl
      · show max (PyData.depthAll _ + 1) (PyData.depthAll _) ≤ 1
        rw [(ints_all r).2.2]
        have := ih.2.2
        omega
  refine ⟨h.1, ?_⟩
  unfold SeqAt.shaped rowsD
  show (PyData.canLayAll0 _ && decide (PyData.depthAll _ + 1 ≤ 64)) = true
  rw [h.2.1, decide_eq_true (by have := h.2.2; omega)]
  rfl
theorem ints_dp {K : PySem.W.Frag} {H : Hp} : ∀ r : List Nat, DpAll K H (intsN r) (r.map fun n : Nat => .int (n : Int))
  | [] => .nil
  | n :: r => .cons (.int _) (ints_dp r)
theorem rows_dp {K : PySem.W.Frag} {H : Hp} {a : Addr} {xs : List V} {rows : List (List Nat)} (ha : H a = some (.lst xs)) (h : RowsAt H xs rows) : Dp K H (.ref a) (rowsD rows) := by
  refine .lst (sq_of ha) ?_
  clear ha
  unfold RowsAt at h
  induction h with
  | nil => exact .nil
  | cons r _ ih =>
    obtain ⟨b, rfl, hb⟩ := r
    exact .cons (.lst (sq_of hb) (ints_dp _)) ih
section
variable {P : Program} {w : World} {K : PySem.W.Frag} {mg : Str → Option Value} {base : Heap} {CF CP CA : Addr}
def spSame (CP : Addr) : Sp := fun vs H Q _ => ∃ (a b : Addr) (p : Pic), vs = [.ref a, .ref b] ∧ PicAt CP H a p ∧ PicAt CP H b p ∧ p.rows.length ≤ 10 ∧ ∀ H', Ex H H' → Q (.bl true) H'
theorem has_Picture_same (T : Top K mg CF CP CA) : HasM P w K mg base CX0 2 CP "same" ["self", "other"] (spSame CP) := by
  obtain ⟨f_Picture_rows, fd_Picture_rows, mm_Picture_rows, b_Picture_rows, F_Picture_rows⟩ := (has_Picture_rows (P := P) (w := w) (base := base) T).ex
  refine hasM0 T.m_Picture_same sc_Picture_same (fun vs H Q E h => by
    repeat (obtain ⟨_, h⟩ := h)
    subst_vars
    rfl) fun f cdv A outer s H vs Q E hr h => ?_
  obtain ⟨a, b, p, rfl, ⟨dx, r, xs, h1, h2, h3⟩, hB, hl, q⟩ := h
  obtain ⟨dx', r', xs', k1, k2, k3⟩ := id hB
  refine ⟨_, (pss_cons (ps_if (PW.pt (pw_or (pt_cmpR op_ne (pe_fld (pv 0) rfl) (pe_fld (pv 1) rfl) (nomark _)) (pw_or1 (pt_cmpR op_ne (pe_fld (pv 0) rfl) (pe_fld (pv 1) rfl) (nomark _))))) (pss_one (ps_ret pe_bl)) pss_nil)
      (pss_cons (ps_if (PW.pt (pw_or (pt_cmpR op_ne (pe_fld (pv 0) rfl) (pe_fld (pv 1) rfl) (nomark _)) (pw_or1 (pt_cmpR op_ne (pe_fld (pv 0) rfl) (pe_fld (pv 1) rfl) (nomark _))))) (pss_one (ps_ret pe_bl)) pss_nil)
      (pss_one (ps_ret (pe_cmpR (op_eqD hr.units) (pe_fld (pv 0) rfl) (pe_meth0 (pv 1) T.clP mm_Picture_rows F_Picture_rows (hr.mono (by decide)) b_Picture_rows .nil pass0) (nomark _)))))), ?_⟩
  simp only [tSeq, tAsg, tRet, tIfS, tTest, tOp, tUn, tVar, tC, tCons, tNil, tCB, tHas, gName, rI0, rI, rU, tNext, tNot, tAnd, tOr, tChain, tIf, tB, tNever, tRetN, tDrop, tTup, tLst, tMeth, tMake, tM0, tM1, tBits, tTruI, tBM, gSub, tSl, tNoPart, tPart, gcE, gnE, bs_length, tListRevR, tRg1, tFldE, sFldE, tPar3, cxK, nxK, List.append_nil, L2.start, List.map_cons, List.map_nil, List.length_cons, List.length_nil, List.replicate, List.cons_append, List.nil_append, List.getElem?_cons_zero, List.getElem?_cons_succ, List.set_cons_zero, List.set_cons_succ, Option.some.injEq, V.int.injEq, V.bl.injEq, V.str.injEq, V.ref.injEq, exists_eq_left', exists_eq_left, exists_and_left, List.cons.injEq, and_true, true_and, eq_self_iff_true, Nat.reduceAdd, Nat.reduceSub, Nat.zero_add, rEqI, rNeI, tAndV, tOrV, tNotV, natI, tDGet, tDIn, tDNotIn, sDPut, tDGet2, tDNewT, tDNewK, tDSetd, tCKw, piE T h1, piE T k1]
  rw [if_neg (by simp), if_neg (by simp), if_neg (by simp), if_neg (by simp)]
  obtain ⟨q1, q2⟩ := rows_all p.rows
  refine ⟨dx', fsP p r', k1, rfl, b, p, rfl, hB, hl, fun l H' ys hl0 e1 hl1 hys => ⟨rowsD p.rows, rowsD p.rows, rows_dp (e1 _ _ h2) (h3.mono e1), rows_dp hl1 hys, q2, q2, ?_⟩⟩
  rw [q1]
  exact q H' e1
end
end PK


set_option maxHeartbeats 4000000
namespace PK
open PySem PySem.Spec PyProof.Rows L2 Evl
local macro_rules | `(tactic| walk_at "rd") => `(tactic| simp only [tSeq, tAsg, tRet, tIfS, tTest, tOp, tUn, tVar, tC, tCons, tNil, tCB, tHas, gName, rI0, rI, rU, tNext, tNot, tAnd, tOr, tChain, tIf, tB, tNever, tRetN, tDrop, tTup, tLst, tMeth, tMake, tM0, tM1, tBits, tTruI, tBM, gSub, tSl, tNoPart, tPart, gcE, gnE, bs_length, tListRevR, tRg1, tFldE, sFldE, tPar3, cxK, nxK, List.append_nil,
  L2.start, List.map_cons, List.map_nil, List.length_cons, List.length_nil, List.replicate, List.cons_append, List.nil_append, List.getElem?_cons_zero, List.getElem?_cons_succ, List.set_cons_zero, List.set_cons_succ,
  Option.some.injEq, V.int.injEq, V.bl.injEq, V.str.injEq, V.ref.injEq, exists_eq_left', exists_eq_left, exists_and_left, List.cons.injEq, and_true, true_and, eq_self_iff_true, Nat.reduceAdd, Nat.reduceSub, Nat.zero_add])
theorem call_intI {X : Cx} : CallR X (.type "int") (fun xs H Q => ∃ i, xs = [.int i] ∧ Q (.int i) H) := fun pins s σ H xs us Q I r h => call_int1 pins s σ H xs us Q I r (.inl h)
section
variable {P : Program} {w : World} {K : PySem.W.Frag} {mg : Str → Option Value} {base : Heap} {CF CP CA : Addr}
def spCell (K : PySem.W.Frag) : Sp := fun vs H Q _ => ∃ (a : Addr) (xs : List V) (k : Nat), vs = [.ref a, .int (k : Int)] ∧ SqL K H a xs ∧ (∀ x ∈ xs, ∃ i, x = .int i) ∧ ∀ i : Int, Q (.int i) H
theorem has_l_cell (T : Top K mg CF CP CA) : Has P w K mg base CX0 1 "_law_cell" ["_law_script", "_law_k"] (spCell K) := by
  refine has0 T.d_l_cell sc_l_cell (fun vs H Q E h => by
    repeat (obtain ⟨_, h⟩ := h)
    subst_vars
    rfl) fun f cdv A outer s H vs Q E hr h => ?_
  obtain ⟨a, xs, k, rfl, hx, hi, q⟩ := h
  refine ⟨_, (pss_cons (ps_if (pt_cmpR op_lt (pv 1) (pe_callB call_len rfl T.n_len boot_len (pa_cons (pv 0) pa_nil)) (nomark _)) (pss_one (ps_ret (pe_ix ix_list (pv 0) (pv 1) (fun _ _ => rfl)))) pss_nil)
      (pss_one (ps_ret pe_int))), ?_⟩
  simp only [tSeq, tAsg, tRet, tIfS, tTest, tOp, tUn, tVar, tC, tCons, tNil, tCB, tHas, gName, rI0, rI, rU, tNext, tNot, tAnd, tOr, tChain, tIf, tB, tNever, tRetN, tDrop, tTup, tLst, tMeth, tMake, tM0, tM1, tBits, tTruI, tBM, gSub, tSl, tNoPart, tPart, gcE, gnE, bs_length, tListRevR, tRg1, tFldE, sFldE, tPar3, cxK, nxK, List.append_nil, L2.start, List.map_cons, List.map_nil, List.length_cons, List.length_nil, List.replicate, List.cons_append, List.nil_append, List.getElem?_cons_zero, List.getElem?_cons_succ, List.set_cons_zero, List.set_cons_succ, Option.some.injEq, V.int.injEq, V.bl.injEq, V.str.injEq, V.ref.injEq, exists_eq_left', exists_eq_left, exists_and_left, List.cons.injEq, and_true, true_and, eq_self_iff_true, Nat.reduceAdd, Nat.reduceSub, Nat.zero_add, rEqI, rNeI, tAndV, tOrV, tNotV, natI, tDGet, tDIn, tDNotIn, sDPut, tDGet2, tDNewT, tDNewK, tDSetd, tCKw]
  refine ⟨_, lenL hx, ?_⟩
  by_cases hk : k < xs.length
  · rw [if_pos (decide_eq_true (by omega))]
    obtain ⟨i, hxi⟩ := hi (xs[k]) (List.getElem_mem hk)
    exact ixL (v := .int i) rfl hx (by rw [List.getElem?_eq_getElem hk, hxi]) (q i)
  · rw [if_neg (by simp; omega)]
    exact q 0
def spMixed : Sp := fun vs H Q _ => ∃ (n : Int) (k l : Nat), vs = [.int n, .int (k : Int), .int (l : Int)] ∧ 0 ≤ n ∧ k ≤ 1000 ∧ 0 < l ∧ ∀ r : Nat, r < l → Q (.int (r : Int)) H
theorem has_l_mixed (T : Top K mg CF CP CA) : Has P w K mg base CX0 1 "_law_mixed" ["_law_number", "_law_k", "_law_limit"] spMixed := by
  refine has0 T.d_l_mixed sc_l_mixed (fun vs H Q E h => by
    repeat (obtain ⟨_, h⟩ := h)
    subst_vars
    rfl) fun f cdv A outer s H vs Q E hr h => ?_
  obtain ⟨n, k, l, rfl, hn, hk, hl, q⟩ := h
  refine ⟨_, (pss_cons (ps_set (i := 3) sc_l_mixed.nd rfl (by first | exact .inl rfl | exact .inr rfl) (pe_op op_mod (pe_callTy call_intI rfl T.n_int (by decide +kernel) (pa_cons (pe_op op_mul (pe_op op_add (pe_op op_add (pv 0) (pe_op op_mul pe_int (pv 1))) pe_int) pe_int) pa_nil)) pe_int))
      (pss_cons (ps_set (i := 4) sc_l_mixed.nd rfl (by first | exact .inl rfl | exact .inr rfl) (pe_op op_mod (pe_callTy call_intI rfl T.n_int (by decide +kernel) (pa_cons (pe_op op_add (pe_op op_mul (pv 3) (pv 3)) (pe_op op_mul pe_int (pv 1))) pa_nil)) pe_int))
      (pss_one (ps_ret (pe_op op_mod (pe_op op_mod (pe_callTy call_intI rfl T.n_int (by decide +kernel) (pa_cons (pe_op op_add (pe_op op_mul (pv 4) pe_int) (pv 3)) pa_nil)) pe_int) (pv 2)))))), ?_⟩
  simp only [tSeq, tAsg, tRet, tIfS, tTest, tOp, tUn, tVar, tC, tCons, tNil, tCB, tHas, gName, rI0, rI, rU, tNext, tNot, tAnd, tOr, tChain, tIf, tB, tNever, tRetN, tDrop, tTup, tLst, tMeth, tMake, tM0, tM1, tBits, tTruI, tBM, gSub, tSl, tNoPart, tPart, gcE, gnE, bs_length, tListRevR, tRg1, tFldE, sFldE, tPar3, cxK, nxK, List.append_nil, L2.start, List.map_cons, List.map_nil, List.length_cons, List.length_nil, List.replicate, List.cons_append, List.nil_append, List.getElem?_cons_zero, List.getElem?_cons_succ, List.set_cons_zero, List.set_cons_succ, Option.some.injEq, V.int.injEq, V.bl.injEq, V.str.injEq, V.ref.injEq, exists_eq_left', exists_eq_left, exists_and_left, List.cons.injEq, and_true, true_and, eq_self_iff_true, Nat.reduceAdd, Nat.reduceSub, Nat.zero_add, rEqI, rNeI, tAndV, tOrV, tNotV, natI, tDGet, tDIn, tDNotIn, sDPut, tDGet2, tDNewT, tDNewK, tDSetd, tCKw]
  generalize hA : (n + 7 * (k : Int) + 1) * 48271 % 2147483647 = A
  have hA1 : 0 ≤ A := by rw [← hA]; exact Int.emod_nonneg _ (by decide)
  have hA2 : A < 2147483647 := by rw [← hA]; exact Int.emod_lt_of_pos _ (by decide)
  generalize hB : (A * A + 69621 * (k : Int)) % 2147483399 = B
  have hB1 : 0 ≤ B := by rw [← hB]; exact Int.emod_nonneg _ (by decide)
  have hB2 : B < 2147483399 := by rw [← hB]; exact Int.emod_lt_of_pos _ (by decide)
  refine ⟨.inl ⟨by decide, by decide⟩, .inr ⟨by decide, by decide⟩, by decide, .inl ⟨by omega, by omega⟩, .inl ⟨by decide, by decide⟩, by decide, .inl ⟨by omega, by omega⟩, by decide, by omega, ?_⟩
  generalize (B * 40692 + A) % 1000000007 = C
  have hC1 : 0 ≤ C % (l : Int) := Int.emod_nonneg _ (by omega)
  have hC2 : C % (l : Int) < (l : Int) := Int.emod_lt_of_pos _ (by omega)
  have := q (C % (l : Int)).toNat (by omega)
  rw [Int.toNat_of_nonneg hC1] at this
  exact this
def spNums : Sp := fun vs H Q _ => ∃ (c : Int) (n l : Nat), vs = [.int c, .int (n : Int), .int (l : Int)] ∧ n ≤ 1000 ∧ 0 < l ∧ l ≤ 1000000 ∧ ∀ p H' (ns : List Nat), H p = none → Ex H H' → H' p = some (.lst (intsN ns)) → ns.length = n → (∀ x ∈ ns, x < l) → Q (.ref p) H'
theorem has_l_numbers (T : Top K mg CF CP CA) : Has P w K mg base CX0 2 "_law_numbers" ["_law_cell_here", "_law_count", "_law_limit"] spNums := by
  have G_l_mixed := has_l_mixed (P := P) (w := w) (base := base) T
  refine has0 T.d_l_numbers sc_l_numbers (fun vs H Q E h => by
    repeat (obtain ⟨_, h⟩ := h)
    subst_vars
    rfl) fun f cdv A outer s H vs Q E hr h => ?_
  obtain ⟨c, n, l, rfl, hn, hl, hl2, q⟩ := h
  refine ⟨_, (pss_cons (ps_set (i := 3) sc_l_numbers.nd rfl (by first | exact .inl rfl | exact .inr rfl) (pe_callB call_abs rfl T.n_abs (by decide +kernel) (pa_cons (pv 0) pa_nil)))
      (pss_cons (ps_set (i := 4) sc_l_numbers.nd rfl (by first | exact .inl rfl | exact .inr rfl) (pe_cmpR op_ge (pv 3) (pe_op op_pow pe_int pe_int) (nomark _)))
      (pss_cons (ps_set (i := 5) sc_l_numbers.nd rfl (by first | exact .inl rfl | exact .inr rfl) (pe_lst pa_nil))
      (pss_cons (ps_for PassesOwn.never rfl (pi_range1 rfl T.n_range (pa_cons (pv 1) pa_nil)) (pg_name (i := 6) sc_l_numbers.nd rfl (by first | exact .inl rfl | exact .inr rfl)) (pss_one (ps_if (PW.pt (pw_and (pt_val (pv 4)) (pw_and1 (pt_cmpR op_gt (pv 3) pe_int (nomark _))))) (pss_cons (ps_expr (pe_bm PySem.F.plainAttrs_list PySem.F.slot_list_append PySem.F.type_list_append mt_append (pv 5) (pa_cons (pe_op op_mod (pe_callTy call_intI rfl T.n_int (by decide +kernel) (pa_cons (pv 3) pa_nil)) (pv 2)) pa_nil)))
      (pss_one (ps_set (i := 3) sc_l_numbers.nd rfl (by first | exact .inl rfl | exact .inr rfl) (pe_op op_fdivN (pv 3) (pv 2))))) (pss_one (ps_expr (pe_bm PySem.F.plainAttrs_list PySem.F.slot_list_append PySem.F.type_list_append mt_append (pv 5) (pa_cons (pe_has G_l_mixed (hr.mono (by decide)) (pa_cons (pe_callB call_abs rfl T.n_abs (by decide +kernel) (pa_cons (pv 0) pa_nil)) (pa_cons (pv 6) (pa_cons (pv 2) pa_nil)))) pa_nil)))))))
      (pss_one (ps_ret (pv 5))))))), ?_⟩
  simp only [tSeq, tAsg, tRet, tIfS, tTest, tOp, tUn, tVar, tC, tCons, tNil, tCB, tHas, gName, rI0, rI, rU, tNext, tNot, tAnd, tOr, tChain, tIf, tB, tNever, tRetN, tDrop, tTup, tLst, tMeth, tMake, tM0, tM1, tBits, tTruI, tBM, gSub, tSl, tNoPart, tPart, gcE, gnE, bs_length, tListRevR, tRg1, tFldE, sFldE, tPar3, cxK, nxK, List.append_nil, L2.start, List.map_cons, List.map_nil, List.length_cons, List.length_nil, List.replicate, List.cons_append, List.nil_append, List.getElem?_cons_zero, List.getElem?_cons_succ, List.set_cons_zero, List.set_cons_succ, Option.some.injEq, V.int.injEq, V.bl.injEq, V.str.injEq, V.ref.injEq, exists_eq_left', exists_eq_left, exists_and_left, List.cons.injEq, and_true, true_and, eq_self_iff_true, Nat.reduceAdd, Nat.reduceSub, Nat.zero_add, rEqI, rNeI, tAndV, tOrV, tNotV, natI, tDGet, tDIn, tDNotIn, sDPut, tDGet2, tDNewT, tDNewK, tDSetd, tCKw]
  refine ⟨⟨by decide, by decide, by decide⟩, by decide, fun p hp => ?_⟩
  generalize decide (10 ^ Int.toNat 18 ≤ if c < 0 then -c else c) = big
  have habs : ∀ c : Int, 0 ≤ (if c < 0 then -c else c) := fun c => by split <;> omega
  refine s_rng (n := n) (fun Q q => ⟨_, rfl, q⟩) (by omega) (fun i σ' H' => Ex H H' ∧ ∃ (ns : List Nat) (rest : Int) (v6 : Option V), H' p = some (.lst (intsN ns)) ∧ ns.length = i ∧ (∀ x ∈ ns, x < l) ∧ 0 ≤ rest ∧ σ' = [some (.int c), some (.int n), some (.int l), some (.int rest), some (.bl big), some (.ref p), v6])
    ⟨Ex.new hp, [], _, none, upd_same, rfl, fun _ h => absurd h List.not_mem_nil, habs c, rfl⟩ ?_ ?_
  · rintro i σ' H1 hi ⟨e1, ns, rest, v6, hns, hnl, hnb, hrest, rfl⟩
    simp only [tSeq, tAsg, tRet, tIfS, tTest, tOp, tUn, tVar, tC, tCons, tNil, tCB, tHas, gName, rI0, rI, rU, tNext, tNot, tAnd, tOr, tChain, tIf, tB, tNever, tRetN, tDrop, tTup, tLst, tMeth, tMake, tM0, tM1, tBits, tTruI, tBM, gSub, tSl, tNoPart, tPart, gcE, gnE, bs_length, tListRevR, tRg1, tFldE, sFldE, tPar3, cxK, nxK, List.append_nil, L2.start, List.map_cons, List.map_nil, List.length_cons, List.length_nil, List.replicate, List.cons_append, List.nil_append, List.getElem?_cons_zero, List.getElem?_cons_succ, List.set_cons_zero, List.set_cons_succ, Option.some.injEq, V.int.injEq, V.bl.injEq, V.str.injEq, V.ref.injEq, exists_eq_left', exists_eq_left, exists_and_left, List.cons.injEq, and_true, true_and, eq_self_iff_true, Nat.reduceAdd, Nat.reduceSub, Nat.zero_add, rEqI, rNeI, tAndV, tOrV, tNotV, natI, tDGet, tDIn, tDNotIn, sDPut, tDGet2, tDNewT, tDNewK, tDSetd, tCKw]
    have fin : ∀ r : Nat, r < l → ∀ rest' : Int, 0 ≤ rest' → (Ex H (upd H1 p (.lst (intsN ns ++ [.int (r : Int)]))) ∧ ∃ ns' : List Nat, (upd H1 p (.lst (intsN ns ++ [.int (r : Int)]))) p = some (.lst (intsN ns')) ∧ ns'.length = i + 1 ∧ (∀ x ∈ ns', x < l) ∧ ∃ x, 0 ≤ x ∧ rest' = x ∧ ∃ y, some (V.int (i : Int)) = y) := fun r hr rest' hr' => by
      refine ⟨Ex.mut e1 hp, ns ++ [r], ?_, by simp [hnl], fun x hx => ?_, rest', hr', rfl, _, rfl⟩
      · rw [upd_same]
        unfold intsN
        rw [List.map_append]
        rfl
      · rcases List.mem_append.mp hx with z | z
        · exact hnb x z
        · obtain rfl := List.mem_singleton.mp z
          exact hr
    have mix : tyV K "list" (V.ref p) H1 ∧ spMixed [V.int (if c < 0 then -c else c), V.int ↑i, V.int ↑l] H1 (fun x H1 => rAppend (V.ref p) [x] H1 fun x H1 => Ex H H1 ∧ ∃ ns : List Nat, H1 p = some (HO.lst (intsN ns)) ∧ ns.length = i + 1 ∧ (∀ (x : Nat), x ∈ ns → x < l) ∧ ∃ x, 0 ≤ x ∧ rest = x ∧ ∃ x, some (V.int ↑i) = x) E0 :=
      ⟨.inl ⟨rfl, _, sq_of hns⟩, _, i, l, rfl, habs c, by omega, hl, fun r hr => ⟨p, _, _, rfl, rfl, hns, by rw [intsN_len]; exact sz_lt (by omega), fin r hr rest hrest⟩⟩
    cases big
    · exact iteF (iteF mix)
    · refine iteT ?_
      by_cases h0 : (0 : Int) < rest
      · rw [if_pos (decide_eq_true h0)]
        have hr1 : 0 ≤ rest % (l : Int) := Int.emod_nonneg _ (by omega)
        have hr2 : rest % (l : Int) < (l : Int) := Int.emod_lt_of_pos _ (by omega)
        obtain ⟨r, hr⟩ := Int.eq_ofNat_of_zero_le hr1
        rw [hr] at hr2 ⊢
        refine ⟨.inl ⟨rfl, _, sq_of hns⟩, by omega, p, _, _, rfl, rfl, hns, by rw [intsN_len]; exact sz_lt (by omega), ⟨by omega, by omega⟩, fin r (by omega) _ (Int.fdiv_nonneg hrest (by omega))⟩
      · rw [if_neg (by simpa using h0)]
        exact mix
  · rintro σ' H1 ⟨e1, ns, rest, v6, hns, hnl, hnb, hrest, rfl⟩
    simp only [tSeq, tAsg, tRet, tIfS, tTest, tOp, tUn, tVar, tC, tCons, tNil, tCB, tHas, gName, rI0, rI, rU, tNext, tNot, tAnd, tOr, tChain, tIf, tB, tNever, tRetN, tDrop, tTup, tLst, tMeth, tMake, tM0, tM1, tBits, tTruI, tBM, gSub, tSl, tNoPart, tPart, gcE, gnE, bs_length, tListRevR, tRg1, tFldE, sFldE, tPar3, cxK, nxK, List.append_nil, L2.start, List.map_cons, List.map_nil, List.length_cons, List.length_nil, List.replicate, List.cons_append, List.nil_append, List.getElem?_cons_zero, List.getElem?_cons_succ, List.set_cons_zero, List.set_cons_succ, Option.some.injEq, V.int.injEq, V.bl.injEq, V.str.injEq, V.ref.injEq, exists_eq_left', exists_eq_left, exists_and_left, List.cons.injEq, and_true, true_and, eq_self_iff_true, Nat.reduceAdd, Nat.reduceSub, Nat.zero_add, rEqI, rNeI, tAndV, tOrV, tNotV, natI, tDGet, tDIn, tDNotIn, sDPut, tDGet2, tDNewT, tDNewK, tDSetd, tCKw]
    exact q p H1 ns hp e1 hns hnl hnb
/-- the sizes of a frame -/
def szV (F : Fr) : List Nat := [F.W, F.Hh, F.D, F.C, F.T]
def spTiny : Sp := fun vs H Q _ => ∃ c : Int, vs = [.int c] ∧ ∀ p H' (F : Fr), H p = none → Ex H H' → H' p = some (.lst (intsN (szV F))) → F.ok → Q (.ref p) H'
theorem has_l_tiny (T : Top K mg CF CP CA) : Has P w K mg base CX0 3 "_law_tiny" ["_law_cell_here"] spTiny := by
  have G_l_numbers := has_l_numbers (P := P) (w := w) (base := base) T
  refine has0 T.d_l_tiny sc_l_tiny (fun vs H Q E h => by
    repeat (obtain ⟨_, h⟩ := h)
    subst_vars
    rfl) fun f cdv A outer s H vs Q E hr h => ?_
  obtain ⟨c, rfl, q⟩ := h
  refine ⟨_, (pss_cons (ps_set (i := 1) sc_l_tiny.nd rfl (by first | exact .inl rfl | exact .inr rfl) (pe_has G_l_numbers (hr.mono (by decide)) (pa_cons (pv 0) (pa_cons pe_int (pa_cons pe_int pa_nil)))))
      (pss_cons (ps_set (i := 2) sc_l_tiny.nd rfl (by first | exact .inl rfl | exact .inr rfl) (pe_op op_add pe_int (pe_op op_mul pe_int (pe_op op_mod (pe_ix ix_list (pv 1) pe_int (fun _ _ => rfl)) pe_int))))
      (pss_cons (ps_set (i := 3) sc_l_tiny.nd rfl (by first | exact .inl rfl | exact .inr rfl) (pe_op op_add pe_int (pe_op op_mod (pe_ix ix_list (pv 1) pe_int (fun _ _ => rfl)) (pe_ifExp (pt_cmpR op_eq (pv 2) pe_int (nomark _)) pe_int pe_int))))
      (pss_one (ps_ret (pe_lst (pa_cons (pe_op op_add pe_int (pe_op op_mod (pe_ix ix_list (pv 1) pe_int (fun _ _ => rfl)) pe_int)) (pa_cons (pe_op op_add pe_int (pe_op op_mod (pe_ix ix_list (pv 1) pe_int (fun _ _ => rfl)) pe_int)) (pa_cons (pv 3) (pa_cons (pv 2) (pa_cons (pe_op op_add pe_int (pe_op op_mod (pe_ix ix_list (pv 1) pe_int (fun _ _ => rfl)) pe_int)) pa_nil))))))))))), ?_⟩
  simp only [tSeq, tAsg, tRet, tIfS, tTest, tOp, tUn, tVar, tC, tCons, tNil, tCB, tHas, gName, rI0, rI, rU, tNext, tNot, tAnd, tOr, tChain, tIf, tB, tNever, tRetN, tDrop, tTup, tLst, tMeth, tMake, tM0, tM1, tBits, tTruI, tBM, gSub, tSl, tNoPart, tPart, gcE, gnE, bs_length, tListRevR, tRg1, tFldE, sFldE, tPar3, cxK, nxK, List.append_nil, L2.start, List.map_cons, List.map_nil, List.length_cons, List.length_nil, List.replicate, List.cons_append, List.nil_append, List.getElem?_cons_zero, List.getElem?_cons_succ, List.set_cons_zero, List.set_cons_succ, Option.some.injEq, V.int.injEq, V.bl.injEq, V.str.injEq, V.ref.injEq, exists_eq_left', exists_eq_left, exists_and_left, List.cons.injEq, and_true, true_and, eq_self_iff_true, Nat.reduceAdd, Nat.reduceSub, Nat.zero_add, rEqI, rNeI, tAndV, tOrV, tNotV, natI, tDGet, tDIn, tDNotIn, sDPut, tDGet2, tDNewT, tDNewK, tDSetd, tCKw]
  refine ⟨c, 5, 960, rfl, by decide, by decide, by decide, fun p H1 ns hp e1 hns hnl hnb => ?_⟩
  match ns, hnl with
  | [n0, n1, n2, n3, n4], _ =>
  have hs := sq_of (K := K) hns
  refine ixL (j := 3) (v := .int (n3 : Int)) rfl hs rfl ⟨_, rfl, by decide, .inl ⟨by decide, by decide⟩, ixL (j := 2) (v := .int (n2 : Int)) rfl hs rfl ?_⟩
  rcases Nat.mod_two_eq_zero_or_one n3 with z | z
  · have e3 : ((n3 : Int) % 2) = 0 := by omega
    rw [e3, if_pos (by decide)]
    refine ⟨_, rfl, by decide, ixL (j := 0) (v := .int (n0 : Int)) rfl hs rfl ⟨_, rfl, by decide, ixL (j := 1) (v := .int (n1 : Int)) rfl hs rfl ⟨_, rfl, by decide, ixL (j := 4) (v := .int (n4 : Int)) rfl hs rfl ⟨_, rfl, by decide, by decide, fun p2 hp2 => ?_⟩⟩⟩⟩
    refine q p2 _ ⟨1 + n0 % 4, 1 + n1 % 4, 1 + n2 % 3, 1, 1 + n4 % 2⟩ (fresh_back e1 hp2) (e1.trans (Ex.new hp2)) ?_ ?_
    · rw [upd_same]
      simp only [szV, intsN, List.map_cons, List.map_nil, Int.natCast_add, Int.natCast_emod]
      rfl
    · unfold Fr.ok
      dsimp only
      omega
  · have e3 : ((n3 : Int) % 2) = 1 := by omega
    rw [e3, if_neg (by decide)]
    refine ⟨_, rfl, by decide, ixL (j := 0) (v := .int (n0 : Int)) rfl hs rfl ⟨_, rfl, by decide, ixL (j := 1) (v := .int (n1 : Int)) rfl hs rfl ⟨_, rfl, by decide, ixL (j := 4) (v := .int (n4 : Int)) rfl hs rfl ⟨_, rfl, by decide, by decide, fun p2 hp2 => ?_⟩⟩⟩⟩
    refine q p2 _ ⟨1 + n0 % 4, 1 + n1 % 4, 1 + n2 % 2, 3, 1 + n4 % 2⟩ (fresh_back e1 hp2) (e1.trans (Ex.new hp2)) ?_ ?_
    · rw [upd_same]
      simp only [szV, intsN, List.map_cons, List.map_nil, Int.natCast_add, Int.natCast_emod]
      rfl
    · unfold Fr.ok
      dsimp only
      omega
theorem cutV_at {l : List Nat} {i n : Nat} (h : i + n ≤ l.length) : cutV (intsN l) (some (i : Int)) (some ((i + n : Nat) : Int)) = intsN ((l.drop i).take n) := by
  unfold cutV
  rw [intsN_len, sIx_nat, sIx_nat, show min i l.length = i by omega, show min (i + n) l.length - i = n by omega]
  unfold intsN
  rw [List.map_take, List.map_drop]
def spVals : Sp := fun vs H Q _ => ∃ (c : Int) (a : Addr) (F : Fr), vs = [.int c, .ref a] ∧ H a = some (.lst (intsN (szV F))) ∧ F.ok ∧ ∀ p H' xs (rows : List (List Nat)), H p = none → Ex H H' → H' p = some (.lst xs) → RowsAt H' xs rows → rows.length = F.C → (∀ r ∈ rows, r.length = F.W * F.Hh ∧ ∀ v ∈ r, v < 2 ^ F.D) → Q (.ref p) H'
theorem has_l_values (T : Top K mg CF CP CA) : Has P w K mg base CX0 3 "_law_values" ["_law_cell_here", "_law_sizes"] spVals := by
  have G_l_numbers := has_l_numbers (P := P) (w := w) (base := base) T
  refine has0 T.d_l_values sc_l_values (fun vs H Q E h => by
    repeat (obtain ⟨_, h⟩ := h)
    subst_vars
    rfl) fun f cdv A outer s H vs Q E hr h => ?_
  obtain ⟨c, a, F, rfl, ha, ok, q⟩ := h
  refine ⟨_, (pss_cons (ps_set (i := 2) sc_l_values.nd rfl (by first | exact .inl rfl | exact .inr rfl) (pe_op op_mul (pe_ix ix_list (pv 1) pe_int (fun _ _ => rfl)) (pe_ix ix_list (pv 1) pe_int (fun _ _ => rfl))))
      (pss_cons (ps_set (i := 3) sc_l_values.nd rfl (by first | exact .inl rfl | exact .inr rfl) (pe_has G_l_numbers (hr.mono (by decide)) (pa_cons (pv 0) (pa_cons (pe_op op_mul (pv 2) (pe_ix ix_list (pv 1) pe_int (fun _ _ => rfl))) (pa_cons (pe_op op_shl pe_int (pe_ix ix_list (pv 1) pe_int (fun _ _ => rfl))) pa_nil)))))
      (pss_one (ps_ret (pe_lc (own := [("_law_k", 4)]) rfl sc_l_values.nd (pi_range1 rfl T.n_range (pa_cons (pe_ix ix_list (pv 1) pe_int (fun _ _ => rfl)) pa_nil)) (blkOk_by (N := ["_law_cell_here", "_law_sizes", "_law_pixels", "_law_row", "_law_k"]) (sc := defScope s_l_values) (by decide +kernel)) (fun _ _ _ _ _ => by exact (pg_name (i := 4) sc_l_values.nd rfl (by first | exact .inl rfl | exact .inr rfl))) (fun _ _ _ _ _ => by exact pts_nil) (fun _ _ _ _ _ => by exact (pe_slice (sl_listK (K := K) rfl) (pv 3) (po_some (pe_op op_mul (pv 2) (pv 4))) (po_some (pe_op op_add (pe_op op_mul (pv 2) (pv 4)) (pv 2)))))))))), ?_⟩
  simp only [tSeq, tAsg, tRet, tIfS, tTest, tOp, tUn, tVar, tC, tCons, tNil, tCB, tHas, gName, rI0, rI, rU, tNext, tNot, tAnd, tOr, tChain, tIf, tB, tNever, tRetN, tDrop, tTup, tLst, tMeth, tMake, tM0, tM1, tBits, tTruI, tBM, gSub, tSl, tNoPart, tPart, gcE, gnE, bs_length, tListRevR, tRg1, tFldE, sFldE, tPar3, cxK, nxK, List.append_nil, L2.start, List.map_cons, List.map_nil, List.length_cons, List.length_nil, List.replicate, List.cons_append, List.nil_append, List.getElem?_cons_zero, List.getElem?_cons_succ, List.set_cons_zero, List.set_cons_succ, Option.some.injEq, V.int.injEq, V.bl.injEq, V.str.injEq, V.ref.injEq, exists_eq_left', exists_eq_left, exists_and_left, List.cons.injEq, and_true, true_and, eq_self_iff_true, Nat.reduceAdd, Nat.reduceSub, Nat.zero_add, rEqI, rNeI, tAndV, tOrV, tNotV, natI, tDGet, tDIn, tDNotIn, sDPut, tDGet2, tDNewT, tDNewK, tDSetd, tCKw]
  have hs := sq_of (K := K) ha
  have hb := ok.b
  have hpx := Nat.mul_le_mul (show F.W ≤ 4 by omega) (show F.Hh ≤ 4 by omega)
  have hpc := Nat.mul_le_mul hpx (show F.C ≤ 3 by omega)
  refine ixL (j := 0) (v := .int (F.W : Int)) rfl hs rfl (ixL (j := 1) (v := .int (F.Hh : Int)) rfl hs rfl ⟨_, rfl, _, rfl, .inl ⟨by omega, by omega⟩, ixL (j := 3) (v := .int (F.C : Int)) rfl hs rfl ⟨_, rfl, .inr ⟨by omega, by omega⟩, ixL (j := 2) (v := .int (F.D : Int)) rfl hs rfl ⟨_, rfl, ⟨by omega, by omega, by decide⟩, ?_⟩⟩⟩)
  have e1 : (F.W : Int) * (F.Hh : Int) * (F.C : Int) = ((F.W * F.Hh * F.C : Nat) : Int) := by rw [Int.natCast_mul, Int.natCast_mul]
  have e2 : (1 : Int) * 2 ^ (F.D : Int).toNat = ((2 ^ F.D : Nat) : Int) := by rw [Int.toNat_natCast]; simp
  have e0 : (F.W : Int) * (F.Hh : Int) = ((F.W * F.Hh : Nat) : Int) := by rw [Int.natCast_mul]
  have hpd : 2 ^ F.D ≤ 2 ^ 3 := Nat.pow_le_pow_right (by decide) (by omega)
  have hpd0 : 0 < 2 ^ F.D := Nat.pow_pos (by decide)
  rw [e1, e2, e0]
  generalize hn : F.W * F.Hh = n at hpx hpc
  refine ⟨c, n * F.C, 2 ^ F.D, rfl, by omega, hpd0, by omega, fun p H1 ns hp e3 hns hnl hnb => ?_⟩
  have hs1 := sq_of (K := K) (e3 _ _ ha)
  refine lo_rng (k := F.C) (fun Q q => ?_) (by omega) (fun i => rowO ((ns.drop (n * i)).take n)) (fun _ => rfl) ?_ ?_
  · simp only [tSeq, tAsg, tRet, tIfS, tTest, tOp, tUn, tVar, tC, tCons, tNil, tCB, tHas, gName, rI0, rI, rU, tNext, tNot, tAnd, tOr, tChain, tIf, tB, tNever, tRetN, tDrop, tTup, tLst, tMeth, tMake, tM0, tM1, tBits, tTruI, tBM, gSub, tSl, tNoPart, tPart, gcE, gnE, bs_length, tListRevR, tRg1, tFldE, sFldE, tPar3, cxK, nxK, List.append_nil, L2.start, List.map_cons, List.map_nil, List.length_cons, List.length_nil, List.replicate, List.cons_append, List.nil_append, List.getElem?_cons_zero, List.getElem?_cons_succ, List.set_cons_zero, List.set_cons_succ, Option.some.injEq, V.int.injEq, V.bl.injEq, V.str.injEq, V.ref.injEq, exists_eq_left', exists_eq_left, exists_and_left, List.cons.injEq, and_true, true_and, eq_self_iff_true, Nat.reduceAdd, Nat.reduceSub, Nat.zero_add, rEqI, rNeI, tAndV, tOrV, tNotV, natI, tDGet, tDIn, tDNotIn, sDPut, tDGet2, tDNewT, tDNewK, tDSetd, tCKw]
    exact ixL (j := 3) (v := .int (F.C : Int)) rfl hs1 rfl q
  · intro i H2 R hi e4 hR
    simp only [wipe, List.set_cons_zero, List.set_cons_succ, List.foldl_cons, List.foldl_nil]
    simp only [tSeq, tAsg, tRet, tIfS, tTest, tOp, tUn, tVar, tC, tCons, tNil, tCB, tHas, gName, rI0, rI, rU, tNext, tNot, tAnd, tOr, tChain, tIf, tB, tNever, tRetN, tDrop, tTup, tLst, tMeth, tMake, tM0, tM1, tBits, tTruI, tBM, gSub, tSl, tNoPart, tPart, gcE, gnE, bs_length, tListRevR, tRg1, tFldE, sFldE, tPar3, cxK, nxK, List.append_nil, L2.start, List.map_cons, List.map_nil, List.length_cons, List.length_nil, List.replicate, List.cons_append, List.nil_append, List.getElem?_cons_zero, List.getElem?_cons_succ, List.set_cons_zero, List.set_cons_succ, Option.some.injEq, V.int.injEq, V.bl.injEq, V.str.injEq, V.ref.injEq, exists_eq_left', exists_eq_left, exists_and_left, List.cons.injEq, and_true, true_and, eq_self_iff_true, Nat.reduceAdd, Nat.reduceSub, Nat.zero_add, rEqI, rNeI, tAndV, tOrV, tNotV, natI, tDGet, tDIn, tDNotIn, sDPut, tDGet2, tDNewT, tDNewK, tDSetd, tCKw]
    have hni : n * i + n ≤ ns.length := by
      rw [hnl]
      have := Nat.mul_le_mul_left n (show i + 1 ≤ F.C from hi)
      rw [Nat.mul_add, Nat.mul_one] at this
      exact this
    refine ⟨.inl ⟨by omega, by omega⟩, .inl ⟨by omega, by omega⟩, p, _, rfl, sq_of (e4 _ _ hns), fun l hl => ?_⟩
    have e5 : (n : Int) * (i : Int) = ((n * i : Nat) : Int) := by rw [Int.natCast_mul]
    have e6 : ((n * i : Nat) : Int) + (n : Int) = ((n * i + n : Nat) : Int) := by rw [Int.natCast_add]
    rw [e5, e6, cutV_at hni]
    exact hR l _ hl (Ex.new hl) upd_same
  · intro l H2 xs hl e4 hlx hxs
    refine q l H2 xs ((List.range F.C).map fun i => (ns.drop (n * i)).take n) (fresh_back e3 hl) (e3.trans e4) hlx ?_ (by simp) ?_
    · refine all2_map (f := rowO) ?_
      rw [List.map_map]
      exact hxs
    · intro r hr0
      obtain ⟨i, hi, rfl⟩ := List.mem_map.mp hr0
      have hi := List.mem_range.mp hi
      have hni : n * i + n ≤ ns.length := by
        rw [hnl]
        have := Nat.mul_le_mul_left n (show i + 1 ≤ F.C from hi)
        rw [Nat.mul_add, Nat.mul_one] at this
        exact this
      refine ⟨by rw [List.length_take, List.length_drop]; omega, fun v hv => hnb v (List.mem_of_mem_drop (List.mem_of_mem_take hv))⟩
def spLTiles : Sp := fun vs H Q _ => ∃ (a : Addr) (F : Fr), vs = [.ref a] ∧ H a = some (.lst (intsN (szV F))) ∧ F.ok ∧ Q (.int (F.tiles : Nat)) H
theorem has_l_tiles (T : Top K mg CF CP CA) : Has P w K mg base CX0 1 "_law_tiles" ["_law_sizes"] spLTiles := by
  refine has0 T.d_l_tiles sc_l_tiles (fun vs H Q E h => by
    repeat (obtain ⟨_, h⟩ := h)
    subst_vars
    rfl) fun f cdv A outer s H vs Q E hr h => ?_
  obtain ⟨a, F, rfl, ha, ok, q⟩ := h
  refine ⟨_, (pss_one (ps_ret (pe_op op_mul (pe_op op_fdivN (pe_op op_sub (pe_op op_add (pe_ix ix_list (pv 0) pe_int (fun _ _ => rfl)) (pe_ix ix_list (pv 0) pe_int (fun _ _ => rfl))) pe_int) (pe_ix ix_list (pv 0) pe_int (fun _ _ => rfl))) (pe_op op_fdivN (pe_op op_sub (pe_op op_add (pe_ix ix_list (pv 0) pe_int (fun _ _ => rfl)) (pe_ix ix_list (pv 0) pe_int (fun _ _ => rfl))) pe_int) (pe_ix ix_list (pv 0) pe_int (fun _ _ => rfl)))))), ?_⟩
  simp only [tSeq, tAsg, tRet, tIfS, tTest, tOp, tUn, tVar, tC, tCons, tNil, tCB, tHas, gName, rI0, rI, rU, tNext, tNot, tAnd, tOr, tChain, tIf, tB, tNever, tRetN, tDrop, tTup, tLst, tMeth, tMake, tM0, tM1, tBits, tTruI, tBM, gSub, tSl, tNoPart, tPart, gcE, gnE, bs_length, tListRevR, tRg1, tFldE, sFldE, tPar3, cxK, nxK, List.append_nil, L2.start, List.map_cons, List.map_nil, List.length_cons, List.length_nil, List.replicate, List.cons_append, List.nil_append, List.getElem?_cons_zero, List.getElem?_cons_succ, List.set_cons_zero, List.set_cons_succ, Option.some.injEq, V.int.injEq, V.bl.injEq, V.str.injEq, V.ref.injEq, exists_eq_left', exists_eq_left, exists_and_left, List.cons.injEq, and_true, true_and, eq_self_iff_true, Nat.reduceAdd, Nat.reduceSub, Nat.zero_add, rEqI, rNeI, tAndV, tOrV, tNotV, natI, tDGet, tDIn, tDNotIn, sDPut, tDGet2, tDNewT, tDNewK, tDSetd, tCKw]
  have hs := sq_of (K := K) ha
  have hb := ok.b
  have h4 : ∀ {Q : VK}, Q (.int (F.T : Int)) H → rIxL K (.ref a) (.int 4) H Q := fun q => ixL (j := 4) (v := .int (F.T : Int)) rfl hs rfl q
  have e1 : (F.W : Int) + (F.T : Int) - 1 = ((F.W + F.T - 1 : Nat) : Int) := by omega
  have e2 : (F.Hh : Int) + (F.T : Int) - 1 = ((F.Hh + F.T - 1 : Nat) : Int) := by omega
  refine ixL (j := 0) (v := .int (F.W : Int)) rfl hs rfl (h4 ⟨_, rfl, _, rfl, h4 ⟨_, rfl, ⟨by omega, by omega⟩, ixL (j := 1) (v := .int (F.Hh : Int)) rfl hs rfl (h4 ⟨_, rfl, _, rfl, h4 ⟨_, rfl, ⟨by omega, by omega⟩, ?_⟩⟩)⟩⟩)
  rw [e1, e2, fdiv_nat, fdiv_nat, ← Int.natCast_mul]
  have := F.across_le ok
  unfold Fr.across Fr.down at this
  exact ⟨.inl ⟨by omega, by omega⟩, q⟩
def spOrder : Sp := fun vs H Q _ => ∃ (a : Addr) (F : Fr), vs = [.ref a, .int (F.tiles : Int)] ∧ H a = some (.lst (intsN (szV F))) ∧ F.ok ∧ ∀ p H' xs, H p = none → Ex H H' → H' p = some (.lst xs) → KeysAt H' xs F.keys → Q (.ref p) H'
theorem has_l_order (T : Top K mg CF CP CA) : Has P w K mg base CX0 1 "_law_order" ["_law_sizes", "_law_tiles_here"] spOrder := by
  refine has0 T.d_l_order sc_l_order (fun vs H Q E h => by
    repeat (obtain ⟨_, h⟩ := h)
    subst_vars
    rfl) fun f cdv A outer s H vs Q E hr h => ?_
  obtain ⟨a, F, rfl, ha, ok, q⟩ := h
  refine ⟨_, (pss_cons (ps_set (i := 2) sc_l_order.nd rfl (by first | exact .inl rfl | exact .inr rfl) (pe_lst pa_nil))
      (pss_cons (ps_for PassesOwn.never rfl (pi_range1 rfl T.n_range (pa_cons (pe_ix ix_list (pv 0) pe_int (fun _ _ => rfl)) pa_nil)) (pg_name (i := 3) sc_l_order.nd rfl (by first | exact .inl rfl | exact .inr rfl)) (pss_one (ps_for PassesOwn.never rfl (pi_range1 rfl T.n_range (pa_cons (pe_ix ix_list (pv 0) pe_int (fun _ _ => rfl)) pa_nil)) (pg_name (i := 4) sc_l_order.nd rfl (by first | exact .inl rfl | exact .inr rfl)) (pss_one (ps_for PassesOwn.never rfl (pi_range1 rfl T.n_range (pa_cons (pv 1) pa_nil)) (pg_name (i := 5) sc_l_order.nd rfl (by first | exact .inl rfl | exact .inr rfl)) (pss_one (ps_expr (pe_bm PySem.F.plainAttrs_list PySem.F.slot_list_append PySem.F.type_list_append mt_append (pv 2) (pa_cons (pe_tup (pa_cons (pv 4) (pa_cons (pv 5) (pa_cons (pe_op op_sub (pe_op op_sub (pe_ix ix_list (pv 0) pe_int (fun _ _ => rfl)) pe_int) (pv 3)) pa_nil)))) pa_nil)))))))))
      (pss_one (ps_ret (pv 2))))), ?_⟩
  simp only [tSeq, tAsg, tRet, tIfS, tTest, tOp, tUn, tVar, tC, tCons, tNil, tCB, tHas, gName, rI0, rI, rU, tNext, tNot, tAnd, tOr, tChain, tIf, tB, tNever, tRetN, tDrop, tTup, tLst, tMeth, tMake, tM0, tM1, tBits, tTruI, tBM, gSub, tSl, tNoPart, tPart, gcE, gnE, bs_length, tListRevR, tRg1, tFldE, sFldE, tPar3, cxK, nxK, List.append_nil, L2.start, List.map_cons, List.map_nil, List.length_cons, List.length_nil, List.replicate, List.cons_append, List.nil_append, List.getElem?_cons_zero, List.getElem?_cons_succ, List.set_cons_zero, List.set_cons_succ, Option.some.injEq, V.int.injEq, V.bl.injEq, V.str.injEq, V.ref.injEq, exists_eq_left', exists_eq_left, exists_and_left, List.cons.injEq, and_true, true_and, eq_self_iff_true, Nat.reduceAdd, Nat.reduceSub, Nat.zero_add, rEqI, rNeI, tAndV, tOrV, tNotV, natI, tDGet, tDIn, tDNotIn, sDPut, tDGet2, tDNewT, tDNewK, tDSetd, tCKw]
  refine ⟨by decide, fun p hp => ?_⟩
  have hb := ok.b
  have htl := F.tiles_le ok
  have kl := F.keys_len ok
  let B : Nat → Nat → List Key := fun i c => (List.range F.tiles).map fun t => (c, t, F.D - 1 - i)
  let A : Nat → List Key := fun i => (List.range F.C).flatMap (B i)
  have lB : ∀ i c, (B i c).length = F.tiles := fun i c => by simp [B]
  have lA' : ∀ i n, ((List.range n).flatMap (B i)).length = n * F.tiles := fun i n => by
    induction n with
    | zero => simp
    | succ n ih => rw [flatMap_snoc, List.length_append, ih, lB, Nat.add_mul]; omega
  have lA : ∀ n, ((List.range n).flatMap A).length = n * (F.C * F.tiles) := fun n => by
    induction n with
    | zero => simp
    | succ n ih => rw [flatMap_snoc, List.length_append, ih, lA', Nat.add_mul]; omega
  have ix2 : ∀ {H1 : Hp} {Q : VK}, Ex H H1 → Q (.int (F.D : Int)) H1 → rIxL K (.ref a) (.int 2) H1 Q := fun e q => ixL (j := 2) (v := .int (F.D : Int)) rfl (sq_of (e _ _ ha)) rfl q
  have ix3 : ∀ {H1 : Hp} {Q : VK}, Ex H H1 → Q (.int (F.C : Int)) H1 → rIxL K (.ref a) (.int 3) H1 Q := fun e q => ixL (j := 3) (v := .int (F.C : Int)) rfl (sq_of (e _ _ ha)) rfl q
  refine s_rng (n := F.D) (fun Q q => ?_) (by omega) (fun i σ' H' => Ex H H' ∧ (∃ acc, H' p = some (.lst acc) ∧ KeysAt H' acc ((List.range i).flatMap A)) ∧ ∃ v3 v4 v5, σ' = [some (.ref a), some (.int F.tiles), some (.ref p), v3, v4, v5])
    ⟨Ex.new hp, ⟨[], upd_same, .nil⟩, none, none, none, rfl⟩ ?_ ?_
  · simp only [tSeq, tAsg, tRet, tIfS, tTest, tOp, tUn, tVar, tC, tCons, tNil, tCB, tHas, gName, rI0, rI, rU, tNext, tNot, tAnd, tOr, tChain, tIf, tB, tNever, tRetN, tDrop, tTup, tLst, tMeth, tMake, tM0, tM1, tBits, tTruI, tBM, gSub, tSl, tNoPart, tPart, gcE, gnE, bs_length, tListRevR, tRg1, tFldE, sFldE, tPar3, cxK, nxK, List.append_nil, L2.start, List.map_cons, List.map_nil, List.length_cons, List.length_nil, List.replicate, List.cons_append, List.nil_append, List.getElem?_cons_zero, List.getElem?_cons_succ, List.set_cons_zero, List.set_cons_succ, Option.some.injEq, V.int.injEq, V.bl.injEq, V.str.injEq, V.ref.injEq, exists_eq_left', exists_eq_left, exists_and_left, List.cons.injEq, and_true, true_and, eq_self_iff_true, Nat.reduceAdd, Nat.reduceSub, Nat.zero_add, rEqI, rNeI, tAndV, tOrV, tNotV, natI, tDGet, tDIn, tDNotIn, sDPut, tDGet2, tDNewT, tDNewK, tDSetd, tCKw]
    exact ix2 (Ex.new hp) q
  · rintro i σ' H1 hi ⟨e1, ⟨acc, hacc, hka⟩, v3, v4, v5, rfl⟩
    simp only [tSeq, tAsg, tRet, tIfS, tTest, tOp, tUn, tVar, tC, tCons, tNil, tCB, tHas, gName, rI0, rI, rU, tNext, tNot, tAnd, tOr, tChain, tIf, tB, tNever, tRetN, tDrop, tTup, tLst, tMeth, tMake, tM0, tM1, tBits, tTruI, tBM, gSub, tSl, tNoPart, tPart, gcE, gnE, bs_length, tListRevR, tRg1, tFldE, sFldE, tPar3, cxK, nxK, List.append_nil, L2.start, List.map_cons, List.map_nil, List.length_cons, List.length_nil, List.replicate, List.cons_append, List.nil_append, List.getElem?_cons_zero, List.getElem?_cons_succ, List.set_cons_zero, List.set_cons_succ, Option.some.injEq, V.int.injEq, V.bl.injEq, V.str.injEq, V.ref.injEq, exists_eq_left', exists_eq_left, exists_and_left, List.cons.injEq, and_true, true_and, eq_self_iff_true, Nat.reduceAdd, Nat.reduceSub, Nat.zero_add, rEqI, rNeI, tAndV, tOrV, tNotV, natI, tDGet, tDIn, tDNotIn, sDPut, tDGet2, tDNewT, tDNewK, tDSetd, tCKw]
    refine s_rng (n := F.C) (fun Q q => ?_) (by omega) (fun c σ' H' => Ex H H' ∧ (∃ acc, H' p = some (.lst acc) ∧ KeysAt H' acc ((List.range i).flatMap A ++ (List.range c).flatMap (B i))) ∧ ∃ v4 v5, σ' = [some (.ref a), some (.int F.tiles), some (.ref p), some (.int (i : Int)), v4, v5])
      ⟨e1, ⟨acc, hacc, by simpa using hka⟩, _, _, rfl⟩ ?_ ?_
    · simp only [tSeq, tAsg, tRet, tIfS, tTest, tOp, tUn, tVar, tC, tCons, tNil, tCB, tHas, gName, rI0, rI, rU, tNext, tNot, tAnd, tOr, tChain, tIf, tB, tNever, tRetN, tDrop, tTup, tLst, tMeth, tMake, tM0, tM1, tBits, tTruI, tBM, gSub, tSl, tNoPart, tPart, gcE, gnE, bs_length, tListRevR, tRg1, tFldE, sFldE, tPar3, cxK, nxK, List.append_nil, L2.start, List.map_cons, List.map_nil, List.length_cons, List.length_nil, List.replicate, List.cons_append, List.nil_append, List.getElem?_cons_zero, List.getElem?_cons_succ, List.set_cons_zero, List.set_cons_succ, Option.some.injEq, V.int.injEq, V.bl.injEq, V.str.injEq, V.ref.injEq, exists_eq_left', exists_eq_left, exists_and_left, List.cons.injEq, and_true, true_and, eq_self_iff_true, Nat.reduceAdd, Nat.reduceSub, Nat.zero_add, rEqI, rNeI, tAndV, tOrV, tNotV, natI, tDGet, tDIn, tDNotIn, sDPut, tDGet2, tDNewT, tDNewK, tDSetd, tCKw]
      exact ix3 e1 q
    · rintro c σ' H2 hc ⟨e2, ⟨acc2, hacc2, hka2⟩, v4, v5, rfl⟩
      simp only [tSeq, tAsg, tRet, tIfS, tTest, tOp, tUn, tVar, tC, tCons, tNil, tCB, tHas, gName, rI0, rI, rU, tNext, tNot, tAnd, tOr, tChain, tIf, tB, tNever, tRetN, tDrop, tTup, tLst, tMeth, tMake, tM0, tM1, tBits, tTruI, tBM, gSub, tSl, tNoPart, tPart, gcE, gnE, bs_length, tListRevR, tRg1, tFldE, sFldE, tPar3, cxK, nxK, List.append_nil, L2.start, List.map_cons, List.map_nil, List.length_cons, List.length_nil, List.replicate, List.cons_append, List.nil_append, List.getElem?_cons_zero, List.getElem?_cons_succ, List.set_cons_zero, List.set_cons_succ, Option.some.injEq, V.int.injEq, V.bl.injEq, V.str.injEq, V.ref.injEq, exists_eq_left', exists_eq_left, exists_and_left, List.cons.injEq, and_true, true_and, eq_self_iff_true, Nat.reduceAdd, Nat.reduceSub, Nat.zero_add, rEqI, rNeI, tAndV, tOrV, tNotV, natI, tDGet, tDIn, tDNotIn, sDPut, tDGet2, tDNewT, tDNewK, tDSetd, tCKw]
      refine s_rng (n := F.tiles) (fun Q q => ?_) (by omega) (fun t σ' H' => Ex H H' ∧ (∃ acc, H' p = some (.lst acc) ∧ KeysAt H' acc ((List.range i).flatMap A ++ (List.range c).flatMap (B i) ++ (List.range t).map fun t => (c, t, F.D - 1 - i))) ∧ ∃ v5, σ' = [some (.ref a), some (.int F.tiles), some (.ref p), some (.int (i : Int)), some (.int (c : Int)), v5])
        ⟨e2, ⟨acc2, hacc2, by simpa using hka2⟩, _, rfl⟩ ?_ ?_
      · simp only [tSeq, tAsg, tRet, tIfS, tTest, tOp, tUn, tVar, tC, tCons, tNil, tCB, tHas, gName, rI0, rI, rU, tNext, tNot, tAnd, tOr, tChain, tIf, tB, tNever, tRetN, tDrop, tTup, tLst, tMeth, tMake, tM0, tM1, tBits, tTruI, tBM, gSub, tSl, tNoPart, tPart, gcE, gnE, bs_length, tListRevR, tRg1, tFldE, sFldE, tPar3, cxK, nxK, List.append_nil, L2.start, List.map_cons, List.map_nil, List.length_cons, List.length_nil, List.replicate, List.cons_append, List.nil_append, List.getElem?_cons_zero, List.getElem?_cons_succ, List.set_cons_zero, List.set_cons_succ, Option.some.injEq, V.int.injEq, V.bl.injEq, V.str.injEq, V.ref.injEq, exists_eq_left', exists_eq_left, exists_and_left, List.cons.injEq, and_true, true_and, eq_self_iff_true, Nat.reduceAdd, Nat.reduceSub, Nat.zero_add, rEqI, rNeI, tAndV, tOrV, tNotV, natI, tDGet, tDIn, tDNotIn, sDPut, tDGet2, tDNewT, tDNewK, tDSetd, tCKw]
        exact q
      · rintro t σ' H3 ht3 ⟨e3, ⟨acc3, hacc3, hk3⟩, v5, rfl⟩
        simp only [tSeq, tAsg, tRet, tIfS, tTest, tOp, tUn, tVar, tC, tCons, tNil, tCB, tHas, gName, rI0, rI, rU, tNext, tNot, tAnd, tOr, tChain, tIf, tB, tNever, tRetN, tDrop, tTup, tLst, tMeth, tMake, tM0, tM1, tBits, tTruI, tBM, gSub, tSl, tNoPart, tPart, gcE, gnE, bs_length, tListRevR, tRg1, tFldE, sFldE, tPar3, cxK, nxK, List.append_nil, L2.start, List.map_cons, List.map_nil, List.length_cons, List.length_nil, List.replicate, List.cons_append, List.nil_append, List.getElem?_cons_zero, List.getElem?_cons_succ, List.set_cons_zero, List.set_cons_succ, Option.some.injEq, V.int.injEq, V.bl.injEq, V.str.injEq, V.ref.injEq, exists_eq_left', exists_eq_left, exists_and_left, List.cons.injEq, and_true, true_and, eq_self_iff_true, Nat.reduceAdd, Nat.reduceSub, Nat.zero_add, rEqI, rNeI, tAndV, tOrV, tNotV, natI, tDGet, tDIn, tDNotIn, sDPut, tDGet2, tDNewT, tDNewK, tDSetd, tCKw]
        refine ⟨.inl ⟨rfl, _, sq_of hacc3⟩, ix2 e3 ⟨_, rfl, by decide, fun p4 hp4 => ?_⟩⟩
        have e9 : (F.D : Int) - 1 - (i : Int) = ((F.D - 1 - i : Nat) : Int) := by omega
        rw [e9]
        have hDp : p ≠ p4 := ne_of_none hacc3 hp4
        have hl3 := hk3.length
        rw [List.length_append, List.length_append, lA, lA', List.length_map, List.length_range] at hl3
        have w1 : i * (F.C * F.tiles) ≤ 3 * (3 * 16) := Nat.mul_le_mul (by omega) (Nat.mul_le_mul (by omega) (by omega))
        have w2 : c * F.tiles ≤ 3 * 16 := Nat.mul_le_mul (by omega) (by omega)
        have hD4 : (upd H3 p4 (.tup [.int (c : Int), .int (t : Int), .int ((F.D - 1 - i : Nat) : Int)])) p = some (.lst acc3) := by rw [upd_ne hDp]; exact hacc3
        refine ⟨p, _, _, rfl, rfl, hD4, sz_lt (by omega), Ex.mut (e3.trans (Ex.new hp4)) hp, ⟨_, upd_same, ?_⟩, _, rfl⟩
        rw [map_snoc, ← List.append_assoc]
        exact All2.snoc (KeyAt.lst hD4 ⟨p4, rfl, upd_same⟩) ((hk3.mono (Ex.new hp4)).lst hD4)
      · rintro σ' H3 ⟨e3, ⟨acc3, hacc3, hk3⟩, v5, rfl⟩
        refine ⟨e3, ⟨acc3, hacc3, ?_⟩, _, _, rfl⟩
        rw [flatMap_snoc, ← List.append_assoc]
        exact hk3
    · rintro σ' H2 ⟨e2, ⟨acc2, hacc2, hka2⟩, v4, v5, rfl⟩
      refine ⟨e2, ⟨acc2, hacc2, ?_⟩, _, _, _, rfl⟩
      rw [flatMap_snoc]
      exact hka2
  · rintro σ' H1 ⟨e1, ⟨acc, hacc, hka⟩, v3, v4, v5, rfl⟩
    simp only [tSeq, tAsg, tRet, tIfS, tTest, tOp, tUn, tVar, tC, tCons, tNil, tCB, tHas, gName, rI0, rI, rU, tNext, tNot, tAnd, tOr, tChain, tIf, tB, tNever, tRetN, tDrop, tTup, tLst, tMeth, tMake, tM0, tM1, tBits, tTruI, tBM, gSub, tSl, tNoPart, tPart, gcE, gnE, bs_length, tListRevR, tRg1, tFldE, sFldE, tPar3, cxK, nxK, List.append_nil, L2.start, List.map_cons, List.map_nil, List.length_cons, List.length_nil, List.replicate, List.cons_append, List.nil_append, List.getElem?_cons_zero, List.getElem?_cons_succ, List.set_cons_zero, List.set_cons_succ, Option.some.injEq, V.int.injEq, V.bl.injEq, V.str.injEq, V.ref.injEq, exists_eq_left', exists_eq_left, exists_and_left, List.cons.injEq, and_true, true_and, eq_self_iff_true, Nat.reduceAdd, Nat.reduceSub, Nat.zero_add, rEqI, rNeI, tAndV, tOrV, tNotV, natI, tDGet, tDIn, tDNotIn, sDPut, tDGet2, tDNewT, tDNewK, tDSetd, tCKw]
    exact q p H1 acc hp e1 hacc hka
def spLFrame (CF : Addr) : Sp := fun vs H Q _ => ∃ (a : Addr) (F : Fr), vs = [.ref a] ∧ H a = some (.lst (intsN (szV F))) ∧ F.ok ∧ ∀ r H', H r = none → Ex H H' → FrAt CF H' r F → Q (.ref r) H'
theorem has_l_frame (T : Top K mg CF CP CA) : Has P w K mg base CX0 4 "_law_frame" ["_law_sizes"] (spLFrame CF) := by
  obtain ⟨f_iF, fd_iF, mkF, b_iF, F_iF⟩ := (has_Frame_init (P := P) (w := w) (base := base) T).ex
  refine has0 T.d_l_frame sc_l_frame (fun vs H Q E h => by
    repeat (obtain ⟨_, h⟩ := h)
    subst_vars
    rfl) fun f cdv A outer s H vs Q E hr h => ?_
  obtain ⟨a, F, rfl, ha, ok, q⟩ := h
  refine ⟨_, (pss_one (ps_ret (pe_make mkF F_iF (hr.mono (by decide)) rfl T.gF b_iF .nil pass0 (pa_cons (pe_ix ix_list (pv 0) pe_int (fun _ _ => rfl)) (pa_cons (pe_ix ix_list (pv 0) pe_int (fun _ _ => rfl)) (pa_cons (pe_ix ix_list (pv 0) pe_int (fun _ _ => rfl)) (pa_cons (pe_ix ix_list (pv 0) pe_int (fun _ _ => rfl)) (pa_cons (pe_ix ix_list (pv 0) pe_int (fun _ _ => rfl)) pa_nil)))))))), ?_⟩
  simp only [tSeq, tAsg, tRet, tIfS, tTest, tOp, tUn, tVar, tC, tCons, tNil, tCB, tHas, gName, rI0, rI, rU, tNext, tNot, tAnd, tOr, tChain, tIf, tB, tNever, tRetN, tDrop, tTup, tLst, tMeth, tMake, tM0, tM1, tBits, tTruI, tBM, gSub, tSl, tNoPart, tPart, gcE, gnE, bs_length, tListRevR, tRg1, tFldE, sFldE, tPar3, cxK, nxK, List.append_nil, L2.start, List.map_cons, List.map_nil, List.length_cons, List.length_nil, List.replicate, List.cons_append, List.nil_append, List.getElem?_cons_zero, List.getElem?_cons_succ, List.set_cons_zero, List.set_cons_succ, Option.some.injEq, V.int.injEq, V.bl.injEq, V.str.injEq, V.ref.injEq, exists_eq_left', exists_eq_left, exists_and_left, List.cons.injEq, and_true, true_and, eq_self_iff_true, Nat.reduceAdd, Nat.reduceSub, Nat.zero_add, rEqI, rNeI, tAndV, tOrV, tNotV, natI, tDGet, tDIn, tDNotIn, sDPut, tDGet2, tDNewT, tDNewK, tDSetd, tCKw]
  have hs := sq_of (K := K) ha
  refine ixL (j := 0) (v := .int (F.W : Int)) rfl hs rfl (ixL (j := 1) (v := .int (F.Hh : Int)) rfl hs rfl (ixL (j := 2) (v := .int (F.D : Int)) rfl hs rfl (ixL (j := 3) (v := .int (F.C : Int)) rfl hs rfl (ixL (j := 4) (v := .int (F.T : Int)) rfl hs rfl ?_))))
  intro x dx hx hdx hne
  refine ⟨x, dx, F, rfl, ok, upd_same, rfl, ?_⟩
  rw [upd_upd]
  have eH : Ex H (upd (upd H dx (.own x)) x (.ins CF dx (fsF F))) := fun b o ho => by
    rw [upd_ne (ne_of_none ho hx), upd_ne (ne_of_none ho hdx)]
    exact ho
  exact q x _ hx eH ⟨dx, upd_same⟩
def spLPic (CP : Addr) : Sp := fun vs H Q _ => ∃ (a v : Addr) (p : Pic) (F : Fr) (xs : List V), vs = [.ref a, .ref v] ∧ H a = some (.lst (intsN (szV F))) ∧ Fits F p ∧ p.ok ∧ H v = some (.lst xs) ∧ RowsAt H xs p.rows ∧ ∀ r H', H r = none → Ex H H' → PicAt CP H' r p → Q (.ref r) H'
theorem has_l_picture (T : Top K mg CF CP CA) : Has P w K mg base CX0 4 "_law_picture" ["_law_sizes", "_law_values_here"] (spLPic CP) := by
  obtain ⟨f_iP, fd_iP, mkP, b_iP, F_iP⟩ := (has_Picture_init (P := P) (w := w) (base := base) T).ex
  refine has0 T.d_l_picture sc_l_picture (fun vs H Q E h => by
    repeat (obtain ⟨_, h⟩ := h)
    subst_vars
    rfl) fun f cdv A outer s H vs Q E hr h => ?_
  obtain ⟨a, v, p, F, xs, rfl, ha, fits, okp, hv, hrows, q⟩ := h
  refine ⟨_, (pss_one (ps_ret (pe_make mkP F_iP (hr.mono (by decide)) rfl T.gP b_iP .nil pass0 (pa_cons (pe_ix ix_list (pv 0) pe_int (fun _ _ => rfl)) (pa_cons (pe_ix ix_list (pv 0) pe_int (fun _ _ => rfl)) (pa_cons (pe_ix ix_list (pv 0) pe_int (fun _ _ => rfl)) (pa_cons (pe_ix ix_list (pv 0) pe_int (fun _ _ => rfl)) (pa_cons (pv 1) pa_nil)))))))), ?_⟩
  simp only [tSeq, tAsg, tRet, tIfS, tTest, tOp, tUn, tVar, tC, tCons, tNil, tCB, tHas, gName, rI0, rI, rU, tNext, tNot, tAnd, tOr, tChain, tIf, tB, tNever, tRetN, tDrop, tTup, tLst, tMeth, tMake, tM0, tM1, tBits, tTruI, tBM, gSub, tSl, tNoPart, tPart, gcE, gnE, bs_length, tListRevR, tRg1, tFldE, sFldE, tPar3, cxK, nxK, List.append_nil, L2.start, List.map_cons, List.map_nil, List.length_cons, List.length_nil, List.replicate, List.cons_append, List.nil_append, List.getElem?_cons_zero, List.getElem?_cons_succ, List.set_cons_zero, List.set_cons_succ, Option.some.injEq, V.int.injEq, V.bl.injEq, V.str.injEq, V.ref.injEq, exists_eq_left', exists_eq_left, exists_and_left, List.cons.injEq, and_true, true_and, eq_self_iff_true, Nat.reduceAdd, Nat.reduceSub, Nat.zero_add, rEqI, rNeI, tAndV, tOrV, tNotV, natI, tDGet, tDIn, tDNotIn, sDPut, tDGet2, tDNewT, tDNewK, tDSetd, tCKw]
  have hs := sq_of (K := K) ha
  obtain ⟨fw, fh, fd, fc⟩ := fits
  refine ixL (j := 0) (v := .int (F.W : Int)) rfl hs rfl (ixL (j := 1) (v := .int (F.Hh : Int)) rfl hs rfl (ixL (j := 2) (v := .int (F.D : Int)) rfl hs rfl (ixL (j := 3) (v := .int (F.C : Int)) rfl hs rfl ?_)))
  intro x dx hx hdx hne
  rw [fw, fh, fd, fc]
  have hlx2 : ∀ b o, b ≠ x → H b = some o → (upd (upd H dx (.own x)) x (.ins CP dx [])) b = some o := fun b o hb ho => by
    rw [upd_ne hb, upd_ne (ne_of_none ho hdx)]
    exact ho
  have hrows2 : RowsAt (upd (upd H dx (.own x)) x (.ins CP dx [])) xs p.rows := All2.mono (fun v r hv => by
    obtain ⟨b, rfl, hb⟩ := hv
    exact ⟨b, rfl, hlx2 b _ (ne_of_none hb hx) hb⟩) hrows
  refine ⟨x, dx, p, v, xs, rfl, okp, upd_same, hlx2 v _ (ne_of_none hv hx) hv, hrows2, fun H3 keep hP3 => ⟨rfl, ?_⟩⟩
  refine q x H3 hx (fun b o ho => ?_) hP3
  have hbx : b ≠ x := ne_of_none ho hx
  exact keep b o hbx (hlx2 b o hbx ho)
theorem seqA {te : TE} {u : TS} {i : Nat} {D : Ends} {σ : L2.St} {H : Hp} (Pn : Nat → Prop) (h : ∀ Q : VK, (∀ n, Pn n → Q (.int ((n : Nat) : Int)) H) → te σ H Q) (k : ∀ n, Pn n → u D (σ.set i (some (.int ((n : Nat) : Int)))) H) : tSeq (tAsg te (gName i)) u D σ H := h _ k
def spCut (CF CP CA : Addr) : Sp := fun vs H Q _ => ∃ (a b l c : Addr) (F : Fr) (p : Pic) (xs : List V) (ns : List Nat), vs = [.ref a, .ref b, .ref l, .ref c] ∧ FrAt CF H a F ∧ PicAt CP H b p ∧ Fits F p ∧ F.ok ∧ p.ok ∧ H l = some (.lst xs) ∧ KeysAt H xs F.keys ∧ H c = some (.lst (intsN ns)) ∧ ns.length = F.keys.length ∧
  ∀ r d H' m (f : Key → Nat), H r = none → Ex H H' → ArrAt CF CA H' r d a F m → (∀ k, InR F k → digs m k = (pcM F p k).take (f k)) → Q (.ref r) H'
theorem has_l_cut (T : Top K mg CF CP CA) : Has P w K mg base CX0 8 "_law_cut" ["_law_frame_here", "_law_picture_here", "_law_keys", "_law_picks"] (spCut CF CP CA) := by
  obtain ⟨f_iA, fd_iA, mkA, b_iA, F_iA⟩ := (has_Arrived_init (P := P) (w := w) (base := base) T).ex
  have G_packet_code := has_packet_code (P := P) (w := w) (base := base) T
  obtain ⟨f_Arrived_accept, fd_Arrived_accept, mm_Arrived_accept, b_Arrived_accept, F_Arrived_accept⟩ := (has_Arrived_accept (P := P) (w := w) (base := base) T).ex
  refine has0 T.d_l_cut sc_l_cut (fun vs H Q E h => by
    repeat (obtain ⟨_, h⟩ := h)
    subst_vars
    rfl) fun f cdv A outer s H vs Q E hr h => ?_
  obtain ⟨a, b, l, c, F, p, xs, ns, rfl, hF, hP, fits, ok, okp, hlx, hks, hcx, hnl, q⟩ := h
  refine ⟨_, (pss_cons (ps_set (i := 4) sc_l_cut.nd rfl (by first | exact .inl rfl | exact .inr rfl) (pe_make mkA F_iA (hr.mono (by decide)) rfl T.gA b_iA .nil pass0 (pa_cons (pv 0) pa_nil)))
      (pss_cons (ps_for PassesOwn.never rfl (pi_range1 rfl T.n_range (pa_cons (pe_callB call_len rfl T.n_len boot_len (pa_cons (pv 2) pa_nil)) pa_nil)) (pg_name (i := 5) sc_l_cut.nd rfl (by first | exact .inl rfl | exact .inr rfl)) (pss_cons (ps_set (i := 6) sc_l_cut.nd rfl (by first | exact .inl rfl | exact .inr rfl) (pe_has G_packet_code (hr.mono (by decide)) (pa_cons (pv 0) (pa_cons (pv 1) (pa_cons (pe_ix ix_list (pv 2) (pv 5) (fun _ _ => rfl)) pa_nil)))))
      (pss_cons (ps_set (i := 7) sc_l_cut.nd rfl (by first | exact .inl rfl | exact .inr rfl) (pe_op op_mod (pe_op op_fdivN (pe_ix ix_list (pv 3) (pv 5) (fun _ _ => rfl)) pe_int) (pe_op op_add (pe_callB call_len_str rfl T.n_len boot_len (pa_cons (pv 6) pa_nil)) pe_int)))
      (pss_one (ps_expr (pe_meth (pv 4) T.clA mm_Arrived_accept F_Arrived_accept (hr.mono (by decide)) b_Arrived_accept .nil pass0 (pa_cons (pe_ix ix_list (pv 2) (pv 5) (fun _ _ => rfl)) (pa_cons pe_int (pa_cons (pe_slice sl_str (pv 6) po_none (po_some (pe_ix ix_list (pe_lst (pa_cons pe_int (pa_cons (pe_callB call_len_str rfl T.n_len boot_len (pa_cons (pv 6) pa_nil)) (pa_cons (pv 7) (pa_cons (pv 7) pa_nil))))) (pe_op op_mod (pe_ix ix_list (pv 3) (pv 5) (fun _ _ => rfl)) pe_int) (fun _ _ => rfl)))) pa_nil)))))))))
      (pss_one (ps_ret (pv 4))))), ?_⟩
  simp only [tSeq, tAsg, tRet, tIfS, tTest, tOp, tUn, tVar, tC, tCons, tNil, tCB, tHas, gName, rI0, rI, rU, tNext, tNot, tAnd, tOr, tChain, tIf, tB, tNever, tRetN, tDrop, tTup, tLst, tMeth, tMake, tM0, tM1, tBits, tTruI, tBM, gSub, tSl, tNoPart, tPart, gcE, gnE, bs_length, tListRevR, tRg1, tFldE, sFldE, tPar3, cxK, nxK, List.append_nil, L2.start, List.map_cons, List.map_nil, List.length_cons, List.length_nil, List.replicate, List.cons_append, List.nil_append, List.getElem?_cons_zero, List.getElem?_cons_succ, List.set_cons_zero, List.set_cons_succ, Option.some.injEq, V.int.injEq, V.bl.injEq, V.str.injEq, V.ref.injEq, exists_eq_left', exists_eq_left, exists_and_left, List.cons.injEq, and_true, true_and, eq_self_iff_true, Nat.reduceAdd, Nat.reduceSub, Nat.zero_add, rEqI, rNeI, tAndV, tOrV, tNotV, natI, tDGet, tDIn, tDNotIn, sDPut, tDGet2, tDNewT, tDNewK, tDSetd, tCKw]
  intro x dx hx hdx hne
  have hA1 : ∀ b o, H b = some o → (upd (upd H dx (.own x)) x (.ins CA dx [])) b = some o := fun b o ho => by
    rw [upd_ne (ne_of_none ho hx), upd_ne (ne_of_none ho hdx)]
    exact ho
  refine ⟨x, dx, a, F, rfl, upd_same, hF.mono hA1, fun d H2 hd keep2 hArr => ⟨rfl, ?_⟩⟩
  have eH2 : Ex H H2 := fun b o ho => keep2 b o (ne_of_none ho hx) (hA1 b o ho)
  have hd0 : H d = none := fresh_back hA1 hd
  have hkl := hks.length
  have hbnd := F.keys_len ok
  refine s_rng (n := F.keys.length) (fun Q q => ?_) (by omega) (fun i σ' H' => (∀ b o, b ≠ d → H2 b = some o → H' b = some o) ∧ (∃ (m : Dig) (f : Key → Nat), ArrAt CF CA H' x d a F m ∧ m.length ≤ i ∧ (∀ j k, j < i → F.keys[j]? = some k → digs m k = (pcM F p k).take (f k)) ∧ ∀ j k, i ≤ j → F.keys[j]? = some k → getD m k = none) ∧
      ∃ v5 v6 v7, σ' = [some (.ref a), some (.ref b), some (.ref l), some (.ref c), some (.ref x), v5, v6, v7])
    ⟨fun _ _ _ h => h, ⟨[], fun _ => 0, hArr, Nat.le_refl _, fun j k hj _ => by omega, fun _ _ _ _ => rfl⟩, _, _, _, rfl⟩ ?_ ?_
  · simp only [tSeq, tAsg, tRet, tIfS, tTest, tOp, tUn, tVar, tC, tCons, tNil, tCB, tHas, gName, rI0, rI, rU, tNext, tNot, tAnd, tOr, tChain, tIf, tB, tNever, tRetN, tDrop, tTup, tLst, tMeth, tMake, tM0, tM1, tBits, tTruI, tBM, gSub, tSl, tNoPart, tPart, gcE, gnE, bs_length, tListRevR, tRg1, tFldE, sFldE, tPar3, cxK, nxK, List.append_nil, L2.start, List.map_cons, List.map_nil, List.length_cons, List.length_nil, List.replicate, List.cons_append, List.nil_append, List.getElem?_cons_zero, List.getElem?_cons_succ, List.set_cons_zero, List.set_cons_succ, Option.some.injEq, V.int.injEq, V.bl.injEq, V.str.injEq, V.ref.injEq, exists_eq_left', exists_eq_left, exists_and_left, List.cons.injEq, and_true, true_and, eq_self_iff_true, Nat.reduceAdd, Nat.reduceSub, Nat.zero_add, rEqI, rNeI, tAndV, tOrV, tNotV, natI, tDGet, tDIn, tDNotIn, sDPut, tDGet2, tDNewT, tDNewK, tDSetd, tCKw]
    refine ⟨_, lenL (sq_of (eH2 _ _ hlx)), ?_⟩
    rw [hkl]
    exact q
  · rintro i σ' H4 hi ⟨e4, ⟨m, f, hAm, hml, hm1, hm2⟩, v5, v6, v7, rfl⟩
    obtain ⟨k, hk⟩ : ∃ k, F.keys[i]? = some k := ⟨_, List.getElem?_eq_getElem hi⟩
    have inr := Fr.mem_keys.mp (List.mem_of_getElem? hk)
    obtain ⟨v, hv, ka, rfl, hka0⟩ := All2.get' hks hk
    have eH4 : Ex H H4 := fun b o ho => e4 b o (ne_of_none ho hd0) (eH2 b o ho)
    have hka := eH4 _ _ hka0
    obtain ⟨n, hn⟩ : ∃ n, ns[i]? = some n := ⟨_, List.getElem?_eq_getElem (by omega)⟩
    have hcl := (pk_of (p := p) ok inr).1
    simp only [tSeq, tAsg, tRet, tIfS, tTest, tOp, tUn, tVar, tC, tCons, tNil, tCB, tHas, gName, rI0, rI, rU, tNext, tNot, tAnd, tOr, tChain, tIf, tB, tNever, tRetN, tDrop, tTup, tLst, tMeth, tMake, tM0, tM1, tBits, tTruI, tBM, gSub, tSl, tNoPart, tPart, gcE, gnE, bs_length, tListRevR, tRg1, tFldE, sFldE, tPar3, cxK, nxK, List.append_nil, L2.start, List.map_cons, List.map_nil, List.length_cons, List.length_nil, List.replicate, List.cons_append, List.nil_append, List.getElem?_cons_zero, List.getElem?_cons_succ, List.set_cons_zero, List.set_cons_succ, Option.some.injEq, V.int.injEq, V.bl.injEq, V.str.injEq, V.ref.injEq, exists_eq_left', exists_eq_left, exists_and_left, List.cons.injEq, and_true, true_and, eq_self_iff_true, Nat.reduceAdd, Nat.reduceSub, Nat.zero_add, rEqI, rNeI, tAndV, tOrV, tNotV, natI, tDGet, tDIn, tDNotIn, sDPut, tDGet2, tDNewT, tDNewK, tDSetd, tCKw]
    refine ixL rfl (sq_of (eH4 _ _ hlx)) hv ⟨a, b, ka, F, p, k, rfl, hF.mono eH4, hP.mono eH4, ok, okp, fits, hka, inr, fun H5 e5 => ?_⟩
    have hA5 := hAm.mono e5
    obtain ⟨⟨dx5, h15⟩, h25, h35⟩ := id hA5
    have hns5 := e5 _ _ (eH4 _ _ hcx)
    simp only [tSeq, tAsg, tRet, tIfS, tTest, tOp, tUn, tVar, tC, tCons, tNil, tCB, tHas, gName, rI0, rI, rU, tNext, tNot, tAnd, tOr, tChain, tIf, tB, tNever, tRetN, tDrop, tTup, tLst, tMeth, tMake, tM0, tM1, tBits, tTruI, tBM, gSub, tSl, tNoPart, tPart, gcE, gnE, bs_length, tListRevR, tRg1, tFldE, sFldE, tPar3, cxK, nxK, List.append_nil, L2.start, List.map_cons, List.map_nil, List.length_cons, List.length_nil, List.replicate, List.cons_append, List.nil_append, List.getElem?_cons_zero, List.getElem?_cons_succ, List.set_cons_zero, List.set_cons_succ, Option.some.injEq, V.int.injEq, V.bl.injEq, V.str.injEq, V.ref.injEq, exists_eq_left', exists_eq_left, exists_and_left, List.cons.injEq, and_true, true_and, eq_self_iff_true, Nat.reduceAdd, Nat.reduceSub, Nat.zero_add, rEqI, rNeI, tAndV, tOrV, tNotV, natI, tDGet, tDIn, tDNotIn, sDPut, tDGet2, tDNewT, tDNewK, tDSetd, tCKw]
    refine ixL rfl (sq_of hns5) (intsN_get hn) ⟨_, rfl, ⟨by decide, by decide⟩, sz_of (by omega), by omega, dx5, fsA a d, h15, rfl, ixL rfl (sq_of (e5 _ _ (eH4 _ _ hlx))) hv ⟨sz_of (by omega), by decide, fun p6 hp6 => ixL rfl (sq_of (Ex.new hp6 _ _ hns5)) (intsN_get hn) ⟨_, rfl, by decide, ?_⟩⟩⟩
    have ep : Int.fdiv (n : Int) 4 % (((pcM F p k).length : Int) + 1) = ((n / 4 % ((pcM F p k).length + 1) : Nat) : Int) := by
      have := fdiv_nat n 4
      rw [show ((4 : Nat) : Int) = 4 from rfl] at this
      rw [this]
      rfl
    rw [ep]
    generalize hpart : n / 4 % ((pcM F p k).length + 1) = part
    have fin : ∀ cnt : Nat, ∃ (z : Str), V.str (bs (pcM F p k)) = V.str z ∧ z.length ≤ sizeLine ∧ spAccept CF CA [.ref x, .ref ka, .int 0, .str (cutS z none (some (cnt : Int)))] (upd H5 p6 (.lst [.int 0, .int ((pcM F p k).length : Int), .int (part : Int), .int (part : Int)])) (fun x_1 H1 => (∀ b o, b ≠ d → H2 b = some o → H1 b = some o) ∧ (∃ (m : Dig), ArrAt CF CA H1 x d a F m ∧ m.length ≤ i + 1 ∧ ∃ (f : Key → Nat), (∀ j k, j < i + 1 → F.keys[j]? = some k → digs m k = (pcM F p k).take (f k)) ∧ ∀ j k, i + 1 ≤ j → F.keys[j]? = some k → getD m k = none) ∧ ∃ y, some (V.int (part : Int)) = y) E0 := fun cnt => by
      refine ⟨_, rfl, by rw [bs_length]; exact sz_of (by omega), ?_⟩
      rw [cut_to]
      generalize hc : (pcM F p k).take cnt = c'
      have hcl2 : c'.length ≤ 16 := by rw [← hc, List.length_take]; omega
      have hcs : (fpM (F.tw k.2.1) (F.tw k.2.1 * F.th k.2.1) c').isSome = true := by rw [← hc]; exact ((pk_of ok inr).2.1 cnt).fp
      have hgn := hm2 i k (Nat.le_refl _) hk
      refine ⟨x, d, a, ka, F, m, k, c', rfl, hA5.mono (Ex.new hp6), ok, (e5.trans (Ex.new hp6)) _ _ hka, inr, hgn, hcl2, hcs, by omega, fun v H6 keep6 hA6 => ?_⟩
      have huniq : ∀ j k', F.keys[j]? = some k' → j ≠ i → k ≠ k' := fun j k' hj hne e => by
        subst e
        exact hne ((Fr.idx hj).trans (Fr.idx hk).symm)
      refine ⟨fun b o hb ho => keep6 b o hb ((e5.trans (Ex.new hp6)) _ _ (e4 b o hb ho)), ⟨_, hA6, ?_, fun k' => if k' = k then cnt else f k', ?_, ?_⟩, _, rfl⟩
      · split
        · omega
        · simp; omega
      · intro j k' hj hjk
        by_cases hji : j = i
        · subst hji
          rw [hk] at hjk
          obtain rfl := Option.some.inj hjk
          dsimp only
          rw [if_pos rfl, hc]
          split
          · next h0 => unfold digs; rw [hgn, h0]; rfl
          · unfold digs
            rw [getD_app, hgn, if_pos rfl]
            rfl
        · have := hm1 j k' (by omega) hjk
          dsimp only
          rw [if_neg (fun e => huniq j k' hjk hji e.symm : ¬ k' = k)]
          split
          · exact this
          · rw [← this]
            unfold digs
            rw [getD_app, if_neg (huniq j k' hjk hji), Option.or_none]
      · intro j k' hj hjk
        have h0 := hm2 j k' (by omega) hjk
        split
        · exact h0
        · rw [getD_app, h0, if_neg (huniq j k' hjk (by omega))]
          rfl
    have hcnt : ∃ cnt : Nat, [V.int 0, V.int ((pcM F p k).length : Int), V.int (part : Int), V.int (part : Int)][n % 4]? = some (.int (cnt : Int)) := by
      have h4 := Nat.mod_lt n (show 4 > 0 by decide)
      generalize n % 4 = r at h4
      match r, h4 with
      | 0, _ => exact ⟨0, rfl⟩
      | 1, _ => exact ⟨_, rfl⟩
      | 2, _ => exact ⟨_, rfl⟩
      | 3, _ => exact ⟨_, rfl⟩
    obtain ⟨cnt, hcnt⟩ := hcnt
    exact ixL (j := n % 4) rfl (sq_of upd_same) hcnt ⟨_, rfl, fin cnt⟩
  · rintro σ' H4 ⟨e4, ⟨m, f, hAm, hml, hm1, hm2⟩, v5, v6, v7, rfl⟩
    simp only [tSeq, tAsg, tRet, tIfS, tTest, tOp, tUn, tVar, tC, tCons, tNil, tCB, tHas, gName, rI0, rI, rU, tNext, tNot, tAnd, tOr, tChain, tIf, tB, tNever, tRetN, tDrop, tTup, tLst, tMeth, tMake, tM0, tM1, tBits, tTruI, tBM, gSub, tSl, tNoPart, tPart, gcE, gnE, bs_length, tListRevR, tRg1, tFldE, sFldE, tPar3, cxK, nxK, List.append_nil, L2.start, List.map_cons, List.map_nil, List.length_cons, List.length_nil, List.replicate, List.cons_append, List.nil_append, List.getElem?_cons_zero, List.getElem?_cons_succ, List.set_cons_zero, List.set_cons_succ, Option.some.injEq, V.int.injEq, V.bl.injEq, V.str.injEq, V.ref.injEq, exists_eq_left', exists_eq_left, exists_and_left, List.cons.injEq, and_true, true_and, eq_self_iff_true, Nat.reduceAdd, Nat.reduceSub, Nat.zero_add, rEqI, rNeI, tAndV, tOrV, tNotV, natI, tDGet, tDIn, tDNotIn, sDPut, tDGet2, tDNewT, tDNewK, tDSetd, tCKw]
    have eH4 : Ex H H4 := fun b o ho => e4 b o (ne_of_none ho hd0) (eH2 b o ho)
    refine q x d H4 m f hx eH4 hAm fun k hk => ?_
    obtain ⟨j, hj, hje⟩ := List.getElem_of_mem (Fr.mem_keys.mpr hk)
    exact hm1 j k hj (by rw [List.getElem?_eq_getElem hj, hje])
def spLRegs : Sp := fun vs H Q _ => ∃ (c : Int) (a : Addr) (F : Fr), vs = [.int c, .ref a] ∧ H a = some (.lst (intsN (szV F))) ∧ F.ok ∧ ∀ p H', H p = none → Ex H H' → RegsAt H' p → Q (.ref p) H'
theorem has_l_regions (T : Top K mg CF CP CA) : Has P w K mg base CX0 3 "_law_regions" ["_law_cell_here", "_law_sizes"] spLRegs := by
  have G_l_numbers := has_l_numbers (P := P) (w := w) (base := base) T
  refine has0 T.d_l_regions sc_l_regions (fun vs H Q E h => by
    repeat (obtain ⟨_, h⟩ := h)
    subst_vars
    rfl) fun f cdv A outer s H vs Q E hr h => ?_
  obtain ⟨c, a, F, rfl, ha, ok, q⟩ := h
  refine ⟨_, (pss_cons (ps_set (i := 2) sc_l_regions.nd rfl (by first | exact .inl rfl | exact .inr rfl) (pe_has G_l_numbers (hr.mono (by decide)) (pa_cons (pv 0) (pa_cons pe_int (pa_cons pe_int pa_nil)))))
      (pss_cons (ps_set (i := 3) sc_l_regions.nd rfl (by first | exact .inl rfl | exact .inr rfl) (pe_lst pa_nil))
      (pss_cons (ps_for PassesOwn.never rfl (pi_range1 rfl T.n_range (pa_cons (pe_op op_mod (pe_ix ix_list (pv 2) pe_int (fun _ _ => rfl)) pe_int) pa_nil)) (pg_name (i := 4) sc_l_regions.nd rfl (by first | exact .inl rfl | exact .inr rfl)) (pss_cons (ps_set (i := 5) sc_l_regions.nd rfl (by first | exact .inl rfl | exact .inr rfl) (pe_ifExp (pt_cmpR op_eq (pe_op op_mod (pe_op op_fdivN (pe_ix ix_list (pv 2) (pe_op op_add (pe_op op_mul pe_int (pv 4)) pe_int) (fun _ _ => rfl)) pe_int) pe_int) pe_int (nomark _)) (pe_op op_mod (pe_ix ix_list (pv 2) (pe_op op_add (pe_op op_mul pe_int (pv 4)) pe_int) (fun _ _ => rfl)) pe_int) (pe_op op_mod (pe_op op_fdivN (pe_ix ix_list (pv 2) (pe_op op_add (pe_op op_mul pe_int (pv 4)) pe_int) (fun _ _ => rfl)) pe_int) (pe_ix ix_list (pv 1) pe_int (fun _ _ => rfl)))))
      (pss_cons (ps_set (i := 6) sc_l_regions.nd rfl (by first | exact .inl rfl | exact .inr rfl) (pe_ifExp (pt_cmpR op_eq (pe_op op_mod (pe_op op_fdivN (pe_ix ix_list (pv 2) (pe_op op_add (pe_op op_mul pe_int (pv 4)) pe_int) (fun _ _ => rfl)) pe_int) pe_int) pe_int (nomark _)) (pe_op op_mod (pe_ix ix_list (pv 2) (pe_op op_add (pe_op op_mul pe_int (pv 4)) pe_int) (fun _ _ => rfl)) pe_int) (pe_op op_mod (pe_op op_fdivN (pe_ix ix_list (pv 2) (pe_op op_add (pe_op op_mul pe_int (pv 4)) pe_int) (fun _ _ => rfl)) pe_int) (pe_ix ix_list (pv 1) pe_int (fun _ _ => rfl)))))
      (pss_cons (ps_set (i := 7) sc_l_regions.nd rfl (by first | exact .inl rfl | exact .inr rfl) (pe_ix ix_list (pv 2) (pe_op op_add (pe_op op_mul pe_int (pv 4)) pe_int) (fun _ _ => rfl)))
      (pss_cons (ps_set (i := 8) sc_l_regions.nd rfl (by first | exact .inl rfl | exact .inr rfl) (pe_op op_add pe_int (pe_ifExp (pt_cmpR op_eq (pe_op op_mod (pe_op op_fdivN (pv 7) pe_int) pe_int) pe_int (nomark _)) (pe_op op_mod (pv 7) pe_int) (pe_op op_mod (pe_op op_fdivN (pv 7) pe_int) (pe_ix ix_list (pv 1) pe_int (fun _ _ => rfl))))))
      (pss_cons (ps_set (i := 9) sc_l_regions.nd rfl (by first | exact .inl rfl | exact .inr rfl) (pe_op op_add pe_int (pe_ifExp (pt_cmpR op_eq (pe_op op_mod (pe_op op_fdivN (pv 7) pe_int) pe_int) pe_int (nomark _)) (pe_op op_mod (pe_op op_fdivN (pv 7) pe_int) pe_int) (pe_op op_mod (pe_op op_fdivN (pv 7) pe_int) (pe_ix ix_list (pv 1) pe_int (fun _ _ => rfl))))))
      (pss_one (ps_expr (pe_bm PySem.F.plainAttrs_list PySem.F.slot_list_append PySem.F.type_list_append mt_append (pv 3) (pa_cons (pe_tup (pa_cons (pv 5) (pa_cons (pv 6) (pa_cons (pv 8) (pa_cons (pv 9) (pa_cons (pe_op op_mod (pe_op op_fdivN (pv 7) pe_int) pe_int) pa_nil)))))) pa_nil))))))))))
      (pss_one (ps_ret (pv 3)))))), ?_⟩
  simp only [tSeq, tAsg, tRet, tIfS, tTest, tOp, tUn, tVar, tC, tCons, tNil, tCB, tHas, gName, rI0, rI, rU, tNext, tNot, tAnd, tOr, tChain, tIf, tB, tNever, tRetN, tDrop, tTup, tLst, tMeth, tMake, tM0, tM1, tBits, tTruI, tBM, gSub, tSl, tNoPart, tPart, gcE, gnE, bs_length, tListRevR, tRg1, tFldE, sFldE, tPar3, cxK, nxK, List.append_nil, L2.start, List.map_cons, List.map_nil, List.length_cons, List.length_nil, List.replicate, List.cons_append, List.nil_append, List.getElem?_cons_zero, List.getElem?_cons_succ, List.set_cons_zero, List.set_cons_succ, Option.some.injEq, V.int.injEq, V.bl.injEq, V.str.injEq, V.ref.injEq, exists_eq_left', exists_eq_left, exists_and_left, List.cons.injEq, and_true, true_and, eq_self_iff_true, Nat.reduceAdd, Nat.reduceSub, Nat.zero_add, rEqI, rNeI, tAndV, tOrV, tNotV, natI, tDGet, tDIn, tDNotIn, sDPut, tDGet2, tDNewT, tDNewK, tDSetd, tCKw]
  refine ⟨c, 13, 960000, rfl, by decide, by decide, by decide, fun p H1 ns hp e1 hns hnl hnb => ?_⟩
  refine ⟨by decide, fun pr hpr => ?_⟩
  have hb := ok.b
  have hprp : p ≠ pr := ne_of_none hns hpr
  have ixn : ∀ {H2 : Hp} {Q : VK} {i : Int} (j : Nat), i = (j : Int) → j < 13 → H2 p = some (.lst (intsN ns)) → (∀ n : Nat, Q (.int (n : Int)) H2) → rIxL K (.ref p) (.int i) H2 Q := fun j e hj h q => ixL e (sq_of h) (intsN_get (getD_some (d := 0) (by omega))) (q _)
  have ixs : ∀ {H2 : Hp} {Q : VK} {i : Int} (j : Nat) (n : Nat), (szV F)[j]? = some n → i = (j : Int) → Ex H1 H2 → Q (.int (n : Int)) H2 → rIxL K (.ref a) (.int i) H2 Q := fun j n hn e h q => ixL e (sq_of (h _ _ (e1 _ _ ha))) (intsN_get hn) q
  have hp3 : (upd H1 pr (.lst [])) p = some (.lst (intsN ns)) := by rw [upd_ne hprp]; exact hns
  have n4 : ∀ n : Nat, (n : Int) % 4 = ((n % 4 : Nat) : Int) := fun n => rfl
  have hmod : ∀ n k : Nat, (n : Int) % (k : Int) = ((n % k : Nat) : Int) := fun n k => by rw [Int.natCast_emod]
  obtain ⟨n0, hn0⟩ : ∃ n0, ns[0]? = some n0 := ⟨_, List.getElem?_eq_getElem (by omega)⟩
  refine s_rng (n := n0 % 4) (fun Q q => ?_) (by omega) (fun i σ' H' => Ex H1 H' ∧ (∃ xs rs, H' pr = some (.lst xs) ∧ All2 (fun v r => ObjAt H' v (rgO r)) xs rs ∧ (∀ r ∈ rs, r.ok) ∧ rs.length = i) ∧ ∃ v4 v5 v6 v7 v8 v9, σ' = [some (.int c), some (.ref a), some (.ref p), some (.ref pr), v4, v5, v6, v7, v8, v9])
    ⟨Ex.new hpr, ⟨[], [], upd_same, .nil, fun _ h => absurd h List.not_mem_nil, rfl⟩, _, _, _, _, _, _, rfl⟩ ?_ ?_
  · simp only [tSeq, tAsg, tRet, tIfS, tTest, tOp, tUn, tVar, tC, tCons, tNil, tCB, tHas, gName, rI0, rI, rU, tNext, tNot, tAnd, tOr, tChain, tIf, tB, tNever, tRetN, tDrop, tTup, tLst, tMeth, tMake, tM0, tM1, tBits, tTruI, tBM, gSub, tSl, tNoPart, tPart, gcE, gnE, bs_length, tListRevR, tRg1, tFldE, sFldE, tPar3, cxK, nxK, List.append_nil, L2.start, List.map_cons, List.map_nil, List.length_cons, List.length_nil, List.replicate, List.cons_append, List.nil_append, List.getElem?_cons_zero, List.getElem?_cons_succ, List.set_cons_zero, List.set_cons_succ, Option.some.injEq, V.int.injEq, V.bl.injEq, V.str.injEq, V.ref.injEq, exists_eq_left', exists_eq_left, exists_and_left, List.cons.injEq, and_true, true_and, eq_self_iff_true, Nat.reduceAdd, Nat.reduceSub, Nat.zero_add, rEqI, rNeI, tAndV, tOrV, tNotV, natI, tDGet, tDIn, tDNotIn, sDPut, tDGet2, tDNewT, tDNewK, tDSetd, tCKw]
    exact ixL (j := 0) rfl (sq_of hp3) (intsN_get hn0) ⟨_, rfl, by decide, q⟩
  · rintro i σ' H2 hi ⟨e2, ⟨xs, rs, hxs, hrs, hok, hrl⟩, v4, v5, v6, v7, v8, v9, rfl⟩
    have hp2 := e2 _ _ hns
    have hi3 : i < 3 := by omega
    have c3 : CMul 3 (i : Int) := .inl ⟨by decide, by decide⟩
    have lo : ∀ n : Nat, ∃ r : Nat, r < 64 ∧ (n : Int) % 64 = (r : Int) := fun n => ⟨n % 64, Nat.mod_lt _ (by decide), rfl⟩
    have hi' : ∀ n d k : Nat, 1 ≤ k → k ≤ 4 → ∃ r : Nat, r < 64 ∧ Int.fdiv (n : Int) (d : Int) % (k : Int) = (r : Int) := fun n d k h1 h2 => by
      refine ⟨n / d % k, ?_, ?_⟩
      · have := Nat.mod_lt (n / d) (show k > 0 by omega)
        omega
      · rw [fdiv_nat, Int.natCast_emod]
    refine seqA (fun n => n < 64) (fun Q q => ?_) fun lf hlf => seqA (fun n => n < 64) (fun Q q => ?_) fun tp htp => seqA (fun _ => True) (fun Q q => ?_) fun sz _ => seqA (fun n => 1 ≤ n ∧ n ≤ 64) (fun Q q => ?_) fun wd hwd => seqA (fun n => 1 ≤ n ∧ n ≤ 64) (fun Q q => ?_) fun hg hhg => ?_
    · simp only [tSeq, tAsg, tRet, tIfS, tTest, tOp, tUn, tVar, tC, tCons, tNil, tCB, tHas, gName, rI0, rI, rU, tNext, tNot, tAnd, tOr, tChain, tIf, tB, tNever, tRetN, tDrop, tTup, tLst, tMeth, tMake, tM0, tM1, tBits, tTruI, tBM, gSub, tSl, tNoPart, tPart, gcE, gnE, bs_length, tListRevR, tRg1, tFldE, sFldE, tPar3, cxK, nxK, List.append_nil, L2.start, List.map_cons, List.map_nil, List.length_cons, List.length_nil, List.replicate, List.cons_append, List.nil_append, List.getElem?_cons_zero, List.getElem?_cons_succ, List.set_cons_zero, List.set_cons_succ, Option.some.injEq, V.int.injEq, V.bl.injEq, V.str.injEq, V.ref.injEq, exists_eq_left', exists_eq_left, exists_and_left, List.cons.injEq, and_true, true_and, eq_self_iff_true, Nat.reduceAdd, Nat.reduceSub, Nat.zero_add, rEqI, rNeI, tAndV, tOrV, tNotV, natI, tDGet, tDIn, tDNotIn, sDPut, tDGet2, tDNewT, tDNewK, tDSetd, tCKw]
      refine ⟨c3, ixn (3 * i + 1) (by omega) (by omega) hp2 fun n => ⟨_, rfl, ⟨by decide, by decide⟩, by decide, ifB ⟨c3, ixn (3 * i + 1) (by omega) (by omega) hp2 fun m => ⟨_, rfl, by decide, ?_⟩⟩ ⟨c3, ixn (3 * i + 1) (by omega) (by omega) hp2 fun m => ⟨_, rfl, ⟨by decide, by decide⟩, ixs 0 F.W rfl rfl e2 ⟨_, rfl, by omega, ?_⟩⟩⟩⟩⟩
      · obtain ⟨r, hr, e⟩ := lo m
        rw [e]
        exact q r hr
      · obtain ⟨r, hr, e⟩ := hi' m 192 F.W (by omega) (by omega)
        have e' : Int.fdiv (m : Int) 192 % ((F.W : Nat) : Int) = (r : Int) := e
        rw [e']
        exact q r hr
    · simp only [tSeq, tAsg, tRet, tIfS, tTest, tOp, tUn, tVar, tC, tCons, tNil, tCB, tHas, gName, rI0, rI, rU, tNext, tNot, tAnd, tOr, tChain, tIf, tB, tNever, tRetN, tDrop, tTup, tLst, tMeth, tMake, tM0, tM1, tBits, tTruI, tBM, gSub, tSl, tNoPart, tPart, gcE, gnE, bs_length, tListRevR, tRg1, tFldE, sFldE, tPar3, cxK, nxK, List.append_nil, L2.start, List.map_cons, List.map_nil, List.length_cons, List.length_nil, List.replicate, List.cons_append, List.nil_append, List.getElem?_cons_zero, List.getElem?_cons_succ, List.set_cons_zero, List.set_cons_succ, Option.some.injEq, V.int.injEq, V.bl.injEq, V.str.injEq, V.ref.injEq, exists_eq_left', exists_eq_left, exists_and_left, List.cons.injEq, and_true, true_and, eq_self_iff_true, Nat.reduceAdd, Nat.reduceSub, Nat.zero_add, rEqI, rNeI, tAndV, tOrV, tNotV, natI, tDGet, tDIn, tDNotIn, sDPut, tDGet2, tDNewT, tDNewK, tDSetd, tCKw]
      refine ⟨c3, ixn (3 * i + 2) (by omega) (by omega) hp2 fun n => ⟨_, rfl, ⟨by decide, by decide⟩, by decide, ifB ⟨c3, ixn (3 * i + 2) (by omega) (by omega) hp2 fun m => ⟨_, rfl, by decide, ?_⟩⟩ ⟨c3, ixn (3 * i + 2) (by omega) (by omega) hp2 fun m => ⟨_, rfl, ⟨by decide, by decide⟩, ixs 1 F.Hh rfl rfl e2 ⟨_, rfl, by omega, ?_⟩⟩⟩⟩⟩
      · obtain ⟨r, hr, e⟩ := lo m
        rw [e]
        exact q r hr
      · obtain ⟨r, hr, e⟩ := hi' m 192 F.Hh (by omega) (by omega)
        have e' : Int.fdiv (m : Int) 192 % ((F.Hh : Nat) : Int) = (r : Int) := e
        rw [e']
        exact q r hr
    · simp only [tSeq, tAsg, tRet, tIfS, tTest, tOp, tUn, tVar, tC, tCons, tNil, tCB, tHas, gName, rI0, rI, rU, tNext, tNot, tAnd, tOr, tChain, tIf, tB, tNever, tRetN, tDrop, tTup, tLst, tMeth, tMake, tM0, tM1, tBits, tTruI, tBM, gSub, tSl, tNoPart, tPart, gcE, gnE, bs_length, tListRevR, tRg1, tFldE, sFldE, tPar3, cxK, nxK, List.append_nil, L2.start, List.map_cons, List.map_nil, List.length_cons, List.length_nil, List.replicate, List.cons_append, List.nil_append, List.getElem?_cons_zero, List.getElem?_cons_succ, List.set_cons_zero, List.set_cons_succ, Option.some.injEq, V.int.injEq, V.bl.injEq, V.str.injEq, V.ref.injEq, exists_eq_left', exists_eq_left, exists_and_left, List.cons.injEq, and_true, true_and, eq_self_iff_true, Nat.reduceAdd, Nat.reduceSub, Nat.zero_add, rEqI, rNeI, tAndV, tOrV, tNotV, natI, tDGet, tDIn, tDNotIn, sDPut, tDGet2, tDNewT, tDNewK, tDSetd, tCKw]
      exact ⟨c3, ixn (3 * i + 3) (by omega) (by omega) hp2 fun n => q n trivial⟩
    · simp only [tSeq, tAsg, tRet, tIfS, tTest, tOp, tUn, tVar, tC, tCons, tNil, tCB, tHas, gName, rI0, rI, rU, tNext, tNot, tAnd, tOr, tChain, tIf, tB, tNever, tRetN, tDrop, tTup, tLst, tMeth, tMake, tM0, tM1, tBits, tTruI, tBM, gSub, tSl, tNoPart, tPart, gcE, gnE, bs_length, tListRevR, tRg1, tFldE, sFldE, tPar3, cxK, nxK, List.append_nil, L2.start, List.map_cons, List.map_nil, List.length_cons, List.length_nil, List.replicate, List.cons_append, List.nil_append, List.getElem?_cons_zero, List.getElem?_cons_succ, List.set_cons_zero, List.set_cons_succ, Option.some.injEq, V.int.injEq, V.bl.injEq, V.str.injEq, V.ref.injEq, exists_eq_left', exists_eq_left, exists_and_left, List.cons.injEq, and_true, true_and, eq_self_iff_true, Nat.reduceAdd, Nat.reduceSub, Nat.zero_add, rEqI, rNeI, tAndV, tOrV, tNotV, natI, tDGet, tDIn, tDNotIn, sDPut, tDGet2, tDNewT, tDNewK, tDSetd, tCKw]
      refine ⟨⟨by decide, by decide⟩, by decide, ifB ⟨by decide, ?_⟩ ⟨⟨by decide, by decide⟩, ixs 0 F.W rfl rfl e2 ⟨_, rfl, by omega, ?_⟩⟩⟩
      · obtain ⟨r, hr, e⟩ := lo sz
        rw [e]
        have := q (1 + r) (by omega)
        rw [Int.natCast_add] at this
        exact this
      · obtain ⟨r, hr, e⟩ := hi' sz 192 F.W (by omega) (by omega)
        have e' : Int.fdiv (sz : Int) 192 % ((F.W : Nat) : Int) = (r : Int) := e
        rw [e']
        have := q (1 + r) (by omega)
        rw [Int.natCast_add] at this
        exact this
    · simp only [tSeq, tAsg, tRet, tIfS, tTest, tOp, tUn, tVar, tC, tCons, tNil, tCB, tHas, gName, rI0, rI, rU, tNext, tNot, tAnd, tOr, tChain, tIf, tB, tNever, tRetN, tDrop, tTup, tLst, tMeth, tMake, tM0, tM1, tBits, tTruI, tBM, gSub, tSl, tNoPart, tPart, gcE, gnE, bs_length, tListRevR, tRg1, tFldE, sFldE, tPar3, cxK, nxK, List.append_nil, L2.start, List.map_cons, List.map_nil, List.length_cons, List.length_nil, List.replicate, List.cons_append, List.nil_append, List.getElem?_cons_zero, List.getElem?_cons_succ, List.set_cons_zero, List.set_cons_succ, Option.some.injEq, V.int.injEq, V.bl.injEq, V.str.injEq, V.ref.injEq, exists_eq_left', exists_eq_left, exists_and_left, List.cons.injEq, and_true, true_and, eq_self_iff_true, Nat.reduceAdd, Nat.reduceSub, Nat.zero_add, rEqI, rNeI, tAndV, tOrV, tNotV, natI, tDGet, tDIn, tDNotIn, sDPut, tDGet2, tDNewT, tDNewK, tDSetd, tCKw]
      refine ⟨⟨by decide, by decide⟩, by decide, ifB ⟨⟨by decide, by decide⟩, by decide, ?_⟩ ⟨⟨by decide, by decide⟩, ixs 1 F.Hh rfl rfl e2 ⟨_, rfl, by omega, ?_⟩⟩⟩
      · have e' : Int.fdiv (sz : Int) 576 % 64 = ((sz / 576 % 64 : Nat) : Int) := by
          have := fdiv_nat sz 576
          rw [show ((576 : Nat) : Int) = 576 from rfl] at this
          rw [this]
          rfl
        rw [e']
        have := q (1 + sz / 576 % 64) (by have := Nat.mod_lt (sz / 576) (show 64 > 0 by decide); omega)
        rw [Int.natCast_add] at this
        exact this
      · obtain ⟨r, hr, e⟩ := hi' sz 576 F.Hh (by omega) (by omega)
        have e' : Int.fdiv (sz : Int) 576 % ((F.Hh : Nat) : Int) = (r : Int) := e
        rw [e']
        have := q (1 + r) (by omega)
        rw [Int.natCast_add] at this
        exact this
    · simp only [tSeq, tAsg, tRet, tIfS, tTest, tOp, tUn, tVar, tC, tCons, tNil, tCB, tHas, gName, rI0, rI, rU, tNext, tNot, tAnd, tOr, tChain, tIf, tB, tNever, tRetN, tDrop, tTup, tLst, tMeth, tMake, tM0, tM1, tBits, tTruI, tBM, gSub, tSl, tNoPart, tPart, gcE, gnE, bs_length, tListRevR, tRg1, tFldE, sFldE, tPar3, cxK, nxK, List.append_nil, L2.start, List.map_cons, List.map_nil, List.length_cons, List.length_nil, List.replicate, List.cons_append, List.nil_append, List.getElem?_cons_zero, List.getElem?_cons_succ, List.set_cons_zero, List.set_cons_succ, Option.some.injEq, V.int.injEq, V.bl.injEq, V.str.injEq, V.ref.injEq, exists_eq_left', exists_eq_left, exists_and_left, List.cons.injEq, and_true, true_and, eq_self_iff_true, Nat.reduceAdd, Nat.reduceSub, Nat.zero_add, rEqI, rNeI, tAndV, tOrV, tNotV, natI, tDGet, tDIn, tDNotIn, sDPut, tDGet2, tDNewT, tDNewK, tDSetd, tCKw]
      refine ⟨.inl ⟨rfl, _, sq_of hxs⟩, ⟨by decide, by decide⟩, by decide, by decide, fun p4 hp4 => ?_⟩
      have e9 : Int.fdiv (sz : Int) 3 % 17 = ((sz / 3 % 17 : Nat) : Int) := by
        have := fdiv_nat sz 3
        rw [show ((3 : Nat) : Int) = 3 from rfl] at this
        rw [this]
        rfl
      rw [e9]
      have hDp : pr ≠ p4 := ne_of_none hxs hp4
      let r : Rg := ⟨lf, tp, wd, hg, sz / 3 % 17⟩
      have hxs4 : (upd H2 p4 (rgO r)) pr = some (.lst xs) := by rw [upd_ne hDp]; exact hxs
      have hlen := hrs.length
      refine ⟨pr, xs, _, rfl, rfl, hxs4, sz_lt (by omega), Ex.mut (e2.trans (Ex.new hp4)) hpr, ⟨_, upd_same, rs ++ [r], ?_, fun r' hr' => ?_, by simp [hrl]⟩, _, rfl⟩
      · have keep : ∀ {v : V} {r' : Rg}, ObjAt (upd H2 p4 (rgO r)) v (rgO r') → ObjAt (upd (upd H2 p4 (rgO r)) pr (.lst (xs ++ [.ref p4]))) v (rgO r') := fun {v r'} h => by
          obtain ⟨b, rfl, hb⟩ := h
          refine ⟨b, rfl, ?_⟩
          rw [upd_ne]
          · exact hb
          · rintro rfl
            rw [hxs4] at hb
            cases hb
        exact All2.snoc (R := fun v r => ObjAt _ v (rgO r)) (keep ⟨p4, rfl, upd_same⟩) (All2.mono (fun _ _ h => keep (h.mono (Ex.new hp4))) hrs)
      · rcases List.mem_append.mp hr' with z | z
        · exact hok _ z
        · obtain rfl := List.mem_singleton.mp z
          have := Nat.mod_lt (sz / 3) (show 17 > 0 by decide)
          exact ⟨hlf, htp, hwd, hhg, by show sz / 3 % 17 ≤ 16; omega⟩
  · rintro σ' H2 ⟨e2, ⟨xs, rs, hxs, hrs, hok, hrl⟩, v4, v5, v6, v7, v8, v9, rfl⟩
    simp only [tSeq, tAsg, tRet, tIfS, tTest, tOp, tUn, tVar, tC, tCons, tNil, tCB, tHas, gName, rI0, rI, rU, tNext, tNot, tAnd, tOr, tChain, tIf, tB, tNever, tRetN, tDrop, tTup, tLst, tMeth, tMake, tM0, tM1, tBits, tTruI, tBM, gSub, tSl, tNoPart, tPart, gcE, gnE, bs_length, tListRevR, tRg1, tFldE, sFldE, tPar3, cxK, nxK, List.append_nil, L2.start, List.map_cons, List.map_nil, List.length_cons, List.length_nil, List.replicate, List.cons_append, List.nil_append, List.getElem?_cons_zero, List.getElem?_cons_succ, List.set_cons_zero, List.set_cons_succ, Option.some.injEq, V.int.injEq, V.bl.injEq, V.str.injEq, V.ref.injEq, exists_eq_left', exists_eq_left, exists_and_left, List.cons.injEq, and_true, true_and, eq_self_iff_true, Nat.reduceAdd, Nat.reduceSub, Nat.zero_add, rEqI, rNeI, tAndV, tOrV, tNotV, natI, tDGet, tDIn, tDNotIn, sDPut, tDGet2, tDNewT, tDNewK, tDSetd, tCKw]
    exact q pr H2 (fresh_back e1 hpr) (e1.trans e2) ⟨xs, rs, hxs, hrs, hok, by omega⟩
end
end PK


set_option maxHeartbeats 4000000
namespace PK
open PySem PySem.Spec PyProof.Rows L2
/-! ### try: .. / except A: .. / except B as n: .. -/
abbrev Clause := Addr → Value → Option Addr → TS
/-- the wish of a clause without a name, with the wish of what it does not take -/
def wPlain (K : PySem.W.Frag) (c : Value) (ts : Clause) (rest : WX) (D : Ends) : WX := fun cls d σ H =>
  ∃ b, PySem.W.exmOne K cls c = some b ∧ (b = true → ∀ a, H a = none → ts a cls d D σ H) ∧ (b = false → rest cls d σ H)
/-- what an exception of the body meets -/
def seen (X : Cx) (pins : List (Addr × Obj)) (D : Ends) (hs : List ExceptHandler) : Value → Shared → Prop := fun ev s1 =>
  wpAny (model X.prog X.w) X.A (noteFrame ev X.env) (fun _ s2 => wpAny (model X.prog X.w) X.A (setFlight ev none) (fun _ s3 => wpAny (model X.prog X.w) X.A (handleBy ev X.env hs) (SP X pins D) X.xe s3) X.xe s2) X.xe s1
section
variable {X : Cx} {xa xb nm : Str} {ca cb : Value} {i : Nat} {body sa sb : List Stmt} {ha hb : Stmt} {pa pa' pb pb' pos : Pos} {tb : WX → TS} {ta tc : Clause} {out : WX}
theorem ps_try2 (est : X.stack = X.env :: X.outer) (efr : X.env.frame = some X.env.locals) (nd : X.N.Nodup) (ei : X.N[i]? = some nm) (loc : X.env.kindOf nm = some .local) (na : Names X xa ca) (nb : Names X xb cb) (tk : Takes X out)
    (hbody : ∀ (W : WX) (pn : List (Addr × Obj)) (xe : Value → Shared → Prop), Takes (X.tr pn xe) W → PassesOwn (model X.prog X.w) X.A X.env xe → PSs (X.tr pn xe) body (tb W))
    (hsa : ∀ (e : Addr) (ob : Obj) (cls : Value) (d : Option Addr) (pn : List (Addr × Obj)), Zc cls d ob → (∃ vs, ob.data = .fields vs) → PSs (X.suite e ((e, ob) :: pn)) (ha :: sa) (ta e cls d))
    (hsb : ∀ (e : Addr) (ob : Obj) (cls : Value) (d : Option Addr) (pn : List (Addr × Obj)), Zc cls d ob → (∃ vs, ob.data = .fields vs) → PSs (X.suite e ((e, ob) :: pn)) (hb :: sb) (tc e cls d)) :
    PS X (.Try body [.ExceptHandler (some (.Name xa pa)) none (ha :: sa) pa', .ExceptHandler (some (.Name xb pb)) (some nm) (hb :: sb) pb'] [] [] pos) (fun D σ H => tb (wPlain X.K ca ta (wAs X.K cb i tc out D) D) D σ H) := by
  refine ⟨fun pins s0 σ0 H0 D I0 rd => ?_⟩
  have ok0 := I0.ok
  have frs0 : X.A.frames = some (X.env :: X.outer) := by rw [ok0.frames, est]
  refine wpAny_Try_except ?_
  refine wpAny_mono ((hbody (wPlain X.K ca ta (wAs X.K cb i tc out D) D) (X.pn ++ pins) (seen X pins D [.ExceptHandler (some (.Name xa pa)) none (ha :: sa) pa', .ExceptHandler (some (.Name xb pb)) (some nm) (hb :: sb) pb']) (fun ev sv hv => ?_) PassesOwn.looking).run [] s0 σ0 H0 D (I0.toTry _) rd) (fun fl sf hsp => ?_) (fun _ _ hx => hx)
  · obtain ⟨x, B, sI, pi, σ1, H1, cls, d, rfl, J0, hB, hup, hsky, hx0, hos, hbg, hw⟩ := hv
    have J1 : Inv X pins σ1 H1 sI := J0.ofTry ok0
    rw [est] at hsky
    show wpAny (model X.prog X.w) X.A (noteFrame (.ref x) X.env) _ _ _
    refine Sky.land Zc.steady frs0 efr hsky fun g hg hug => ?_
    have J2 : Inv X pins σ1 H1 { sv with heap := g } := J1.landed hB hg.1 (hup.trans hug) hos hbg
    obtain ⟨ob, fv, hob, hz, hfv⟩ := hg.there
    have off : x ∉ frs (X.env :: X.outer) := fun hm => by
      obtain ⟨_, ob', q1, q2⟩ := hg.2.2.1.mem hm
      rw [hob] at q1
      cases q1
      exact q2 _ hfv
    have offL : x ≠ X.env.locals := fun q => off (List.mem_filterMap.mpr ⟨X.env, List.mem_cons_self, by rw [efr, q]⟩)
    have offF : x ∉ X.fs := fun hm => by
      obtain ⟨ev, he, q⟩ := List.mem_filterMap.mp hm
      exact off (List.mem_filterMap.mpr ⟨ev, List.mem_cons_of_mem _ he, q⟩)
    have S2 := J2.suite hob hfv hx0 offL offF
    have typ : PySem.W.Looks (model X.prog X.w) g (typeOf (.ref x)) cls := fun A Q E st kk q => wpAny_typeOf_ref (kk _ _ hob) (by rw [hz.1]; exact q)
    have named : ∀ {y : Str} {c : Value} {py : Pos} {Q E : Value → Shared → Prop}, Names X y c → Q c { sv with heap := g } → wpAny (model X.prog X.w) (X.A.mark (some (.ref x))) (eval (.Name y py) X.env) Q E { sv with heap := g } := fun {y c py Q E} nc q => by
      obtain ⟨g1, g2, g3 | ⟨g3, g4, g5⟩⟩ := nc
      · exact ld_glob (X := X.suite x ((x, ob) :: (X.pn ++ pins))) S2 g1 g3 q g2
      · exact ld_blt (X := X.suite x ((x, ob) :: (X.pn ++ pins))) S2 g1 g3 g4 q g5 g2
    obtain ⟨b1, hb1, yes1, no1⟩ := hw
    refine wpAny_handleBy_cons (codeAny_handlers_test ?_) (by intro q; cases q)
    refine named na ((PySem.W.exm_one (M := model X.prog X.w) J2.kIn typ hb1).here ?_)
    cases b1 with
    | true =>
      refine codeAny_handlers_suite ?_
      refine HandSPX.lands_againZ hg fun g2 hg2 hug2 => ?_
      have J3 : Inv X pins σ1 H1 { sv with heap := g2 } := J1.landed hB hg2.1 ((hup.trans hug).trans hug2) hos hbg
      obtain ⟨ob2, fv2, hob2, hz2, hfv2⟩ := hg2.there
      have S3 := J3.suite hob2 hfv2 hx0 offL offF
      refine wpAny_mono ((hsa x ob2 cls d (X.pn ++ pins) hz2 ⟨_, hfv2⟩).run [] _ _ H1 _ S3 (yes1 rfl x hx0)) (fun fl s4 hsp => ?_) (fun _ _ z => z.elim)
      cases fl with
      | ret u =>
        obtain ⟨v, σ4, H4, S4, r4, q4⟩ := hsp
        exact ⟨v, σ4, H4, S4.unsuite ok0, r4, q4⟩
      | next =>
        obtain ⟨σ4, H4, S4, q4⟩ := hsp
        exact ⟨σ4, H4, S4.unsuite ok0, q4⟩
      | brk =>
        obtain ⟨σ4, H4, S4, q4⟩ := hsp
        exact ⟨σ4, H4, S4.unsuite ok0, q4⟩
      | cont =>
        obtain ⟨σ4, H4, S4, q4⟩ := hsp
        exact ⟨σ4, H4, S4.unsuite ok0, q4⟩
    | false =>
      obtain ⟨b2, hb2, yes2, no2⟩ := no1 rfl
      show wpAny _ X.A (handleBy (.ref x) X.env [.ExceptHandler (some (.Name xb pb)) (some nm) (hb :: sb) pb']) _ _ _
      refine wpAny_handleBy_cons (codeAny_handlers_test ?_) (by intro q; cases q)
      refine named nb ((PySem.W.exm_one (M := model X.prog X.w) J2.kIn typ hb2).here ?_)
      cases b2 with
      | true =>
        refine codeAny_handlers_suite_as ?_
        refine HandSPX.lands_againZ hg fun g2 hg2 hug2 => ?_
        have J3 : Inv X pins σ1 H1 { sv with heap := g2 } := J1.landed hB hg2.1 ((hup.trans hug).trans hug2) hos hbg
        obtain ⟨ob2, fv2, hob2, hz2, hfv2⟩ := hg2.there
        have S3 := J3.suite hob2 hfv2 hx0 offL offF
        refine store_ok (X := X.suite x ((x, ob2) :: (X.pn ++ pins))) (v := .ref x) S3 nd ei (.inl loc) rfl (fun s4 S4 => ?_) (.inr loc)
        refine wpAny_mono ((hsb x ob2 cls d (X.pn ++ pins) hz2 ⟨_, hfv2⟩).run [] s4 _ H1 _ S4 (yes2 rfl x hx0)) (fun fl s5 hsp => ?_) (fun _ _ z => z.elim)
        have drop : ∀ {σ5 : L2.St} {H5 : Hp} {R : Shared → Prop}, Inv (X.suite x ((x, ob2) :: (X.pn ++ pins))) [] σ5 H5 s5 → (∀ s6, Inv X pins (σ5.set i none) H5 s6 → R s6) →
            wpAny (model X.prog X.w) X.A (do bindName X.env nm .none; unbindBehindTheSuite X.env nm pb') (fun _ s6 => R s6) X.xe s5 := fun S5 q => gone_ok (S5.unsuite ok0) nd ei loc q
        cases fl with
        | ret u =>
          obtain ⟨v, σ5, H5, S5, r5, q5⟩ := hsp
          exact drop S5 fun s6 J6 => ⟨v, _, H5, J6, r5, q5⟩
        | next =>
          obtain ⟨σ5, H5, S5, q5⟩ := hsp
          exact drop S5 fun s6 J6 => ⟨_, H5, J6, q5⟩
        | brk =>
          obtain ⟨σ5, H5, S5, q5⟩ := hsp
          exact drop S5 fun s6 J6 => ⟨_, H5, J6, q5⟩
        | cont =>
          obtain ⟨σ5, H5, S5, q5⟩ := hsp
          exact drop S5 fun s6 J6 => ⟨_, H5, J6, q5⟩
      | false =>
        show wpAny _ X.A (handleBy (.ref x) X.env []) _ _ _
        refine wpAny_handleBy_nil ?_
        obtain ⟨_, _, _, o1, f1, T1, _, _, q1, _, q3, q4, _⟩ := id hg
        unfold PySem.passOn
        refine wpAny_bind (wpAny_field q1 q3 q4 ?_)
        rw [if_neg (show ¬ ((Value.ref T1 == Value.none) = true) by simp)]
        have end1 : wpAny (model X.prog X.w) X.A (setFlight (.ref x) X.env.frame) (fun _ s4 => wpAny (model X.prog X.w) X.A (throw (.ref x) : Sem Flow) (SP X pins D) X.xe s4) X.xe { sv with heap := g } := by
          rw [efr]
          refine HandSPX.setFlight_upZ hg fun g3 hg3 hug3 => wpAny_throw (tk _ _ ?_)
          exact ⟨x, B, sI, pins, σ1, H1, cls, d, rfl, J1, hB, (hup.trans hug).trans hug3, .inr (.inr (by rw [est]; exact hg3)), hx0, hos, hbg, no2 rfl⟩
        first
          | exact wpAny_bind (wpAny_pure (wpAny_bind end1))
          | exact wpAny_bind end1
  · cases fl with
    | next =>
      obtain ⟨σ5, H5, J5, q5⟩ := hsp
      exact wpAny_execs_nil ⟨σ5, H5, J5.ofTry ok0, q5⟩
    | ret u =>
      obtain ⟨v, σ5, H5, J5, r5, q5⟩ := hsp
      exact ⟨v, σ5, H5, J5.ofTry ok0, r5, q5⟩
    | brk =>
      obtain ⟨σ5, H5, J5, q5⟩ := hsp
      exact ⟨σ5, H5, J5.ofTry ok0, q5⟩
    | cont =>
      obtain ⟨σ5, H5, J5, q5⟩ := hsp
      exact ⟨σ5, H5, J5.ofTry ok0, q5⟩
end
end PK

set_option maxHeartbeats 4000000
namespace PK
open PySem PySem.Spec PyProof.Rows L2 Evl
local macro_rules | `(tactic| walk_at "rd") => `(tactic| simp only [tSeq, tAsg, tRet, tIfS, tTest, tOp, tUn, tVar, tC, tCons, tNil, tCB, tHas, gName, rI0, rI, rU, tNext, tNot, tAnd, tOr, tChain, tIf, tB, tNever, tRetN, tDrop, tTup, tLst, tMeth, tMake, tM0, tM1, tBits, tTruI, tBM, gSub, tSl, tNoPart, tPart, gcE, gnE, bs_length, tListRevR, tRg1, tFldE, sFldE, tPar3, cxK, nxK, List.append_nil,
  L2.start, List.map_cons, List.map_nil, List.length_cons, List.length_nil, List.replicate, List.cons_append, List.nil_append, List.getElem?_cons_zero, List.getElem?_cons_succ, List.set_cons_zero, List.set_cons_succ,
  Option.some.injEq, V.int.injEq, V.bl.injEq, V.str.injEq, V.ref.injEq, exists_eq_left', exists_eq_left, exists_and_left, List.cons.injEq, and_true, true_and, eq_self_iff_true, Nat.reduceAdd, Nat.reduceSub, Nat.zero_add])
/-! ### errors -/
structure TopX (K : PySem.W.Frag) (mg : Str → Option Value) (CO CK fO : Addr) : Prop where
  gO : mg "OutOfRange" = some (.ref CO)
  oex : OexC K CO
  iO : PySem.W.findIn K (.ref CO) "__init__" = some (some (.ref fO))
  tO : PySem.W.typeIn K (.ref fO) = some (.type "function")
  fO : ∃ fd, Fun K "__init__" "OutOfRange.__init__" s_OutOfRange_init fO fd ∧ Binds K fd ["self", "name"] []
  noN : PySem.W.findIn K (.ref CO) "name" = some none
  xf : XfC K CO
  gK : mg "OtherKind" = some (.ref CK)
  xK : PySem.W.excIn K CK [.type "ValueError", .type "Exception", .type "BaseException", .type "object"] "ValueError.__new__" = true
  kK : PySem.W.keepIn K (.ref CK) = true
  bK : PySem.W.subIn K (.ref CK) (.type "BaseException") = some true
  tK : PySem.W.typeIn K (.ref CK) = some (.type "type")
  eKK : PySem.W.exmOne K (.ref CK) (.ref CK) = some true
  eOO : PySem.W.exmOne K (.ref CO) (.ref CO) = some true
  eOK : PySem.W.exmOne K (.ref CO) (.ref CK) = some false
def tHasS (sp : Sp) (W : WX) (t : TA) : TE := fun σ H Q => t σ H fun vs H1 => sp vs H1 Q (fun cls d H' => W cls d σ H')
section
variable {X : Cx} {k : Nat} {x : Str} {ps : List Str} {sp : Sp} {W : WX} {p pos : Pos} {e : Expr} {es : List Expr} {t : TA}
theorem pe_hasX (G : Has X.prog X.w X.K X.mg X.base (L2.CX X.prog X.w) k x ps sp) (hr : Room k X.A) (tk : Takes X W) (ha : PA X (e :: es) t) (hg : Gl X x := by rfl) (hdb : (x == ("__debug__" : Str)) = false := by decide)
    (he : starEach (e :: es) X.env = (false, eval e X.env) :: starEach es X.env := by rfl) (hpl : (backTo pos (starEach es X.env)).any (·.1) = false := by rfl) :
    PE X (.Call (.Name x p) (e :: es) [] pos) (tHasS sp W t) := by
  obtain ⟨f, fd, m, kp, b, F⟩ := G.ex
  exact pe_callS F hr hg m kp b (fun σ => passAt tk σ) ha hdb he hpl
end
section
variable {P : Program} {w : World} {K : PySem.W.Frag} {mg : Str → Option Value} {base : Heap} {CF CP CA CO CK fO : Addr}
theorem hasX0 {x : Str} {st : Stmt} {N ps : List Str} {sp : Sp} {k : Nat} (D : DefAt K mg x st ps) (S : FnScope N ps (defScope st)) (len : ∀ vs H Q E, sp vs H Q E → vs.length = ps.length)
    (hb : ∀ (f : Addr) (cdv : Value) (A : Around) (outer : List Env) (s : Shared) (H : Hp) (vs : List V) (Q : VK) (E : XK), Room k (A.deeper (envOfC x (defScope st) s.heap.objs.size f cdv)) → sp vs H Q E →
      ∃ t, PSs (cxOf (L2.CX P w) P w K mg base N x (defScope st) f cdv A outer s H E) (defBody st) t ∧ t { nx := fun _ H' => Q .non H', rt := Q } (start N vs) H) : Has P w K mg base (L2.CX P w) (k + 1) x ps sp := by
  obtain ⟨f, fd, F, m, b⟩ := D.ex
  exact ⟨f, fd, m, F.kp, b, F.okX S len (hb f)⟩
def spOut (CO : Addr) : Sp := fun vs H Q _ => ∃ (a : Addr) (n : Str), vs = [.ref a, .str n] ∧ H a = some (exo a CO none) ∧ ∀ dx, H dx = none → dx ≠ a → Q .non (upd (upd H dx (exd dx [("name", .str n)])) a (exo a CO (some dx)))
theorem ok_out (TX : TopX K mg CO CK fO) : ∃ fd, Binds K fd ["self", "name"] [] ∧ FnOk P w K mg base CX0 1 fO fd ["self", "name"] (spOut CO) := by
  obtain ⟨fd, F, b⟩ := TX.fO
  refine ⟨fd, b, F.ok sc_OutOfRange_init (fun vs H Q E h => by
    repeat (obtain ⟨_, h⟩ := h)
    subst_vars
    rfl) fun cdv A outer s H vs Q E hr h => ?_⟩
  obtain ⟨a, n, rfl, ha, q⟩ := h
  refine ⟨_, pss_one (ps_ost (pv 0) (pv 1)), ?_⟩
  simp only [tSeq, tAsg, tRet, tIfS, tTest, tOp, tUn, tVar, tC, tCons, tNil, tCB, tHas, gName, rI0, rI, rU, tNext, tNot, tAnd, tOr, tChain, tIf, tB, tNever, tRetN, tDrop, tTup, tLst, tMeth, tMake, tM0, tM1, tBits, tTruI, tBM, gSub, tSl, tNoPart, tPart, gcE, gnE, bs_length, tListRevR, tRg1, tFldE, sFldE, tPar3, cxK, nxK, List.append_nil, L2.start, List.map_cons, List.map_nil, List.length_cons, List.length_nil, List.replicate, List.cons_append, List.nil_append, List.getElem?_cons_zero, List.getElem?_cons_succ, List.set_cons_zero, List.set_cons_succ, Option.some.injEq, V.int.injEq, V.bl.injEq, V.str.injEq, V.ref.injEq, exists_eq_left', exists_eq_left, exists_and_left, List.cons.injEq, and_true, true_and, eq_self_iff_true, Nat.reduceAdd, Nat.reduceSub, Nat.zero_add, rEqI, rNeI, tAndV, tOrV, tNotV, natI, tDGet, tDIn, tDNotIn, sDPut, tDGet2, tDNewT, tDNewK, tDSetd, tCKw, tHasS, tMkO, tOst, tXf]
  exact ⟨CO, TX.oex, TX.noN, .inl ⟨ha, fun dx hdx hne => q dx hdx hne⟩⟩
def spKeyX (CF CO : Addr) : Sp := fun vs H Q E => ∃ (a k : Addr) (F : Fr) (key : Key), vs = [.ref a, .ref k] ∧ FrAt CF H a F ∧ F.ok ∧ H k = some (keyT key) ∧
  ((InR F key ∧ Q .non H) ∨ (key = (0, 0, F.D) ∧ ∀ d H', Ex H H' → H' d = some (.xd [("name", .str "plane")]) → E (.ref CO) (some d) H'))
theorem has_check_keyX (T : Top K mg CF CP CA) (TX : TopX K mg CO CK fO) : Has P w K mg base (L2.CX P w) 4 "check_key" ["frame", "key"] (spKeyX CF CO) := by
  obtain ⟨f_Frame_tiles, fd_Frame_tiles, mm_Frame_tiles, b_Frame_tiles, F_Frame_tiles⟩ := (has_Frame_tiles (P := P) (w := w) (base := base) T).ex
  obtain ⟨fdO, bO, FO⟩ := ok_out (P := P) (w := w) (base := base) TX
  refine hasX0 T.d_check_key sc_check_key (fun vs H Q E h => by
    obtain ⟨_, _, _, _, rfl, _⟩ := h
    rfl) fun f cdv A outer s H vs Q E hr h => ?_
  obtain ⟨a, k, F, key, rfl, hF, ok, hk, h⟩ := h
  refine ⟨_, (pss_cons (ps_asg (pv 1) (pg_tup rfl (pgs_cons (pg_name (i := 2) sc_check_key.nd rfl (by first | exact .inl rfl | exact .inr rfl)) (pgs_cons (pg_name (i := 3) sc_check_key.nd rfl (by first | exact .inl rfl | exact .inr rfl)) (pgs_cons (pg_name (i := 4) sc_check_key.nd rfl (by first | exact .inl rfl | exact .inr rfl)) pgs_nil)))))
      (pss_cons (ps_if (pt_not (pt_chain op_le op_lt pe_int (pv 2) (pe_fld (pv 0) rfl))) (pss_one ps_never) pss_nil)
      (pss_cons (ps_if (pt_not (pt_chain op_le op_lt pe_int (pv 3) (pe_meth0 (pv 0) T.clF mm_Frame_tiles F_Frame_tiles (hr.mono (by decide)) b_Frame_tiles .nil pass0))) (pss_one ps_never) pss_nil)
      (pss_one (ps_if (pt_not (pt_chain op_le op_lt pe_int (pv 4) (pe_fld (pv 0) rfl))) (pss_one (ps_raise rfl (takes_of rfl rfl rfl rfl) (pmk_oex TX.oex TX.iO TX.tO FO (hr.mono (by decide)) bO .nil pass0 rfl TX.gO (pa_cons pe_str pa_nil)))) pss_nil))))), ?_⟩
  simp only [tSeq, tAsg, tRet, tIfS, tTest, tOp, tUn, tVar, tC, tCons, tNil, tCB, tHas, gName, rI0, rI, rU, tNext, tNot, tAnd, tOr, tChain, tIf, tB, tNever, tRetN, tDrop, tTup, tLst, tMeth, tMake, tM0, tM1, tBits, tTruI, tBM, gSub, tSl, tNoPart, tPart, gcE, gnE, bs_length, tListRevR, tRg1, tFldE, sFldE, tPar3, cxK, nxK, List.append_nil, L2.start, List.map_cons, List.map_nil, List.length_cons, List.length_nil, List.replicate, List.cons_append, List.nil_append, List.getElem?_cons_zero, List.getElem?_cons_succ, List.set_cons_zero, List.set_cons_succ, Option.some.injEq, V.int.injEq, V.bl.injEq, V.str.injEq, V.ref.injEq, exists_eq_left', exists_eq_left, exists_and_left, List.cons.injEq, and_true, true_and, eq_self_iff_true, Nat.reduceAdd, Nat.reduceSub, Nat.zero_add, rEqI, rNeI, tAndV, tOrV, tNotV, natI, tDGet, tDIn, tDNotIn, sDPut, tDGet2, tDNewT, tDNewK, tDSetd, tCKw, tHasS, tMkO, tOst, tXf]
  refine gtup (st_of hk) rfl ?_
  simp only [tSeq, tAsg, tRet, tIfS, tTest, tOp, tUn, tVar, tC, tCons, tNil, tCB, tHas, gName, rI0, rI, rU, tNext, tNot, tAnd, tOr, tChain, tIf, tB, tNever, tRetN, tDrop, tTup, tLst, tMeth, tMake, tM0, tM1, tBits, tTruI, tBM, gSub, tSl, tNoPart, tPart, gcE, gnE, bs_length, tListRevR, tRg1, tFldE, sFldE, tPar3, cxK, nxK, List.append_nil, L2.start, List.map_cons, List.map_nil, List.length_cons, List.length_nil, List.replicate, List.cons_append, List.nil_append, List.getElem?_cons_zero, List.getElem?_cons_succ, List.set_cons_zero, List.set_cons_succ, Option.some.injEq, V.int.injEq, V.bl.injEq, V.str.injEq, V.ref.injEq, exists_eq_left', exists_eq_left, exists_and_left, List.cons.injEq, and_true, true_and, eq_self_iff_true, Nat.reduceAdd, Nat.reduceSub, Nat.zero_add, rEqI, rNeI, tAndV, tOrV, tNotV, natI, tDGet, tDIn, tDNotIn, sDPut, tDGet2, tDNewT, tDNewK, tDSetd, tCKw, tHasS, tMkO, tOst, tXf, frE T hF]
  obtain ⟨dx, hF0⟩ := id hF
  have hb := ok.b
  have htl := F.tiles_le ok
  rcases h with ⟨⟨i1, i2, i3⟩, q⟩ | ⟨rfl, q⟩
  · rw [if_pos (decide_eq_true (by omega)), if_neg (by simp; omega), if_pos (decide_eq_true (by omega))]
    refine ⟨dx, fsF F, hF0, rfl, a, F, rfl, hF, ok, _, rfl, ?_⟩
    rw [if_neg (by simp; omega), if_pos (decide_eq_true (by omega))]
    simp only [tSeq, tAsg, tRet, tIfS, tTest, tOp, tUn, tVar, tC, tCons, tNil, tCB, tHas, gName, rI0, rI, rU, tNext, tNot, tAnd, tOr, tChain, tIf, tB, tNever, tRetN, tDrop, tTup, tLst, tMeth, tMake, tM0, tM1, tBits, tTruI, tBM, gSub, tSl, tNoPart, tPart, gcE, gnE, bs_length, tListRevR, tRg1, tFldE, sFldE, tPar3, cxK, nxK, List.append_nil, L2.start, List.map_cons, List.map_nil, List.length_cons, List.length_nil, List.replicate, List.cons_append, List.nil_append, List.getElem?_cons_zero, List.getElem?_cons_succ, List.set_cons_zero, List.set_cons_succ, Option.some.injEq, V.int.injEq, V.bl.injEq, V.str.injEq, V.ref.injEq, exists_eq_left', exists_eq_left, exists_and_left, List.cons.injEq, and_true, true_and, eq_self_iff_true, Nat.reduceAdd, Nat.reduceSub, Nat.zero_add, rEqI, rNeI, tAndV, tOrV, tNotV, natI, tDGet, tDIn, tDNotIn, sDPut, tDGet2, tDNewT, tDNewK, tDSetd, tCKw, tHasS, tMkO, tOst, tXf, frE T hF]
    rw [if_neg (by simp; omega)]
    exact q
  · dsimp only
    rw [if_pos (decide_eq_true (by omega)), if_neg (by simp; omega), if_pos (decide_eq_true (by omega))]
    refine ⟨dx, fsF F, hF0, rfl, a, F, rfl, hF, ok, _, rfl, ?_⟩
    rw [if_neg (by simp; omega), if_pos (decide_eq_true (by omega))]
    simp only [tSeq, tAsg, tRet, tIfS, tTest, tOp, tUn, tVar, tC, tCons, tNil, tCB, tHas, gName, rI0, rI, rU, tNext, tNot, tAnd, tOr, tChain, tIf, tB, tNever, tRetN, tDrop, tTup, tLst, tMeth, tMake, tM0, tM1, tBits, tTruI, tBM, gSub, tSl, tNoPart, tPart, gcE, gnE, bs_length, tListRevR, tRg1, tFldE, sFldE, tPar3, cxK, nxK, List.append_nil, L2.start, List.map_cons, List.map_nil, List.length_cons, List.length_nil, List.replicate, List.cons_append, List.nil_append, List.getElem?_cons_zero, List.getElem?_cons_succ, List.set_cons_zero, List.set_cons_succ, Option.some.injEq, V.int.injEq, V.bl.injEq, V.str.injEq, V.ref.injEq, exists_eq_left', exists_eq_left, exists_and_left, List.cons.injEq, and_true, true_and, eq_self_iff_true, Nat.reduceAdd, Nat.reduceSub, Nat.zero_add, rEqI, rNeI, tAndV, tOrV, tNotV, natI, tDGet, tDIn, tDNotIn, sDPut, tDGet2, tDNewT, tDNewK, tDSetd, tCKw, tHasS, tMkO, tOst, tXf, frE T hF]
    rw [if_pos (by simp)]
    refine ⟨by decide, fun e he => ⟨e, _, rfl, upd_same, fun d hd hde => ⟨rfl, d, upd_same, [("name", .str "plane")], ?_, ?_, ?_⟩⟩⟩
    · rw [upd_ne hde]
      exact upd_same
    · rw [upd_ne hde] at hd
      exact hd
    · rw [upd_ne hde] at hd
      refine q d _ (fun b o ho => ?_) upd_same
      have hbe : b ≠ e := ne_of_none ho he
      have hbd : b ≠ d := ne_of_none ho hd
      rw [upd_ne hbd, del_ne hbe, upd_ne hbe, upd_ne hbd, upd_ne hbe]
      exact ho
def spReqsX (CF CO : Addr) : Sp := fun vs H Q E => ∃ (a l kb ea : Addr) (F : Fr) (es : Req) (xs : List V) (n : Nat), vs = [.ref a, .ref l] ∧ FrAt CF H a F ∧ F.ok ∧ H l = some (.lst (xs ++ [.ref ea])) ∧ All2 (ReqE H) xs es ∧ H ea = some (.tup [.ref kb, .int (n : Int)]) ∧ H kb = some (keyT (0, 0, F.D)) ∧
  (es.map (·.1)).Nodup ∧ es.length ≤ 1000 ∧ (∀ e ∈ es, InR F e.1 ∧ e.2 ≤ 65535) ∧ ∀ d H', Ex H H' → H' d = some (.xd [("name", .str "plane")]) → E (.ref CO) (some d) H'
theorem has_check_requestsX (T : Top K mg CF CP CA) (TX : TopX K mg CO CK fO) : Has P w K mg base (L2.CX P w) 5 "check_requests" ["frame", "requests"] (spReqsX CF CO) := by
  have GX_check_key := has_check_keyX (P := P) (w := w) (base := base) T TX
  refine hasX0 T.d_check_requests sc_check_requests (fun vs H Q E h => by
    obtain ⟨_, _, _, _, _, _, _, _, rfl, _⟩ := h
    rfl) fun f cdv A outer s H vs Q E hr h => ?_
  obtain ⟨a, l, kb, ea, F, es, xs, n, rfl, hF, ok, hlx, hes, hea, hkb, hnd, hel, hall, q⟩ := h
  refine ⟨_, (pss_cons (ps_set (i := 2) sc_check_requests.nd rfl (by first | exact .inl rfl | exact .inr rfl) pe_dnewT)
      (pss_one (ps_for PassesOwn.leaving rfl (pi_list (pv 1)) (pg_tup rfl (pgs_cons (pg_name (i := 3) sc_check_requests.nd rfl (by first | exact .inl rfl | exact .inr rfl)) (pgs_cons (pg_name (i := 4) sc_check_requests.nd rfl (by first | exact .inl rfl | exact .inr rfl)) pgs_nil))) (pss_cons (ps_expr (pe_hasX GX_check_key (hr.mono (by decide)) (takes_of rfl rfl rfl rfl) (pa_cons (pv 0) (pa_cons (pv 3) pa_nil))))
      (pss_cons (ps_if (pt_not (pt_chain op_le op_le pe_int (pv 4) (pe_gint T.c_START_MOST))) (pss_one ps_never) pss_nil)
      (pss_cons (ps_if (pt_cmp (pc_din (hu_of hr) (pv 3) (pv 2))) (pss_one ps_never) pss_nil)
      (pss_one (ps_dput (hu_of hr) (pv 2) (pv 3) pe_bl rfl)))))))), ?_⟩
  simp only [tSeq, tAsg, tRet, tIfS, tTest, tOp, tUn, tVar, tC, tCons, tNil, tCB, tHas, gName, rI0, rI, rU, tNext, tNot, tAnd, tOr, tChain, tIf, tB, tNever, tRetN, tDrop, tTup, tLst, tMeth, tMake, tM0, tM1, tBits, tTruI, tBM, gSub, tSl, tNoPart, tPart, gcE, gnE, bs_length, tListRevR, tRg1, tFldE, sFldE, tPar3, cxK, nxK, List.append_nil, L2.start, List.map_cons, List.map_nil, List.length_cons, List.length_nil, List.replicate, List.cons_append, List.nil_append, List.getElem?_cons_zero, List.getElem?_cons_succ, List.set_cons_zero, List.set_cons_succ, Option.some.injEq, V.int.injEq, V.bl.injEq, V.str.injEq, V.ref.injEq, exists_eq_left', exists_eq_left, exists_and_left, List.cons.injEq, and_true, true_and, eq_self_iff_true, Nat.reduceAdd, Nat.reduceSub, Nat.zero_add, rEqI, rNeI, tAndV, tOrV, tNotV, natI, tDGet, tDIn, tDNotIn, sDPut, tDGet2, tDNewT, tDNewK, tDSetd, tCKw, tHasS, tMkO, tOst, tXf]
  intro sd hsd
  have hxl := hes.length
  have hsl : l ≠ sd := ne_of_none hlx hsd
  have keep : ∀ {H' : Hp}, (∀ b o, b ≠ sd → H b = some o → H' b = some o) → Ex H H' := fun {H'} e b o h => e b o (ne_of_none h hsd) h
  refine s_listT (a := l) (xs := xs ++ [.ref ea]) (fun Q q => ⟨_, rfl, q⟩) (sq_of (Ex.new hsd _ _ hlx)) (fun i σ' H' => i ≤ es.length ∧ (∀ b o, b ≠ sd → H b = some o → H' b = some o) ∧ (∃ m : List (Key × Unit), H' sd = some (.dT (m.map (entG fun _ => .bl true))) ∧ m.length = i ∧ m.map (·.1) = (es.take i).map (·.1)) ∧ ∃ v3 v4, σ' = [some (.ref a), some (.ref l), some (.ref sd), v3, v4])
    ⟨Nat.zero_le _, fun b o hb ho => by rw [upd_ne hb]; exact ho, ⟨[], upd_same, rfl, rfl⟩, none, none, rfl⟩ (fun i σ' H' p => sq_of (p.2.1 _ _ hsl hlx)) ?_ ?_
  · rintro i x σ' H' hx ⟨hil0, e1, ⟨m, hm, hml, hmk⟩, v3, v4, rfl⟩
    have eH := keep e1
    by_cases hi : i < es.length
    · rw [List.getElem?_append_left (by omega)] at hx
      obtain ⟨e, he, ea', kb', rfl, hea', hkb'⟩ := All2.get hes hx
      obtain ⟨inr, hst⟩ := hall e (List.mem_of_getElem? he)
      refine gtup (st_of (eH _ _ hea')) rfl ?_
      simp only [tSeq, tAsg, tRet, tIfS, tTest, tOp, tUn, tVar, tC, tCons, tNil, tCB, tHas, gName, rI0, rI, rU, tNext, tNot, tAnd, tOr, tChain, tIf, tB, tNever, tRetN, tDrop, tTup, tLst, tMeth, tMake, tM0, tM1, tBits, tTruI, tBM, gSub, tSl, tNoPart, tPart, gcE, gnE, bs_length, tListRevR, tRg1, tFldE, sFldE, tPar3, cxK, nxK, List.append_nil, L2.start, List.map_cons, List.map_nil, List.length_cons, List.length_nil, List.replicate, List.cons_append, List.nil_append, List.getElem?_cons_zero, List.getElem?_cons_succ, List.set_cons_zero, List.set_cons_succ, Option.some.injEq, V.int.injEq, V.bl.injEq, V.str.injEq, V.ref.injEq, exists_eq_left', exists_eq_left, exists_and_left, List.cons.injEq, and_true, true_and, eq_self_iff_true, Nat.reduceAdd, Nat.reduceSub, Nat.zero_add, rEqI, rNeI, tAndV, tOrV, tNotV, natI, tDGet, tDIn, tDNotIn, sDPut, tDGet2, tDNewT, tDNewK, tDSetd, tCKw, tHasS, tMkO, tOst, tXf]
      refine ⟨a, kb', F, e.1, rfl, hF.mono eH, ok, eH _ _ hkb', .inl ⟨inr, ?_⟩⟩
      dsimp only
      rw [if_pos (decide_eq_true (by omega)), if_neg (by simp; omega)]
      have hnone : getG m e.1 = none := by
        rw [getG_none, hmk]
        intro hm2
        have h3 : (es.map (·.1)).take i ++ [e.1] = (es.map (·.1)).take (i + 1) := by
          rw [take_snoc (x := e.1) (by rw [List.getElem?_map, he]; rfl)]
        have h4 : ((es.map (·.1)).take (i + 1)).Nodup := hnd.sublist (List.take_sublist _ _)
        rw [← h3] at h4
        rw [List.map_take] at hm2
        exact (List.nodup_append.mp h4).2.2 e.1 hm2 e.1 List.mem_cons_self rfl
      have hg := DGet.t (k := kk e.1) hm (eH _ _ hkb')
      rw [valV_entG, hnone] at hg
      refine ⟨_, hg, iteF ⟨_, DPut.t (k := kk e.1) hm (eH _ _ hkb') (by rw [List.length_map]; exact sz_lt (by omega)), by omega, ?_, ⟨m ++ [(e.1, ())], ?_, by simp; omega, ?_⟩, _, rfl⟩⟩
      · intro b o hb ho
        rw [upd_ne hb]
        exact e1 b o hb ho
      · rw [upd_same]
        have := putK_entG (f := fun _ : Unit => V.bl true) (c := ()) hnone
        rw [this]
      · rw [take_snoc he, List.map_append, List.map_append, hmk]
        rfl
    · have hie : i = xs.length := by omega
      subst hie
      rw [List.getElem?_append_right (Nat.le_refl _), Nat.sub_self] at hx
      obtain rfl : V.ref ea = x := Option.some.inj hx
      refine gtup (st_of (eH _ _ hea)) rfl ?_
      simp only [tSeq, tAsg, tRet, tIfS, tTest, tOp, tUn, tVar, tC, tCons, tNil, tCB, tHas, gName, rI0, rI, rU, tNext, tNot, tAnd, tOr, tChain, tIf, tB, tNever, tRetN, tDrop, tTup, tLst, tMeth, tMake, tM0, tM1, tBits, tTruI, tBM, gSub, tSl, tNoPart, tPart, gcE, gnE, bs_length, tListRevR, tRg1, tFldE, sFldE, tPar3, cxK, nxK, List.append_nil, L2.start, List.map_cons, List.map_nil, List.length_cons, List.length_nil, List.replicate, List.cons_append, List.nil_append, List.getElem?_cons_zero, List.getElem?_cons_succ, List.set_cons_zero, List.set_cons_succ, Option.some.injEq, V.int.injEq, V.bl.injEq, V.str.injEq, V.ref.injEq, exists_eq_left', exists_eq_left, exists_and_left, List.cons.injEq, and_true, true_and, eq_self_iff_true, Nat.reduceAdd, Nat.reduceSub, Nat.zero_add, rEqI, rNeI, tAndV, tOrV, tNotV, natI, tDGet, tDIn, tDNotIn, sDPut, tDGet2, tDNewT, tDNewK, tDSetd, tCKw, tHasS, tMkO, tOst, tXf]
      exact ⟨a, kb, F, (0, 0, F.D), rfl, hF.mono eH, ok, eH _ _ hkb, .inr ⟨rfl, fun d H2 e2 h2 => q d H2 (eH.trans e2) h2⟩⟩
  · rintro σ' H' ⟨hil0, _⟩
    simp at hil0
    omega
def spAskedX (CF CP CO CK : Addr) : Sp := fun vs H Q E => ∃ (a b l : Addr) (F : Fr) (p : Pic), vs = [.ref a, .ref b, .ref l] ∧ FrAt CF H a F ∧ PicAt CP H b p ∧ F.ok ∧
  ((¬ Fits F p ∧ E (.ref CK) none H) ∨ (Fits F p ∧ spReqsX CF CO [.ref a, .ref l] H Q E))
theorem has_check_askedX (T : Top K mg CF CP CA) (TX : TopX K mg CO CK fO) : Has P w K mg base (L2.CX P w) 6 "check_asked" ["frame", "picture", "requests"] (spAskedX CF CP CO CK) := by
  have GX_check_requests := has_check_requestsX (P := P) (w := w) (base := base) T TX
  have G_fits_frame := has_fits_frame (P := P) (w := w) (base := base) T
  refine hasX0 T.d_check_asked sc_check_asked (fun vs H Q E h => by
    obtain ⟨_, _, _, _, _, rfl, _⟩ := h
    rfl) fun f cdv A outer s H vs Q E hr h => ?_
  obtain ⟨a, b, l, F, p, rfl, hF, hP, ok, h⟩ := h
  refine ⟨_, (pss_cons (ps_if (pt_not (pt_val (pe_has G_fits_frame (hr.mono (by decide)) (pa_cons (pv 0) (pa_cons (pv 1) pa_nil))))) (pss_one (ps_raise rfl (takes_of rfl rfl rfl rfl) (pmk_own PySem.F.excBase_ValueError TX.xK TX.gK TX.kK (raises_own TX.bK TX.tK) rfl))) pss_nil)
      (pss_one (ps_expr (pe_hasX GX_check_requests (hr.mono (by decide)) (takes_of rfl rfl rfl rfl) (pa_cons (pv 0) (pa_cons (pv 2) pa_nil)))))), ?_⟩
  simp only [tSeq, tAsg, tRet, tIfS, tTest, tOp, tUn, tVar, tC, tCons, tNil, tCB, tHas, gName, rI0, rI, rU, tNext, tNot, tAnd, tOr, tChain, tIf, tB, tNever, tRetN, tDrop, tTup, tLst, tMeth, tMake, tM0, tM1, tBits, tTruI, tBM, gSub, tSl, tNoPart, tPart, gcE, gnE, bs_length, tListRevR, tRg1, tFldE, sFldE, tPar3, cxK, nxK, List.append_nil, L2.start, List.map_cons, List.map_nil, List.length_cons, List.length_nil, List.replicate, List.cons_append, List.nil_append, List.getElem?_cons_zero, List.getElem?_cons_succ, List.set_cons_zero, List.set_cons_succ, Option.some.injEq, V.int.injEq, V.bl.injEq, V.str.injEq, V.ref.injEq, exists_eq_left', exists_eq_left, exists_and_left, List.cons.injEq, and_true, true_and, eq_self_iff_true, Nat.reduceAdd, Nat.reduceSub, Nat.zero_add, rEqI, rNeI, tAndV, tOrV, tNotV, natI, tDGet, tDIn, tDNotIn, sDPut, tDGet2, tDNewT, tDNewK, tDSetd, tCKw, tHasS, tMkO, tOst, tXf]
  refine ⟨a, b, F, p, rfl, hF, hP, _, rfl, ?_⟩
  rcases h with ⟨nf, q⟩ | ⟨fits, h⟩
  · rw [decide_eq_false (show ¬ (F.W = p.W ∧ F.Hh = p.Hh ∧ F.D = p.D ∧ F.C = p.C) from nf), if_pos (by decide)]
    exact q
  · rw [decide_eq_true (show F.W = p.W ∧ F.Hh = p.Hh ∧ F.D = p.D ∧ F.C = p.C from fits), if_neg (by decide)]
    exact h
def spRemX (CF CP CO CK : Addr) : Sp := spAskedX CF CP CO CK
theorem has_remainderX (T : Top K mg CF CP CA) (TX : TopX K mg CO CK fO) : Has P w K mg base (L2.CX P w) 20 "remainder" ["frame", "picture", "requests"] (spRemX CF CP CO CK) := by
  have GX_check_asked := has_check_askedX (P := P) (w := w) (base := base) T TX
  have G_concluded := has_concluded (P := P) (w := w) (base := base) T
  have G_binary := has_binary (P := P) (w := w) (base := base) T
  have G_number_of := has_number_of (P := P) (w := w) (base := base) T
  have G_remainder_length := has_remainder_length (P := P) (w := w) (base := base) T
  refine hasX0 T.d_remainder sc_remainder (fun vs H Q E h => by
    obtain ⟨_, _, _, _, _, rfl, _⟩ := h
    rfl) fun f cdv A outer s H vs Q E hr h => ?_
  obtain ⟨a, b, l, F, p, rfl, h⟩ := h
  refine ⟨_, (pss_cons (ps_expr (pe_hasX GX_check_asked (hr.mono (by decide)) (takes_of rfl rfl rfl rfl) (pa_cons (pv 0) (pa_cons (pv 1) (pa_cons (pv 2) pa_nil)))))
      (pss_cons (ps_set (i := 3) sc_remainder.nd rfl (by first | exact .inl rfl | exact .inr rfl) (pe_has G_concluded (hr.mono (by decide)) (pa_cons (pv 0) (pa_cons (pv 1) (pa_cons (pv 2) pa_nil)))))
      (pss_one (ps_ret (pe_has G_binary (hr.mono (by decide)) (pa_cons (pe_has G_number_of (hr.mono (by decide)) (pa_cons (pv 3) (pa_cons (pv 1) pa_nil))) (pa_cons (pe_has G_remainder_length (hr.mono (by decide)) (pa_cons (pv 3) pa_nil)) pa_nil))))))), ?_⟩
  simp only [tSeq, tAsg, tRet, tIfS, tTest, tOp, tUn, tVar, tC, tCons, tNil, tCB, tHas, gName, rI0, rI, rU, tNext, tNot, tAnd, tOr, tChain, tIf, tB, tNever, tRetN, tDrop, tTup, tLst, tMeth, tMake, tM0, tM1, tBits, tTruI, tBM, gSub, tSl, tNoPart, tPart, gcE, gnE, bs_length, tListRevR, tRg1, tFldE, sFldE, tPar3, cxK, nxK, List.append_nil, L2.start, List.map_cons, List.map_nil, List.length_cons, List.length_nil, List.replicate, List.cons_append, List.nil_append, List.getElem?_cons_zero, List.getElem?_cons_succ, List.set_cons_zero, List.set_cons_succ, Option.some.injEq, V.int.injEq, V.bl.injEq, V.str.injEq, V.ref.injEq, exists_eq_left', exists_eq_left, exists_and_left, List.cons.injEq, and_true, true_and, eq_self_iff_true, Nat.reduceAdd, Nat.reduceSub, Nat.zero_add, rEqI, rNeI, tAndV, tOrV, tNotV, natI, tDGet, tDIn, tDNotIn, sDPut, tDGet2, tDNewT, tDNewK, tDSetd, tCKw, tHasS, tMkO, tOst, tXf]
  exact ⟨a, b, l, F, p, rfl, h⟩
/-- refused: no picture of the frame; a plane too many -/
def spRefused (CF CP : Addr) : Sp := fun vs H Q _ => ∃ (a b l : Addr) (F : Fr) (p : Pic), vs = [.ref a, .ref b, .ref l] ∧ FrAt CF H a F ∧ PicAt CP H b p ∧ F.ok ∧
  ((¬ Fits F p ∧ ∀ H', Ex H H' → Q (.str "kind") H') ∨
   (Fits F p ∧ ∃ (kb ea : Addr) (es : Req) (xs : List V) (n : Nat), H l = some (.lst (xs ++ [.ref ea])) ∧ All2 (ReqE H) xs es ∧ H ea = some (.tup [.ref kb, .int (n : Int)]) ∧ H kb = some (keyT (0, 0, F.D)) ∧
    (es.map (·.1)).Nodup ∧ es.length ≤ 1000 ∧ (∀ e ∈ es, InR F e.1 ∧ e.2 ≤ 65535) ∧ ∀ H', Ex H H' → Q (.str "plane") H'))
theorem has_l_refused (T : Top K mg CF CP CA) (TX : TopX K mg CO CK fO) : Has P w K mg base CX0 21 "_law_refused" ["_law_frame_here", "_law_picture_here", "_law_entries"] (spRefused CF CP) := by
  have GX_remainder := has_remainderX (P := P) (w := w) (base := base) T TX
  refine has0 T.d_l_refused sc_l_refused (fun vs H Q E h => by
    obtain ⟨_, _, _, _, _, rfl, _⟩ := h
    rfl) fun f cdv A outer s H vs Q E hr h => ?_
  obtain ⟨a, b, l, F, p, rfl, hF, hP, ok, h⟩ := h
  refine ⟨_, pss_cons (ps_try2 (i := 3) (tb := fun W => tDrop (tHasS (spRemX CF CP CO CK) W (tCons (tVar 0) (tCons (tVar 1) (tCons (tVar 2) tNil))))) (ta := fun _ _ _ => tRet (tC (.str "kind"))) (tc := fun e cls d => tRet (tXf e cls d CO "name" (tVar 3))) (out := fun _ _ _ _ => False)
      rfl rfl sc_l_refused.nd rfl rfl ⟨rfl, by decide, .inl TX.gK⟩ ⟨rfl, by decide, .inl TX.gO⟩ takes0
      (fun W pn xe tk _ => pss_one (ps_expr (by exact (pe_hasX GX_remainder (hr.mono (by decide)) tk (by exact (pa_cons (pv 0) (pa_cons (pv 1) (pa_cons (pv 2) pa_nil))))))))
      (fun e ob cls d pn _ _ => pss_one (ps_ret pe_str))
      (fun e ob cls d pn hz hf => pss_one (ps_ret (pe_xf TX.xf TX.noN hz hf (pv 3)))))
    (pss_one (ps_ret pe_str)), ?_⟩
  simp only [tSeq, tAsg, tRet, tIfS, tTest, tOp, tUn, tVar, tC, tCons, tNil, tCB, tHas, gName, rI0, rI, rU, tNext, tNot, tAnd, tOr, tChain, tIf, tB, tNever, tRetN, tDrop, tTup, tLst, tMeth, tMake, tM0, tM1, tBits, tTruI, tBM, gSub, tSl, tNoPart, tPart, gcE, gnE, bs_length, tListRevR, tRg1, tFldE, sFldE, tPar3, cxK, nxK, List.append_nil, L2.start, List.map_cons, List.map_nil, List.length_cons, List.length_nil, List.replicate, List.cons_append, List.nil_append, List.getElem?_cons_zero, List.getElem?_cons_succ, List.set_cons_zero, List.set_cons_succ, Option.some.injEq, V.int.injEq, V.bl.injEq, V.str.injEq, V.ref.injEq, exists_eq_left', exists_eq_left, exists_and_left, List.cons.injEq, and_true, true_and, eq_self_iff_true, Nat.reduceAdd, Nat.reduceSub, Nat.zero_add, rEqI, rNeI, tAndV, tOrV, tNotV, natI, tDGet, tDIn, tDNotIn, sDPut, tDGet2, tDNewT, tDNewK, tDSetd, tCKw, tHasS, tMkO, tOst, tXf]
  refine ⟨a, b, l, F, p, rfl, hF, hP, ok, ?_⟩
  rcases h with ⟨nf, q⟩ | ⟨fits, kb, ea, es, xs, n, h1, h2, h3, h4, h5, h6, h7, q⟩
  · exact .inl ⟨nf, true, TX.eKK, fun _ x hx => q H (Ex.refl _), fun z => Bool.noConfusion z⟩
  · refine .inr ⟨fits, a, l, kb, ea, F, es, xs, n, rfl, hF, ok, h1, h2, h3, h4, h5, h6, h7, fun d H' e hd => ⟨false, TX.eOK, fun z => Bool.noConfusion z, fun _ => ⟨true, TX.eOO, fun _ x hx => ?_, fun z => Bool.noConfusion z⟩⟩⟩
    exact ⟨_, rfl, rfl, rfl, d, _, _, rfl, hd, rfl, q H' e⟩
end
end PK


set_option maxHeartbeats 4000000
namespace PK
open PySem PySem.Spec PyProof.Rows L2 Evl
local macro_rules | `(tactic| walk_at "rd") => `(tactic| simp only [tSeq, tAsg, tRet, tIfS, tTest, tOp, tUn, tVar, tC, tCons, tNil, tCB, tHas, gName, rI0, rI, rU, tNext, tNot, tAnd, tOr, tChain, tIf, tB, tNever, tRetN, tDrop, tTup, tLst, tMeth, tMake, tM0, tM1, tBits, tTruI, tBM, gSub, tSl, tNoPart, tPart, gcE, gnE, bs_length, tListRevR, tRg1, tFldE, sFldE, tPar3, cxK, nxK, List.append_nil,
  L2.start, List.map_cons, List.map_nil, List.length_cons, List.length_nil, List.replicate, List.cons_append, List.nil_append, List.getElem?_cons_zero, List.getElem?_cons_succ, List.set_cons_zero, List.set_cons_succ,
  Option.some.injEq, V.int.injEq, V.bl.injEq, V.str.injEq, V.ref.injEq, exists_eq_left', exists_eq_left, exists_and_left, List.cons.injEq, and_true, true_and, eq_self_iff_true, Nat.reduceAdd, Nat.reduceSub, Nat.zero_add])
/-! ### data that equals itself -/
def keyD (k : Key) : PyData := .tuple [.int (k.1 : Int), .int (k.2.1 : Int), .int (k.2.2 : Int)]
def pairsD (l : List (Key × PyData)) : PyData := .list (l.map fun e => .tuple [keyD e.1, e.2])
theorem pairs_all (l : List (Key × PyData)) (h : ∀ e ∈ l, PyData.eqv e.2 e.2 = true ∧ PyData.canLay0 e.2 = true ∧ PyData.depth e.2 = 0) : PyData.eqv (pairsD l) (pairsD l) = true ∧ SeqAt.shaped (pairsD l) = true := by
  have hk : ∀ k : Key, PyData.eqv (keyD k) (keyD k) = true ∧ PyData.canLay0 (keyD k) = true ∧ PyData.depth (keyD k) = 1 := fun k => by
    refine ⟨?_, rfl, rfl⟩
    show (((k.1 : Int) == (k.1 : Int)) && (((k.2.1 : Int) == (k.2.1 : Int)) && (((k.2.2 : Int) == (k.2.2 : Int)) && true))) = true
    simp
  have key : PyData.eqvAll (l.map fun e => .tuple [keyD e.1, e.2]) (l.map fun e => .tuple [keyD e.1, e.2]) = true ∧ PyData.canLayAll0 (l.map fun e => .tuple [keyD e.1, e.2]) = true ∧ PyData.depthAll (l.map fun e => .tuple [keyD e.1, e.2]) ≤ 2 := by
    induction l with
    | nil => exact ⟨rfl, rfl, Nat.zero_le _⟩
    | cons e l ih =>
      obtain ⟨h1, h2, h3⟩ := h e List.mem_cons_self
      obtain ⟨k1, k2, k3⟩ := hk e.1
      obtain ⟨i1, i2, i3⟩ := ih fun e' he' => h e' (List.mem_cons_of_mem _ he')
      refine ⟨?_, ?_, ?_⟩
      · show ((PyData.eqv (keyD e.1) (keyD e.1) && (PyData.eqv e.2 e.2 && true)) && PyData.eqvAll _ _) = true
        rw [k1, h1, i1]; rfl
      · show ((PyData.canLay0 (keyD e.1) && (PyData.canLay0 e.2 && true)) && PyData.canLayAll0 _) = true
        rw [k2, h2, i2]; rfl
      · show max (max (PyData.depth (keyD e.1)) (max (PyData.depth e.2) 0) + 1) (PyData.depthAll _) ≤ 2
        rw [k3, h3]
        omega
  refine ⟨key.1, ?_⟩
  unfold SeqAt.shaped pairsD
  show (PyData.canLayAll0 _ && decide (PyData.depthAll _ + 1 ≤ 64)) = true
  rw [key.2.1, decide_eq_true (by have := key.2.2; omega)]
  rfl
theorem key_dp {K : PySem.W.Frag} {H : Hp} {b : Addr} {k : Key} (h : H b = some (keyT k)) : Dp K H (.ref b) (keyD k) := .tup (st_of h) (.cons (.int _) (.cons (.int _) (.cons (.int _) .nil)))
theorem req_dp {K : PySem.W.Frag} {H : Hp} {l : Addr} {es : Req} (h : ReqAt H l es) : Dp K H (.ref l) (pairsD (es.map fun e => (e.1, .int (e.2 : Int)))) := by
  obtain ⟨xs, h1, h2⟩ := h
  refine .lst (sq_of h1) ?_
  clear h1
  induction h2 with
  | nil => exact .nil
  | cons r _ ih =>
    obtain ⟨a, b, rfl, ha, hb⟩ := r
    exact .cons (.tup (st_of ha) (.cons (key_dp hb) (.cons (.int _) .nil))) ih
theorem ent_dp {K : PySem.W.Frag} {H : Hp} {l : Addr} {xs : List V} {m : Dig} {ks : List Key} (h1 : H l = some (.lst xs)) (h : All2 (EntAt H m) xs ks) : Dp K H (.ref l) (pairsD (ks.map fun k => (k, .str (bs (digs m k))))) := by
  refine .lst (sq_of h1) ?_
  clear h1
  induction h with
  | nil => exact .nil
  | cons r _ ih =>
    obtain ⟨a, b, rfl, ha, hb⟩ := r
    exact .cons (.tup (st_of ha) (.cons (key_dp hb) (.cons (.str _) .nil))) ih
theorem req_all (es : Req) : PyData.eqv (pairsD (es.map fun e => (e.1, .int (e.2 : Int)))) (pairsD (es.map fun e => (e.1, .int (e.2 : Int)))) = true ∧ SeqAt.shaped (pairsD (es.map fun e => (e.1, .int (e.2 : Int)))) = true := by
  refine pairs_all _ fun e he => ?_
  obtain ⟨e', _, rfl⟩ := List.mem_map.mp he
  exact ⟨by show ((e'.2 : Int) == (e'.2 : Int)) = true; simp, rfl, rfl⟩
theorem ent_all (m : Dig) (ks : List Key) (h : ∀ k ∈ ks, (digs m k).length ≤ 16) : PyData.eqv (pairsD (ks.map fun k => (k, .str (bs (digs m k))))) (pairsD (ks.map fun k => (k, .str (bs (digs m k))))) = true ∧ SeqAt.shaped (pairsD (ks.map fun k => (k, .str (bs (digs m k))))) = true := by
  refine pairs_all _ fun e he => ?_
  obtain ⟨k, hk, rfl⟩ := List.mem_map.mp he
  refine ⟨by show (bs (digs m k) == bs (digs m k)) = true; simp, ?_, rfl⟩
  show PyData.strOk (bs (digs m k)) = true
  unfold PyData.strOk
  rw [Array.all_eq_true]
  intro i hi
  have : (bs (digs m k)).cps[i] = 48 ∨ (bs (digs m k)).cps[i] = 49 := by
    simp only [bs, List.getElem_toArray, List.getElem_map]
    split
    · exact .inr rfl
    · exact .inl rfl
  rcases this with e | e <;> rw [e] <;> decide
/-- a comprehension over bits whose test no bit passes -/
theorem lc_none {σ : L2.St} {H : Hp} {te0 tl : TE} {tt : TT} {j : Nat} {vs : List Nat} {Q : VK} {l : List Bool} (h : ∀ Q : VK, Q (.str (bs l)) H → te0 σ H Q) (hw : ∀ x, wipe ((wipe σ vs).set j (some x)) vs = wipe σ vs)
    (ht : ∀ (b : Bool) H1 (R : Bool → Hp → Prop), R false H1 → tt ((wipe σ vs).set j (some (.str (b1 b)))) H1 R) (q : ∀ p H1, H p = none → Ex H H1 → H1 p = some (.lst []) → Q (.ref p) H1) : tLc (iStr te0) (gName j) tt tl vs σ H Q := by
  refine h _ ⟨bs l, rfl, fun D hD => ?_⟩
  refine lc_it walk_str (fun i H' => Ex H H' ∧ H' D = some (.lst [])) ⟨Ex.new hD, upd_same⟩ (fun _ _ _ _ => trivial) (fun i x H1 H2 hi p y => ?_) fun H1 p => q D H1 hD p.1 p.2
  obtain ⟨rfl, c, hc, rfl⟩ := y
  have e : (bs l).cps.size = l.length := bs_length l
  rw [e] at hi
  have hb : l[i]? = some l[i] := by simp
  have hc2 : (bs l).cps[i]? = some (if l[i] then 49 else 48) := bs_get hb
  rw [hc2] at hc
  obtain rfl := Option.some.inj hc
  exact ⟨hw _, ht l[i] H2 _ (iteF p)⟩
section
variable {P : Program} {w : World} {K : PySem.W.Frag} {mg : Str → Option Value} {CF CP CA CO CK fO : Addr}
def spLaw (K : PySem.W.Frag) : Sp := fun vs H Q _ => ∃ (a : Addr) (xs : List V), vs = [.ref a] ∧ SqL K H a xs ∧ (∀ x ∈ xs, ∃ i, x = .int i) ∧ ∀ H', Q (.bl true) H'
theorem has_law (T : Top K mg CF CP CA) (TX : TopX K mg CO CK fO) : ∃ f fd, Fun K "law" "law" s_law f fd ∧ mg "law" = some (.ref f) ∧ ∀ base : Heap, FnOk P w K mg base CX0 22 f fd ["_law_script"] (spLaw K) := by
  obtain ⟨f, fd, F0, m0, b0⟩ := T.d_law.ex
  refine ⟨f, fd, F0, m0, fun base => ?_⟩
  have G_l_tiny := has_l_tiny (P := P) (w := w) (base := base) T
  have G_l_frame := has_l_frame (P := P) (w := w) (base := base) T
  have G_l_values := has_l_values (P := P) (w := w) (base := base) T
  have G_l_picture := has_l_picture (P := P) (w := w) (base := base) T
  have G_l_order := has_l_order (P := P) (w := w) (base := base) T
  have G_l_cut := has_l_cut (P := P) (w := w) (base := base) T
  have G_request := has_request (P := P) (w := w) (base := base) T
  have G_remainder := has_remainder (P := P) (w := w) (base := base) T
  obtain ⟨f_Arrived_packets, fd_Arrived_packets, mm_Arrived_packets, b_Arrived_packets, F_Arrived_packets⟩ := (has_Arrived_packets (P := P) (w := w) (base := base) T).ex
  have G_finish := has_finish (P := P) (w := w) (base := base) T
  have G_l_cell := has_l_cell (P := P) (w := w) (base := base) T
  have G_l_tiles := has_l_tiles (P := P) (w := w) (base := base) T
  have G_l_numbers := has_l_numbers (P := P) (w := w) (base := base) T
  have G_l_regions := has_l_regions (P := P) (w := w) (base := base) T
  have G_l_refused := has_l_refused (P := P) (w := w) (base := base) T TX
  have G_remainder_length := has_remainder_length (P := P) (w := w) (base := base) T
  obtain ⟨f_Picture_same, fd_Picture_same, mm_Picture_same, b_Picture_same, F_Picture_same⟩ := (has_Picture_same (P := P) (w := w) (base := base) T).ex
  obtain ⟨f_Picture_rows, fd_Picture_rows, mm_Picture_rows, b_Picture_rows, F_Picture_rows⟩ := (has_Picture_rows (P := P) (w := w) (base := base) T).ex
  obtain ⟨f_iP, fd_iP, mkP, b_iP, F_iP⟩ := (has_Picture_init (P := P) (w := w) (base := base) T).ex
  refine F0.ok sc_law (fun vs H Q E h => by
    repeat (obtain ⟨_, h⟩ := h)
    subst_vars
    rfl) fun cdv A outer s H vs Q E hr h => ?_
  obtain ⟨a, xs, rfl, hx, hi, q⟩ := h
  refine ⟨_, (pss_cons (ps_set (i := 1) sc_law.nd rfl (by first | exact .inl rfl | exact .inr rfl) (pe_has G_l_tiny (hr.mono (by decide)) (pa_cons (pe_has G_l_cell (hr.mono (by decide)) (pa_cons (pv 0) (pa_cons pe_int pa_nil))) pa_nil)))
      (pss_cons (ps_set (i := 2) sc_law.nd rfl (by first | exact .inl rfl | exact .inr rfl) (pe_has G_l_frame (hr.mono (by decide)) (pa_cons (pv 1) pa_nil)))
      (pss_cons (ps_set (i := 3) sc_law.nd rfl (by first | exact .inl rfl | exact .inr rfl) (pe_has G_l_values (hr.mono (by decide)) (pa_cons (pe_has G_l_cell (hr.mono (by decide)) (pa_cons (pv 0) (pa_cons pe_int pa_nil))) (pa_cons (pv 1) pa_nil))))
      (pss_cons (ps_set (i := 4) sc_law.nd rfl (by first | exact .inl rfl | exact .inr rfl) (pe_has G_l_picture (hr.mono (by decide)) (pa_cons (pv 1) (pa_cons (pv 3) pa_nil))))
      (pss_cons (ps_set (i := 5) sc_law.nd rfl (by first | exact .inl rfl | exact .inr rfl) (pe_has G_l_order (hr.mono (by decide)) (pa_cons (pv 1) (pa_cons (pe_has G_l_tiles (hr.mono (by decide)) (pa_cons (pv 1) pa_nil)) pa_nil))))
      (pss_cons (ps_set (i := 6) sc_law.nd rfl (by first | exact .inl rfl | exact .inr rfl) (pe_has G_l_cut (hr.mono (by decide)) (pa_cons (pv 2) (pa_cons (pv 4) (pa_cons (pv 5) (pa_cons (pe_has G_l_numbers (hr.mono (by decide)) (pa_cons (pe_has G_l_cell (hr.mono (by decide)) (pa_cons (pv 0) (pa_cons pe_int pa_nil))) (pa_cons (pe_callB call_len rfl T.n_len boot_len (pa_cons (pv 5) pa_nil)) (pa_cons pe_int pa_nil)))) pa_nil))))))
      (pss_cons (ps_set (i := 7) sc_law.nd rfl (by first | exact .inl rfl | exact .inr rfl) (pe_has G_request (hr.mono (by decide)) (pa_cons (pv 6) (pa_cons (pe_has G_l_regions (hr.mono (by decide)) (pa_cons (pe_has G_l_cell (hr.mono (by decide)) (pa_cons (pv 0) (pa_cons pe_int pa_nil))) (pa_cons (pv 1) pa_nil))) pa_nil))))
      (pss_cons (ps_set (i := 8) sc_law.nd rfl (by first | exact .inl rfl | exact .inr rfl) (pe_callTy (call_listK (K := K) rfl) rfl T.n_list (by decide +kernel) (pa_cons (pv 7) pa_nil)))
      (pss_cons (ps_set (i := 9) sc_law.nd rfl (by first | exact .inl rfl | exact .inr rfl) (pe_has G_remainder (hr.mono (by decide)) (pa_cons (pv 2) (pa_cons (pv 4) (pa_cons (pv 8) pa_nil)))))
      (pss_cons (ps_if (PW.pt (pw_or (pt_not (pt_val (pe_callB call_isi rfl T.n_isinstance (by decide +kernel) (pa_cons (pv 9) (pa_cons (pe_bltn (v := V.ty "str") (u := .type "str") rfl T.n_str (by decide +kernel) rfl) pa_nil))))) (pw_or (pt_cmpR (op_neD hr.units) (pv 8) (pv 7) (nomark _)) (pw_or1 (pt_cmpR op_ne (pe_callB call_len_str rfl T.n_len boot_len (pa_cons (pv 9) pa_nil)) (pe_has G_remainder_length (hr.mono (by decide)) (pa_cons (pv 6) pa_nil)) (nomark _)))))) (pss_one (ps_ret pe_bl)) pss_nil)
      (pss_cons (ps_if (pt_cmpR op_gt (pe_callB call_len rfl T.n_len boot_len (pa_cons (pe_lc (own := [("_law_sign", 10)]) rfl sc_law.nd (pi_str (pv 9)) (blkOk_by (N := ["_law_script", "_law_sizes", "_law_frame_here", "_law_values_here", "_law_picture_here", "_law_keys", "_law_arrived", "_law_asked", "_law_passed", "_law_digits", "_law_sign", "_law_there", "_law_back", "_law_beyond", "_law_key"]) (sc := defScope s_law) (by decide +kernel)) (fun _ _ _ _ _ => by exact (pg_name (i := 10) sc_law.nd rfl (by first | exact .inl rfl | exact .inr rfl))) (fun _ _ _ _ _ => by exact (pts_one (pt_cmpR op_notIn_sign (pv 10) pe_str rfl))) (fun _ _ _ _ _ => by exact (pv 10))) pa_nil)) pe_int (nomark _)) (pss_one (ps_ret pe_bl)) pss_nil)
      (pss_cons (ps_set (i := 11) sc_law.nd rfl (by first | exact .inl rfl | exact .inr rfl) (pe_meth0 (pv 6) T.clA mm_Arrived_packets F_Arrived_packets (hr.mono (by decide)) b_Arrived_packets .nil pass0))
      (pss_cons (ps_set (i := 12) sc_law.nd rfl (by first | exact .inl rfl | exact .inr rfl) (pe_has G_finish (hr.mono (by decide)) (pa_cons (pv 6) (pa_cons (pv 9) pa_nil))))
      (pss_cons (ps_if (PW.pt (pw_or (pt_cmpR op_isN (pv 12) pe_non (nomark _)) (pw_or (pt_cmpR op_notBl (pe_meth (pv 12) T.clP mm_Picture_same F_Picture_same (hr.mono (by decide)) b_Picture_same .nil pass0 (pa_cons (pv 4) pa_nil)) pe_bl (nomark _)) (pw_or (pt_cmpR (op_neD hr.units) (pe_meth0 (pv 12) T.clP mm_Picture_rows F_Picture_rows (hr.mono (by decide)) b_Picture_rows .nil pass0) (pv 3) (nomark _)) (pw_or1 (pt_cmpR (op_neD hr.units) (pe_meth0 (pv 6) T.clA mm_Arrived_packets F_Arrived_packets (hr.mono (by decide)) b_Arrived_packets .nil pass0) (pv 11) (nomark _))))))) (pss_one (ps_ret pe_bl)) pss_nil)
      (pss_cons (ps_setLc (own := [("_law_key", 14)]) (i := 13) rfl sc_law.nd rfl rfl (sw_true rfl rfl rfl (by decide +kernel)) (pi_list (pv 5)) (blkOk_by (N := ["_law_script", "_law_sizes", "_law_frame_here", "_law_values_here", "_law_picture_here", "_law_keys", "_law_arrived", "_law_asked", "_law_passed", "_law_digits", "_law_sign", "_law_there", "_law_back", "_law_beyond", "_law_key"]) (sc := defScope s_law) (by decide +kernel)) (fun _ _ _ _ _ => by exact (pg_name (i := 14) sc_law.nd rfl (by first | exact .inl rfl | exact .inr rfl))) (fun _ _ _ _ _ => by exact pts_nil) (fun _ _ _ _ _ => by exact (pe_tup (pa_cons (pv 14) (pa_cons pe_int pa_nil)))))
      (pss_cons (ps_if (PW.pt (pw_or (pt_cmpR op_ne (pe_has G_remainder (hr.mono (by decide)) (pa_cons (pv 2) (pa_cons (pv 4) (pa_cons (pv 13) pa_nil)))) pe_str (nomark _)) (pw_or1 (pt_cmpR op_ne (pe_has G_remainder (hr.mono (by decide)) (pa_cons (pv 2) (pa_cons (pv 4) (pa_cons (pe_lst pa_nil) pa_nil)))) pe_str (nomark _))))) (pss_one (ps_ret pe_bl)) pss_nil)
      (pss_cons (ps_if (pt_cmpR op_ne (pe_has G_l_refused (hr.mono (by decide)) (pa_cons (pv 2) (pa_cons (pe_make mkP F_iP (hr.mono (by decide)) rfl T.gP b_iP .nil pass0 (pa_cons pe_int (pa_cons pe_int (pa_cons (pe_op op_add pe_int (pe_op op_mod (pe_ix ix_list (pv 1) pe_int (fun _ _ => rfl)) pe_int)) (pa_cons pe_int (pa_cons (pe_lst (pa_cons (pe_lst (pa_cons pe_int pa_nil)) pa_nil)) pa_nil)))))) (pa_cons (pe_lst (pa_cons (pe_tup (pa_cons (pe_tup (pa_cons pe_int (pa_cons pe_int (pa_cons (pe_un un_neg pe_int) pa_nil)))) (pa_cons pe_int pa_nil))) pa_nil)) pa_nil)))) pe_str (nomark _)) (pss_one (ps_ret pe_bl)) pss_nil)
      (pss_one (ps_ret (pe_and (pe_cmpR op_eq (pe_has G_l_refused (hr.mono (by decide)) (pa_cons (pv 2) (pa_cons (pv 4) (pa_cons (pe_op op_cat (pv 7) (pe_lst (pa_cons (pe_tup (pa_cons (pe_tup (pa_cons pe_int (pa_cons pe_int (pa_cons (pe_ix ix_list (pv 1) pe_int (fun _ _ => rfl)) pa_nil)))) (pa_cons pe_int pa_nil))) pa_nil))) pa_nil)))) pe_str (nomark _)) (pe_one (pe_cmpR (op_eqD hr.units) (pe_meth0 (pv 4) T.clP mm_Picture_rows F_Picture_rows (hr.mono (by decide)) b_Picture_rows .nil pass0) (pv 3) (nomark _))))))))))))))))))))))), ?_⟩
  simp only [tSeq, tAsg, tRet, tIfS, tTest, tOp, tUn, tVar, tC, tCons, tNil, tCB, tHas, gName, rI0, rI, rU, tNext, tNot, tAnd, tOr, tChain, tIf, tB, tNever, tRetN, tDrop, tTup, tLst, tMeth, tMake, tM0, tM1, tBits, tTruI, tBM, gSub, tSl, tNoPart, tPart, gcE, gnE, bs_length, tListRevR, tRg1, tFldE, sFldE, tPar3, cxK, nxK, List.append_nil, L2.start, List.map_cons, List.map_nil, List.length_cons, List.length_nil, List.replicate, List.cons_append, List.nil_append, List.getElem?_cons_zero, List.getElem?_cons_succ, List.set_cons_zero, List.set_cons_succ, Option.some.injEq, V.int.injEq, V.bl.injEq, V.str.injEq, V.ref.injEq, exists_eq_left', exists_eq_left, exists_and_left, List.cons.injEq, and_true, true_and, eq_self_iff_true, Nat.reduceAdd, Nat.reduceSub, Nat.zero_add, rEqI, rNeI, tAndV, tOrV, tNotV, natI, tDGet, tDIn, tDNotIn, sDPut, tDGet2, tDNewT, tDNewK, tDSetd, tCKw]
  refine ⟨a, xs, 0, rfl, hx, hi, fun i0 => ⟨i0, rfl, fun sz H1 F hsz e1 hsz1 ok => ?_⟩⟩
  simp only [tSeq, tAsg, tRet, tIfS, tTest, tOp, tUn, tVar, tC, tCons, tNil, tCB, tHas, gName, rI0, rI, rU, tNext, tNot, tAnd, tOr, tChain, tIf, tB, tNever, tRetN, tDrop, tTup, tLst, tMeth, tMake, tM0, tM1, tBits, tTruI, tBM, gSub, tSl, tNoPart, tPart, gcE, gnE, bs_length, tListRevR, tRg1, tFldE, sFldE, tPar3, cxK, nxK, List.append_nil, L2.start, List.map_cons, List.map_nil, List.length_cons, List.length_nil, List.replicate, List.cons_append, List.nil_append, List.getElem?_cons_zero, List.getElem?_cons_succ, List.set_cons_zero, List.set_cons_succ, Option.some.injEq, V.int.injEq, V.bl.injEq, V.str.injEq, V.ref.injEq, exists_eq_left', exists_eq_left, exists_and_left, List.cons.injEq, and_true, true_and, eq_self_iff_true, Nat.reduceAdd, Nat.reduceSub, Nat.zero_add, rEqI, rNeI, tAndV, tOrV, tNotV, natI, tDGet, tDIn, tDNotIn, sDPut, tDGet2, tDNewT, tDNewK, tDSetd, tCKw]
  refine ⟨sz, F, rfl, hsz1, ok, fun fr H2 hfr e2 hF => ?_⟩
  have hx2 := ex_l (e1.trans e2) hx
  simp only [tSeq, tAsg, tRet, tIfS, tTest, tOp, tUn, tVar, tC, tCons, tNil, tCB, tHas, gName, rI0, rI, rU, tNext, tNot, tAnd, tOr, tChain, tIf, tB, tNever, tRetN, tDrop, tTup, tLst, tMeth, tMake, tM0, tM1, tBits, tTruI, tBM, gSub, tSl, tNoPart, tPart, gcE, gnE, bs_length, tListRevR, tRg1, tFldE, sFldE, tPar3, cxK, nxK, List.append_nil, L2.start, List.map_cons, List.map_nil, List.length_cons, List.length_nil, List.replicate, List.cons_append, List.nil_append, List.getElem?_cons_zero, List.getElem?_cons_succ, List.set_cons_zero, List.set_cons_succ, Option.some.injEq, V.int.injEq, V.bl.injEq, V.str.injEq, V.ref.injEq, exists_eq_left', exists_eq_left, exists_and_left, List.cons.injEq, and_true, true_and, eq_self_iff_true, Nat.reduceAdd, Nat.reduceSub, Nat.zero_add, rEqI, rNeI, tAndV, tOrV, tNotV, natI, tDGet, tDIn, tDNotIn, sDPut, tDGet2, tDNewT, tDNewK, tDSetd, tCKw]
  refine ⟨a, xs, 1, rfl, hx2, hi, fun i1 => ⟨i1, sz, F, rfl, e2 _ _ hsz1, ok, fun vl H3 vx rows hvl e3 hvl3 hrows hrl hrv => ?_⟩⟩
  let p : Pic := ⟨F.W, F.Hh, F.D, F.C, rows⟩
  have hb := ok.b
  have okp : p.ok := ⟨ok.1, ok.2.1, by show 1 ≤ F.D ∧ F.D ≤ 8; omega, ok.2.2.2.1, hrl, hrv⟩
  have fits : Fits F p := ⟨rfl, rfl, rfl, rfl⟩
  simp only [tSeq, tAsg, tRet, tIfS, tTest, tOp, tUn, tVar, tC, tCons, tNil, tCB, tHas, gName, rI0, rI, rU, tNext, tNot, tAnd, tOr, tChain, tIf, tB, tNever, tRetN, tDrop, tTup, tLst, tMeth, tMake, tM0, tM1, tBits, tTruI, tBM, gSub, tSl, tNoPart, tPart, gcE, gnE, bs_length, tListRevR, tRg1, tFldE, sFldE, tPar3, cxK, nxK, List.append_nil, L2.start, List.map_cons, List.map_nil, List.length_cons, List.length_nil, List.replicate, List.cons_append, List.nil_append, List.getElem?_cons_zero, List.getElem?_cons_succ, List.set_cons_zero, List.set_cons_succ, Option.some.injEq, V.int.injEq, V.bl.injEq, V.str.injEq, V.ref.injEq, exists_eq_left', exists_eq_left, exists_and_left, List.cons.injEq, and_true, true_and, eq_self_iff_true, Nat.reduceAdd, Nat.reduceSub, Nat.zero_add, rEqI, rNeI, tAndV, tOrV, tNotV, natI, tDGet, tDIn, tDNotIn, sDPut, tDGet2, tDNewT, tDNewK, tDSetd, tCKw]
  refine ⟨sz, vl, p, F, vx, rfl, (e2.trans e3) _ _ hsz1, fits, okp, hvl3, hrows, fun pi H4 hpi e4 hP => ?_⟩
  simp only [tSeq, tAsg, tRet, tIfS, tTest, tOp, tUn, tVar, tC, tCons, tNil, tCB, tHas, gName, rI0, rI, rU, tNext, tNot, tAnd, tOr, tChain, tIf, tB, tNever, tRetN, tDrop, tTup, tLst, tMeth, tMake, tM0, tM1, tBits, tTruI, tBM, gSub, tSl, tNoPart, tPart, gcE, gnE, bs_length, tListRevR, tRg1, tFldE, sFldE, tPar3, cxK, nxK, List.append_nil, L2.start, List.map_cons, List.map_nil, List.length_cons, List.length_nil, List.replicate, List.cons_append, List.nil_append, List.getElem?_cons_zero, List.getElem?_cons_succ, List.set_cons_zero, List.set_cons_succ, Option.some.injEq, V.int.injEq, V.bl.injEq, V.str.injEq, V.ref.injEq, exists_eq_left', exists_eq_left, exists_and_left, List.cons.injEq, and_true, true_and, eq_self_iff_true, Nat.reduceAdd, Nat.reduceSub, Nat.zero_add, rEqI, rNeI, tAndV, tOrV, tNotV, natI, tDGet, tDIn, tDNotIn, sDPut, tDGet2, tDNewT, tDNewK, tDSetd, tCKw]
  refine ⟨sz, F, rfl, ((e2.trans e3).trans e4) _ _ hsz1, ok, ?_⟩
  simp only [tSeq, tAsg, tRet, tIfS, tTest, tOp, tUn, tVar, tC, tCons, tNil, tCB, tHas, gName, rI0, rI, rU, tNext, tNot, tAnd, tOr, tChain, tIf, tB, tNever, tRetN, tDrop, tTup, tLst, tMeth, tMake, tM0, tM1, tBits, tTruI, tBM, gSub, tSl, tNoPart, tPart, gcE, gnE, bs_length, tListRevR, tRg1, tFldE, sFldE, tPar3, cxK, nxK, List.append_nil, L2.start, List.map_cons, List.map_nil, List.length_cons, List.length_nil, List.replicate, List.cons_append, List.nil_append, List.getElem?_cons_zero, List.getElem?_cons_succ, List.set_cons_zero, List.set_cons_succ, Option.some.injEq, V.int.injEq, V.bl.injEq, V.str.injEq, V.ref.injEq, exists_eq_left', exists_eq_left, exists_and_left, List.cons.injEq, and_true, true_and, eq_self_iff_true, Nat.reduceAdd, Nat.reduceSub, Nat.zero_add, rEqI, rNeI, tAndV, tOrV, tNotV, natI, tDGet, tDIn, tDNotIn, sDPut, tDGet2, tDNewT, tDNewK, tDSetd, tCKw]
  refine ⟨sz, F, rfl, ((e2.trans e3).trans e4) _ _ hsz1, ok, fun kl H5 ks hkl e5 hkl5 hks => ?_⟩
  have e25 := ((e2.trans e3).trans e4).trans e5
  simp only [tSeq, tAsg, tRet, tIfS, tTest, tOp, tUn, tVar, tC, tCons, tNil, tCB, tHas, gName, rI0, rI, rU, tNext, tNot, tAnd, tOr, tChain, tIf, tB, tNever, tRetN, tDrop, tTup, tLst, tMeth, tMake, tM0, tM1, tBits, tTruI, tBM, gSub, tSl, tNoPart, tPart, gcE, gnE, bs_length, tListRevR, tRg1, tFldE, sFldE, tPar3, cxK, nxK, List.append_nil, L2.start, List.map_cons, List.map_nil, List.length_cons, List.length_nil, List.replicate, List.cons_append, List.nil_append, List.getElem?_cons_zero, List.getElem?_cons_succ, List.set_cons_zero, List.set_cons_succ, Option.some.injEq, V.int.injEq, V.bl.injEq, V.str.injEq, V.ref.injEq, exists_eq_left', exists_eq_left, exists_and_left, List.cons.injEq, and_true, true_and, eq_self_iff_true, Nat.reduceAdd, Nat.reduceSub, Nat.zero_add, rEqI, rNeI, tAndV, tOrV, tNotV, natI, tDGet, tDIn, tDNotIn, sDPut, tDGet2, tDNewT, tDNewK, tDSetd, tCKw]
  refine ⟨a, xs, 2, rfl, ex_l (e1.trans e25) hx, hi, fun i2 => ?_⟩
  have hkb := F.keys_len ok
  have hksl := hks.length
  simp only [tSeq, tAsg, tRet, tIfS, tTest, tOp, tUn, tVar, tC, tCons, tNil, tCB, tHas, gName, rI0, rI, rU, tNext, tNot, tAnd, tOr, tChain, tIf, tB, tNever, tRetN, tDrop, tTup, tLst, tMeth, tMake, tM0, tM1, tBits, tTruI, tBM, gSub, tSl, tNoPart, tPart, gcE, gnE, bs_length, tListRevR, tRg1, tFldE, sFldE, tPar3, cxK, nxK, List.append_nil, L2.start, List.map_cons, List.map_nil, List.length_cons, List.length_nil, List.replicate, List.cons_append, List.nil_append, List.getElem?_cons_zero, List.getElem?_cons_succ, List.set_cons_zero, List.set_cons_succ, Option.some.injEq, V.int.injEq, V.bl.injEq, V.str.injEq, V.ref.injEq, exists_eq_left', exists_eq_left, exists_and_left, List.cons.injEq, and_true, true_and, eq_self_iff_true, Nat.reduceAdd, Nat.reduceSub, Nat.zero_add, rEqI, rNeI, tAndV, tOrV, tNotV, natI, tDGet, tDIn, tDNotIn, sDPut, tDGet2, tDNewT, tDNewK, tDSetd, tCKw]
  refine ⟨_, lenL (sq_of hkl5), i2, ks.length, 960, rfl, by omega, by decide, by decide, fun pk H6 ns hpk e6 hpk6 hnl _ => ?_⟩
  have e26 := e25.trans e6
  try dsimp only
  refine ⟨fr, pi, kl, pk, F, p, ks, ns, rfl, hF.mono (((e3.trans e4).trans e5).trans e6), hP.mono (e5.trans e6), fits, ok, okp, e6 _ _ hkl5, hks.mono e6, hpk6, by rw [hnl, hksl], fun ar ad H7 m fk har e7 hA hm => ?_⟩
  have e27 := e26.trans e7
  have mok := mok_of ok hm
  try dsimp only
  refine ⟨a, xs, 3, rfl, ex_l (e1.trans e27) hx, hi, fun i3 => ?_⟩
  try dsimp only
  refine ⟨i3, sz, F, rfl, e27 _ _ hsz1, ok, fun rg H8 hrg e8 hR => ?_⟩
  try dsimp only
  refine ⟨ar, rg, ad, fr, F, m, rfl, hA.mono e8, ok, mok.d, hR, fun rq H9 es hrq e9 hRq hnd hel hes => ?_⟩
  obtain ⟨rxs, hrx, hre⟩ := id hRq
  try dsimp only
  refine listS (sq_of hrx) fun ps hps => ?_
  have e10 := Ex.new (o := .lst rxs) hps
  have e30 := ((e27.trans e8).trans e9).trans e10
  have e3x := (((((e3.trans e4).trans e5).trans e6).trans e7).trans e8).trans (e9.trans e10)
  have e5x := (((e5.trans e6).trans e7).trans e8).trans (e9.trans e10)
  have hRps : ReqAt (upd H9 ps (.lst rxs)) ps es := ⟨rxs, upd_same, All2.mono (fun _ _ r => r.mono e10) hre⟩
  have hesr : ∀ e ∈ es, InR F e.1 ∧ e.2 ≤ 65535 := fun e he => by
    obtain ⟨h1, h2, h3⟩ := (hes e.1 e.2).mp he
    have := (mok.d e.1 h1).1
    exact ⟨h1, by omega⟩
  try dsimp only
  refine ⟨fr, pi, ps, F, p, es, rfl, hF.mono e3x, hP.mono e5x, fits, ok, okp, hRps, hnd, hel, hesr, fun m' H11 e11 hm' => ?_⟩
  obtain ⟨s1, s2⟩ := same_num ok hm hnd hes hm'
  rw [s1, s2]
  generalize hD : digT (numN F m p F.keys) (bitLen (cpM F m - 1)) = D
  try dsimp only
  refine ⟨_, _, .type "str", .type "str", true, rfl, .ty "str", .base ?_, kit_ty (by decide +kernel), _, rfl, ?_⟩
  · exact TyOf.str _
  rw [if_neg (by decide)]
  have e31 := e30.trans e11
  have e3y := e3x.trans e11
  have e5y := e5x.trans e11
  have hA11 := hA.mono (((e8.trans e9).trans e10).trans e11)
  obtain ⟨v1, v2⟩ := req_all es
  refine ⟨_, _, req_dp (hRps.mono e11), req_dp (hRq.mono (e10.trans e11)), v2, v2, _, rfl, ?_⟩
  rw [v1, if_neg (by decide)]
  have hDl : D.length = bitLen (cpM F m - 1) := by rw [← hD, digT_len]
  have hcb := (cp_bits ok mok.ch).1
  refine ⟨_, rfl, by rw [bs_length]; exact sz_of (by omega), ar, ad, fr, F, m, rfl, hA11, ok, mok.d, mok.ch, fun H12 e12 => ?_⟩
  try dsimp only
  rw [rNeI, bs_length, hDl]
  refine ⟨_, rfl, ?_⟩
  rw [if_neg (by simp)]
  refine lc_none (l := D) (fun Q q => ⟨_, rfl, q⟩) (fun _ => rfl) (fun b H1 R hR => ?_) fun en H13 hen e13 hen13 => ?_
  · simp only [wipe, List.set_cons_zero, List.set_cons_succ, List.foldl_cons, List.foldl_nil]
    simp only [tSeq, tAsg, tRet, tIfS, tTest, tOp, tUn, tVar, tC, tCons, tNil, tCB, tHas, gName, rI0, rI, rU, tNext, tNot, tAnd, tOr, tChain, tIf, tB, tNever, tRetN, tDrop, tTup, tLst, tMeth, tMake, tM0, tM1, tBits, tTruI, tBM, gSub, tSl, tNoPart, tPart, gcE, gnE, bs_length, tListRevR, tRg1, tFldE, sFldE, tPar3, cxK, nxK, List.append_nil, L2.start, List.map_cons, List.map_nil, List.length_cons, List.length_nil, List.replicate, List.cons_append, List.nil_append, List.getElem?_cons_zero, List.getElem?_cons_succ, List.set_cons_zero, List.set_cons_succ, Option.some.injEq, V.int.injEq, V.bl.injEq, V.str.injEq, V.ref.injEq, exists_eq_left', exists_eq_left, exists_and_left, List.cons.injEq, and_true, true_and, eq_self_iff_true, Nat.reduceAdd, Nat.reduceSub, Nat.zero_add, rEqI, rNeI, tAndV, tOrV, tNotV, natI, tDGet, tDIn, tDNotIn, sDPut, tDGet2, tDNewT, tDNewK, tDSetd, tCKw]
    refine ⟨_, rfl, ?_⟩
    have e : (!decide ((if b then 49 else 48) ∈ (Str.ofString "01").cps.toList)) = false := by cases b <;> decide +kernel
    rw [e]
    exact hR
  try dsimp only
  refine ⟨_, lenL (sq_of hen13), ?_⟩
  rw [if_neg (by decide)]
  have hA13 := hA11.mono (e12.trans e13)
  have hA13' := hA13
  obtain ⟨⟨dxa, ha1⟩, ha2, ha3⟩ := hA13'
  refine ⟨ar, rfl, dxa, fsA fr ad, ha1, rfl, ar, ad, fr, F, m, rfl, hA13, ok, fun pa1 H14 ents1 hpa1 e14 hpa1x hE1 => ?_⟩
  have hA14 := hA13.mono e14
  try dsimp only
  refine ⟨ar, ad, fr, F, m, p, by rw [hD], hA14, ok, okp, fits, mok, fun bk H15 hbk e15 hB => ?_⟩
  have hA15 := hA14.mono e15
  obtain ⟨dxb, rb, xb, hb1, hb2, hb3⟩ := id hB
  have e5z := ((e5y.trans e12).trans e13).trans (e14.trans e15)
  have e3z := ((e3y.trans e12).trans e13).trans (e14.trans e15)
  have e31z := ((e31.trans e12).trans e13).trans (e14.trans e15)
  try dsimp only
  rw [if_neg (by simp)]
  refine ⟨bk, rfl, dxb, fsP p rb, hb1, rfl, bk, pi, p, rfl, hB, hP.mono e5z, by show rows.length ≤ 10; omega, fun H16 e16 => ?_⟩
  have hA16 := hA15.mono e16
  try dsimp only
  refine ⟨true, true, rfl, rfl, _, rfl, ?_⟩
  rw [if_neg (by decide)]
  have hB16 := hB.mono e16
  obtain ⟨dxc, rc, xc, hc1, hc2, hc3⟩ := id hB16
  refine ⟨bk, rfl, dxc, fsP p rc, hc1, rfl, bk, p, rfl, hB16, by show rows.length ≤ 10; omega, fun rl H17 rys hrl0 e17 hrl17 hrys => ?_⟩
  have hA17 := hA16.mono e17
  obtain ⟨r1, r2⟩ := rows_all rows
  have e3w := (e3z.trans e16).trans e17
  have e5w := (e5z.trans e16).trans e17
  have e31w := (e31z.trans e16).trans e17
  have e4w : Ex H4 H17 := e5.trans (by
    have : Ex H5 H17 := ((((((e6.trans e7).trans e8).trans (e9.trans e10)).trans e11).trans (e12.trans e13)).trans (e14.trans e15)).trans (e16.trans e17)
    exact this)
  have e3v : Ex H3 H17 := e4.trans e4w
  try dsimp only
  refine ⟨_, _, rows_dp hrl17 hrys, rows_dp (e3v _ _ hvl3) (hrows.mono e3v), r2, r2, _, rfl, ?_⟩
  rw [r1, if_neg (by decide)]
  obtain ⟨⟨dxd, hd1⟩, hd2, hd3⟩ := id hA17
  refine ⟨ar, rfl, dxd, fsA fr ad, hd1, rfl, ar, ad, fr, F, m, rfl, hA17, ok, fun pa2 H18 ents2 hpa2 e18 hpa2x hE2 => ?_⟩
  obtain ⟨n1, n2⟩ := ent_all m (F.ents m) fun k hk => (mok.d k (Fr.mem_keys.mp (List.mem_filter.mp hk).1)).1
  have e14w : Ex H14 H18 := (e15.trans e16).trans (e17.trans e18)
  try dsimp only
  refine ⟨_, _, ent_dp hpa2x hE2, ent_dp (e14w _ _ hpa1x) (All2.mono (fun _ _ r => by
    obtain ⟨x, y, h1, h2, h3⟩ := r
    exact ⟨x, y, h1, e14w _ _ h2, e14w _ _ h3⟩) hE1), n2, n2, _, rfl, ?_⟩
  rw [n1, if_neg (by decide)]
  have e5v : Ex H5 H18 := ((((((e6.trans e7).trans e8).trans (e9.trans e10)).trans e11).trans (e12.trans e13)).trans (e14.trans e15)).trans ((e16.trans e17).trans e18)
  have kget : ∀ {i x}, ks[i]? = some x → KeyAt H18 x (F.keys.getD i default) := fun {i x} hx => by
    obtain ⟨k, hk, r⟩ := All2.get hks hx
    have e : F.keys.getD i default = k := by simp [hk]
    rw [e]
    exact r.mono e5v
  refine lo_list (a := kl) (xs := ks) (fun Q q => ⟨_, rfl, q⟩) (sq_of (e5v _ _ hkl5)) (by omega) (fun i => .tup [ks.getD i .non, .int 65535]) (fun _ => rfl) (fun i x H1 R hx e1 hR => ?_) fun by1 H19 bys hby e19 hby19 hbys => ?_
  · simp only [wipe, List.set_cons_zero, List.set_cons_succ, List.foldl_cons, List.foldl_nil]
    simp only [tSeq, tAsg, tRet, tIfS, tTest, tOp, tUn, tVar, tC, tCons, tNil, tCB, tHas, gName, rI0, rI, rU, tNext, tNot, tAnd, tOr, tChain, tIf, tB, tNever, tRetN, tDrop, tTup, tLst, tMeth, tMake, tM0, tM1, tBits, tTruI, tBM, gSub, tSl, tNoPart, tPart, gcE, gnE, bs_length, tListRevR, tRg1, tFldE, sFldE, tPar3, cxK, nxK, List.append_nil, L2.start, List.map_cons, List.map_nil, List.length_cons, List.length_nil, List.replicate, List.cons_append, List.nil_append, List.getElem?_cons_zero, List.getElem?_cons_succ, List.set_cons_zero, List.set_cons_succ, Option.some.injEq, V.int.injEq, V.bl.injEq, V.str.injEq, V.ref.injEq, exists_eq_left', exists_eq_left, exists_and_left, List.cons.injEq, and_true, true_and, eq_self_iff_true, Nat.reduceAdd, Nat.reduceSub, Nat.zero_add, rEqI, rNeI, tAndV, tOrV, tNotV, natI, tDGet, tDIn, tDNotIn, sDPut, tDGet2, tDNewT, tDNewK, tDSetd, tCKw]
    have hxg : ks.getD i .non = x := by simp [hx]
    rw [hxg] at hR
    exact ⟨by decide, fun p hp => hR p _ hp (Ex.new hp) upd_same⟩
  try dsimp only
  let es2 : Req := F.keys.map fun k => (k, 65535)
  have hR2 : ReqAt H19 by1 es2 := by
    refine ⟨bys, hby19, ?_⟩
    have e : es2 = ((List.range ks.length).map fun i => ((F.keys.getD i default, 65535) : Key × Nat)) := by
      rw [hksl]
      exact (range_getF F.keys default (fun k => ((k, 65535) : Key × Nat))).symm
    rw [e]
    refine all2_conv hbys fun i hi v hv => ?_
    have hi2 : i < ks.length := List.mem_range.mp hi
    obtain ⟨ka, hka0, hka⟩ := kget (List.getElem?_eq_getElem hi2)
    obtain ⟨a2, rfl, ha2⟩ := hv
    have hxg : ks.getD i .non = .ref ka := by simp [hi2, hka0]
    rw [hxg] at ha2
    exact ⟨a2, ka, rfl, ha2, e19 _ _ hka⟩
  have fst2 : es2.map (·.1) = F.keys := by
    show (F.keys.map fun k => ((k, 65535) : Key × Nat)).map (·.1) = F.keys
    rw [List.map_map]
    exact List.map_id' _
  have e4t : Ex H4 H19 := (e4w.trans e18).trans e19
  have e2t : Ex H2 H19 := (e3.trans e4).trans e4t
  have hcl12 : ∀ k, InR F k → (pcM F p k).length ≤ 12 := fun k hk => (pk_of ok hk).1
  refine ⟨fr, pi, by1, F, p, es2, rfl, hF.mono e2t, hP.mono e4t, fits, ok, okp, hR2, by rw [fst2]; exact F.keys_nd, by simp [es2]; omega, fun e he => by
    obtain ⟨k, hk, rfl⟩ := List.mem_map.mp he
    exact ⟨Fr.mem_keys.mp hk, Nat.le_refl _⟩, fun m2 H20 e20 hm2 => ?_⟩
  have w2 := whole_num ok (m' := m2) fun k hk => by
    rw [hm2 k hk]
    have hg : getG es2 k = some 65535 := getG_mem (by rw [fst2]; exact F.keys_nd) (List.mem_map.mpr ⟨k, Fr.mem_keys.mpr hk, rfl⟩)
    rw [hg]
    exact List.take_of_length_le (by have := hcl12 k hk; show _ ≤ 65535; omega)
  have hb0 : bs (digT 0 (bitLen (1 - 1))) = Str.ofString "" := by decide +kernel
  rw [w2.1, w2.2, hb0]
  try dsimp only
  refine ⟨rfl, _, rfl, ?_⟩
  rw [if_neg (by decide +kernel)]
  refine ⟨by decide, fun nl hnl0 => ?_⟩
  have e2u := (e2t.trans e20).trans (Ex.new (o := .lst []) hnl0)
  have e4u := (e4t.trans e20).trans (Ex.new (o := .lst []) hnl0)
  refine ⟨fr, pi, nl, F, p, [], rfl, hF.mono e2u, hP.mono e4u, fits, ok, okp, ⟨[], upd_same, .nil⟩, List.nodup_nil, Nat.zero_le _, fun _ h => absurd h List.not_mem_nil, fun m3 H21 e21 hm3 => ?_⟩
  have w3 := whole_num ok (m' := m3) fun k hk => by
    rw [hm3 k hk]
    exact List.take_length
  rw [w3.1, w3.2, hb0]
  try dsimp only
  refine ⟨rfl, _, rfl, ?_⟩
  rw [if_neg (by decide +kernel)]
  have e1t : Ex H1 H21 := (e2.trans e2u).trans e21
  refine ixL (j := 2) (v := .int (F.D : Int)) rfl (sq_of (e1t _ _ hsz1)) rfl ⟨_, rfl, by decide, by decide, fun q1 hq1 => ⟨by decide, fun q2 hq2 x1 d1 hx1 hd1' hne1 => ?_⟩⟩
  have e22 := (Ex.new (o := .lst [.int 0]) hq1).trans (Ex.new (o := .lst [.ref q1]) hq2)
  have hq12 : q1 ≠ q2 := ne_of_none (upd_same (H := H21) (a := q1) (o := .lst [.int 0])) hq2
  generalize hH22 : upd (upd H21 q1 (.lst [.int 0])) q2 (.lst [.ref q1]) = H22 at hx1 hd1' e22 ⊢
  have hq22 : H22 q2 = some (.lst [.ref q1]) := by rw [← hH22]; exact upd_same
  have hq12' : H22 q1 = some (.lst [.int 0]) := by rw [← hH22, upd_ne hq12]; exact upd_same
  have keep1 : ∀ b o, H22 b = some o → (upd (upd H22 d1 (.own x1)) x1 (.ins CP d1 [])) b = some o := fun b o ho => by
    rw [upd_ne (ne_of_none ho hx1), upd_ne (ne_of_none ho hd1')]
    exact ho
  let p1 : Pic := ⟨1, 1, 1 + F.D % 8, 1, [[0]]⟩
  have okp1 : p1.ok := ⟨⟨by show 1 ≤ 1; decide, by show 1 ≤ 4; decide⟩, ⟨by show 1 ≤ 1; decide, by show 1 ≤ 4; decide⟩, by show 1 ≤ 1 + F.D % 8 ∧ 1 + F.D % 8 ≤ 8; omega, .inl rfl, rfl, fun r hr0 => by
    obtain rfl := List.mem_singleton.mp hr0
    exact ⟨rfl, fun v hv => by
      obtain rfl := List.mem_singleton.mp hv
      exact Nat.pow_pos (by decide)⟩⟩
  have eD : (1 : Int) + (F.D : Int) % 8 = ((1 + F.D % 8 : Nat) : Int) := by omega
  rw [eD]
  refine ⟨x1, d1, p1, q2, [.ref q1], rfl, okp1, upd_same, keep1 _ _ hq22, .cons ⟨q1, rfl, keep1 _ _ hq12'⟩ .nil, fun H23 keep2 hP1 => ⟨rfl, by decide, fun t1 ht1 => ⟨by decide, fun t2 ht2 => ⟨by decide, fun t3 ht3 => ?_⟩⟩⟩⟩
  have e2223 : Ex H22 H23 := fun b o ho => keep2 b o (ne_of_none ho hx1) (keep1 b o ho)
  have e24 := ((Ex.new (o := .tup [.int 0, .int 0, .int (-1)]) ht1).trans (Ex.new (o := .tup [.ref t1, .int 0]) ht2)).trans (Ex.new (o := .lst [.ref t2]) ht3)
  have e2s := ((e2u.trans e21).trans e22).trans (e2223.trans e24)
  have e4s := ((e4u.trans e21).trans e22).trans (e2223.trans e24)
  refine ⟨fr, x1, t3, F, p1, rfl, hF.mono e2s, hP1.mono e24, ok, .inl ⟨fun f => ?_, fun H25 e25' => ?_⟩⟩
  · have : F.D = 1 + F.D % 8 := f.2.2.1
    omega
  try dsimp only
  refine ⟨rfl, _, rfl, ?_⟩
  rw [if_neg (by decide +kernel)]
  have e25t : Ex H1 H25 := (((e1t.trans e22).trans e2223).trans e24).trans e25'
  have e2r := e2s.trans e25'
  have e4r := e4s.trans e25'
  refine ixL (j := 2) (v := .int (F.D : Int)) rfl (sq_of (e25t _ _ hsz1)) rfl ⟨by decide, fun u1 hu1 => ⟨by decide, fun u2 hu2 => ⟨by decide, fun u3 hu3 => ?_⟩⟩⟩
  have f1 := Ex.new (o := .tup [.int 0, .int 0, .int (F.D : Int)]) hu1
  have f2 := Ex.new (o := .tup [.ref u1, .int 0]) hu2
  have f3 := Ex.new (o := .lst [.ref u2]) hu3
  have e9r : Ex H9 H25 := by
    have g1 : Ex H9 H15 := ((e10.trans e11).trans (e12.trans e13)).trans (e14.trans e15)
    have g2 : Ex H15 H19 := ((e16.trans e17).trans e18).trans e19
    have g3 : Ex H19 H21 := (e20.trans (Ex.new hnl0)).trans e21
    exact ((g1.trans g2).trans g3).trans (((e22.trans e2223).trans e24).trans e25')
  refine ⟨rq, u3, rxs, [.ref u2], rfl, rfl, ((e9r.trans f1).trans (f2.trans f3)) _ _ hrx, upd_same, ?_, fun u4 hu4 => ?_⟩
  · have := hre.length
    have h2 := sz_of (n := rxs.length + 1) (by omega)
    simpa using h2
  have f4 := Ex.new (o := .lst (rxs ++ [.ref u2])) hu4
  have fAll := (f1.trans (f2.trans f3)).trans f4
  have hu1' := ((f2.trans f3).trans f4) _ _ (upd_same (H := H25) (a := u1) (o := .tup [.int 0, .int 0, .int (F.D : Int)]))
  have hu2' := (f3.trans f4) _ _ (upd_same (a := u2) (o := .tup [.ref u1, .int 0]))
  refine ⟨fr, pi, u4, F, p, rfl, hF.mono (e2r.trans fAll), hP.mono (e4r.trans fAll), ok, .inr ⟨fits, u1, u2, es, rxs, 0, upd_same, All2.mono (fun _ _ r => r.mono (e9r.trans fAll)) hre, hu2', hu1', hnd, hel, hesr, fun H30 e30' => ?_⟩⟩
  try dsimp only
  refine ⟨rfl, _, rfl, ?_⟩
  rw [if_pos (by decide +kernel)]
  have e4q := (e4r.trans fAll).trans e30'
  obtain ⟨dxp, rp, xp, hp1', hp2', hp3'⟩ := hP.mono e4q
  refine ⟨dxp, fsP p rp, hp1', rfl, pi, p, rfl, hP.mono e4q, by show rows.length ≤ 10; omega, fun fl H31 fys hfl e31' hfl31 hfys => ?_⟩
  have e3q : Ex H3 H31 := (e4.trans e4q).trans e31'
  try dsimp only
  refine ⟨_, _, rows_dp hfl31 hfys, rows_dp (e3q _ _ hvl3) (hrows.mono e3q), r2, r2, ?_⟩
  rw [r1]
  exact q _
end
end PK


set_option maxHeartbeats 8000000
namespace PK
open PySem PySem.Spec PyProof.Rows L2
/-! ### the top -/
section
variable {K : PySem.W.Frag} {h : Heap} {mg : Str → Option Value}
theorem tp_d_check_width (X : K.In h) (G : h.Ns mainGlobals mg) (c : He.SaysD faL fnL K) : DefAt K mg "check_width" s_check_width ["width"] := by
  obtain ⟨fd, F⟩ := c.def_ 1 (d := d_check_width) rfl
  have F' := He5.fun_of (st := s_check_width) F
  exact ⟨_, fd, F', He.glo_ok X G (c.fact 0 (f := .glo "check_width") rfl), F'.binds (ps := ["width"]) fun _ _ _ _ _ _ us hl => match us, hl with | [_], _ => rfl⟩
theorem tp_d_check_bits (X : K.In h) (G : h.Ns mainGlobals mg) (c : He.SaysD faL fnL K) : DefAt K mg "check_bits" s_check_bits ["bits"] := by
  obtain ⟨fd, F⟩ := c.def_ 2 (d := d_check_bits) rfl
  have F' := He5.fun_of (st := s_check_bits) F
  exact ⟨_, fd, F', He.glo_ok X G (c.fact 1 (f := .glo "check_bits") rfl), F'.binds (ps := ["bits"]) fun _ _ _ _ _ _ us hl => match us, hl with | [_], _ => rfl⟩
theorem tp_d_check_code (X : K.In h) (G : h.Ns mainGlobals mg) (c : He.SaysD faL fnL K) : DefAt K mg "check_code" s_check_code ["code"] := by
  obtain ⟨fd, F⟩ := c.def_ 3 (d := d_check_code) rfl
  have F' := He5.fun_of (st := s_check_code) F
  exact ⟨_, fd, F', He.glo_ok X G (c.fact 2 (f := .glo "check_code") rfl), F'.binds (ps := ["code"]) fun _ _ _ _ _ _ us hl => match us, hl with | [_], _ => rfl⟩
theorem tp_d_context (X : K.In h) (G : h.Ns mainGlobals mg) (c : He.SaysD faL fnL K) : DefAt K mg "context" s_context ["width", "bits", "place"] := by
  obtain ⟨fd, F⟩ := c.def_ 4 (d := d_context) rfl
  have F' := He5.fun_of (st := s_context) F
  exact ⟨_, fd, F', He.glo_ok X G (c.fact 3 (f := .glo "context") rfl), F'.binds (ps := ["width", "bits", "place"]) fun _ _ _ _ _ _ us hl => match us, hl with | [_, _, _], _ => rfl⟩
theorem tp_d_shares (X : K.In h) (G : h.Ns mainGlobals mg) (c : He.SaysD faL fnL K) : DefAt K mg "shares" s_shares ["width", "bits", "place"] := by
  obtain ⟨fd, F⟩ := c.def_ 5 (d := d_shares) rfl
  have F' := He5.fun_of (st := s_shares) F
  exact ⟨_, fd, F', He.glo_ok X G (c.fact 4 (f := .glo "shares") rfl), F'.binds (ps := ["width", "bits", "place"]) fun _ _ _ _ _ _ us hl => match us, hl with | [_, _, _], _ => rfl⟩
theorem tp_d_interval (X : K.In h) (G : h.Ns mainGlobals mg) (c : He.SaysD faL fnL K) : DefAt K mg "interval" s_interval ["width", "bits"] := by
  obtain ⟨fd, F⟩ := c.def_ 6 (d := d_interval) rfl
  have F' := He5.fun_of (st := s_interval) F
  exact ⟨_, fd, F', He.glo_ok X G (c.fact 5 (f := .glo "interval") rfl), F'.binds (ps := ["width", "bits"]) fun _ _ _ _ _ _ us hl => match us, hl with | [_, _], _ => rfl⟩
theorem tp_d_check_count (X : K.In h) (G : h.Ns mainGlobals mg) (c : He.SaysD faL fnL K) : DefAt K mg "check_count" s_check_count ["count"] := by
  obtain ⟨fd, F⟩ := c.def_ 7 (d := d_check_count) rfl
  have F' := He5.fun_of (st := s_check_count) F
  exact ⟨_, fd, F', He.glo_ok X G (c.fact 6 (f := .glo "check_count") rfl), F'.binds (ps := ["count"]) fun _ _ _ _ _ _ us hl => match us, hl with | [_], _ => rfl⟩
theorem tp_d_digits_value (X : K.In h) (G : h.Ns mainGlobals mg) (c : He.SaysD faL fnL K) : DefAt K mg "digits_value" s_digits_value ["digits"] := by
  obtain ⟨fd, F⟩ := c.def_ 8 (d := d_digits_value) rfl
  have F' := He5.fun_of (st := s_digits_value) F
  exact ⟨_, fd, F', He.glo_ok X G (c.fact 7 (f := .glo "digits_value") rfl), F'.binds (ps := ["digits"]) fun _ _ _ _ _ _ us hl => match us, hl with | [_], _ => rfl⟩
theorem tp_d_digits_text (X : K.In h) (G : h.Ns mainGlobals mg) (c : He.SaysD faL fnL K) : DefAt K mg "digits_text" s_digits_text ["number", "many"] := by
  obtain ⟨fd, F⟩ := c.def_ 9 (d := d_digits_text) rfl
  have F' := He5.fun_of (st := s_digits_text) F
  exact ⟨_, fd, F', He.glo_ok X G (c.fact 8 (f := .glo "digits_text") rfl), F'.binds (ps := ["number", "many"]) fun _ _ _ _ _ _ us hl => match us, hl with | [_, _], _ => rfl⟩
theorem tp_d_code (X : K.In h) (G : h.Ns mainGlobals mg) (c : He.SaysD faL fnL K) : DefAt K mg "_code" s_code ["width", "bits"] := by
  obtain ⟨fd, F⟩ := c.def_ 10 (d := d_code) rfl
  have F' := He5.fun_of (st := s_code) F
  exact ⟨_, fd, F', He.glo_ok X G (c.fact 9 (f := .glo "_code") rfl), F'.binds (ps := ["width", "bits"]) fun _ _ _ _ _ _ us hl => match us, hl with | [_, _], _ => rfl⟩
theorem tp_d_encode (X : K.In h) (G : h.Ns mainGlobals mg) (c : He.SaysD faL fnL K) : DefAt K mg "encode" s_encode ["width", "bits"] := by
  obtain ⟨fd, F⟩ := c.def_ 11 (d := d_encode) rfl
  have F' := He5.fun_of (st := s_encode) F
  exact ⟨_, fd, F', He.glo_ok X G (c.fact 10 (f := .glo "encode") rfl), F'.binds (ps := ["width", "bits"]) fun _ _ _ _ _ _ us hl => match us, hl with | [_, _], _ => rfl⟩
theorem tp_d_opens (X : K.In h) (G : h.Ns mainGlobals mg) (c : He.SaysD faL fnL K) : DefAt K mg "opens" s_opens ["width", "code", "bits"] := by
  obtain ⟨fd, F⟩ := c.def_ 12 (d := d_opens) rfl
  have F' := He5.fun_of (st := s_opens) F
  exact ⟨_, fd, F', He.glo_ok X G (c.fact 11 (f := .glo "opens") rfl), F'.binds (ps := ["width", "code", "bits"]) fun _ _ _ _ _ _ us hl => match us, hl with | [_, _, _], _ => rfl⟩
theorem tp_d_last_with_zero (X : K.In h) (G : h.Ns mainGlobals mg) (c : He.SaysD faL fnL K) : DefAt K mg "last_with_zero" s_last_with_zero ["bits", "more"] := by
  obtain ⟨fd, F⟩ := c.def_ 13 (d := d_last_with_zero) rfl
  have F' := He5.fun_of (st := s_last_with_zero) F
  exact ⟨_, fd, F', He.glo_ok X G (c.fact 12 (f := .glo "last_with_zero") rfl), F'.binds (ps := ["bits", "more"]) fun _ _ _ _ _ _ us hl => match us, hl with | [_, _], _ => rfl⟩
theorem tp_d_first_with_one (X : K.In h) (G : h.Ns mainGlobals mg) (c : He.SaysD faL fnL K) : DefAt K mg "first_with_one" s_first_with_one ["bits", "more"] := by
  obtain ⟨fd, F⟩ := c.def_ 14 (d := d_first_with_one) rfl
  have F' := He5.fun_of (st := s_first_with_one) F
  exact ⟨_, fd, F', He.glo_ok X G (c.fact 13 (f := .glo "first_with_one") rfl), F'.binds (ps := ["bits", "more"]) fun _ _ _ _ _ _ us hl => match us, hl with | [_, _], _ => rfl⟩
theorem tp_d_next_bit (X : K.In h) (G : h.Ns mainGlobals mg) (c : He.SaysD faL fnL K) : DefAt K mg "_next_bit" s_next_bit ["width", "count", "code", "bits"] := by
  obtain ⟨fd, F⟩ := c.def_ 15 (d := d_next_bit) rfl
  have F' := He5.fun_of (st := s_next_bit) F
  exact ⟨_, fd, F', He.glo_ok X G (c.fact 14 (f := .glo "_next_bit") rfl), F'.binds (ps := ["width", "count", "code", "bits"]) fun _ _ _ _ _ _ us hl => match us, hl with | [_, _, _, _], _ => rfl⟩
theorem tp_d_find_prefix (X : K.In h) (G : h.Ns mainGlobals mg) (c : He.SaysD faL fnL K) : DefAt K mg "find_prefix" s_find_prefix ["width", "count", "code"] := by
  obtain ⟨fd, F⟩ := c.def_ 16 (d := d_find_prefix) rfl
  have F' := He5.fun_of (st := s_find_prefix) F
  exact ⟨_, fd, F', He.glo_ok X G (c.fact 15 (f := .glo "find_prefix") rfl), F'.binds (ps := ["width", "count", "code"]) fun _ _ _ _ _ _ us hl => match us, hl with | [_, _, _], _ => rfl⟩
theorem tp_d_known_prefix (X : K.In h) (G : h.Ns mainGlobals mg) (c : He.SaysD faL fnL K) : DefAt K mg "known_prefix" s_known_prefix ["width", "count", "code"] := by
  obtain ⟨fd, F⟩ := c.def_ 17 (d := d_known_prefix) rfl
  have F' := He5.fun_of (st := s_known_prefix) F
  exact ⟨_, fd, F', He.glo_ok X G (c.fact 16 (f := .glo "known_prefix") rfl), F'.binds (ps := ["width", "count", "code"]) fun _ _ _ _ _ _ us hl => match us, hl with | [_, _, _], _ => rfl⟩
theorem tp_d_known (X : K.In h) (G : h.Ns mainGlobals mg) (c : He.SaysD faL fnL K) : DefAt K mg "known" s_known ["width", "count", "code"] := by
  obtain ⟨fd, F⟩ := c.def_ 18 (d := d_known) rfl
  have F' := He5.fun_of (st := s_known) F
  exact ⟨_, fd, F', He.glo_ok X G (c.fact 17 (f := .glo "known") rfl), F'.binds (ps := ["width", "count", "code"]) fun _ _ _ _ _ _ us hl => match us, hl with | [_, _, _], _ => rfl⟩
theorem tp_d_check_shape (X : K.In h) (G : h.Ns mainGlobals mg) (c : He.SaysD faL fnL K) : DefAt K mg "check_shape" s_check_shape ["width", "height", "depth", "channels"] := by
  obtain ⟨fd, F⟩ := c.def_ 19 (d := d_check_shape) rfl
  have F' := He5.fun_of (st := s_check_shape) F
  exact ⟨_, fd, F', He.glo_ok X G (c.fact 18 (f := .glo "check_shape") rfl), F'.binds (ps := ["width", "height", "depth", "channels"]) fun _ _ _ _ _ _ us hl => match us, hl with | [_, _, _, _], _ => rfl⟩
theorem tp_d_check_size (X : K.In h) (G : h.Ns mainGlobals mg) (c : He.SaysD faL fnL K) : DefAt K mg "check_size" s_check_size ["width", "height", "channels"] := by
  obtain ⟨fd, F⟩ := c.def_ 20 (d := d_check_size) rfl
  have F' := He5.fun_of (st := s_check_size) F
  exact ⟨_, fd, F', He.glo_ok X G (c.fact 19 (f := .glo "check_size") rfl), F'.binds (ps := ["width", "height", "channels"]) fun _ _ _ _ _ _ us hl => match us, hl with | [_, _, _], _ => rfl⟩
theorem tp_d_tile_corner (X : K.In h) (G : h.Ns mainGlobals mg) (c : He.SaysD faL fnL K) : DefAt K mg "tile_corner" s_tile_corner ["frame", "tile"] := by
  obtain ⟨fd, F⟩ := c.def_ 26 (d := d_tile_corner) rfl
  have F' := He5.fun_of (st := s_tile_corner) F
  exact ⟨_, fd, F', He.glo_ok X G (c.fact 20 (f := .glo "tile_corner") rfl), F'.binds (ps := ["frame", "tile"]) fun _ _ _ _ _ _ us hl => match us, hl with | [_, _], _ => rfl⟩
theorem tp_d_tile_size (X : K.In h) (G : h.Ns mainGlobals mg) (c : He.SaysD faL fnL K) : DefAt K mg "tile_size" s_tile_size ["frame", "tile"] := by
  obtain ⟨fd, F⟩ := c.def_ 27 (d := d_tile_size) rfl
  have F' := He5.fun_of (st := s_tile_size) F
  exact ⟨_, fd, F', He.glo_ok X G (c.fact 21 (f := .glo "tile_size") rfl), F'.binds (ps := ["frame", "tile"]) fun _ _ _ _ _ _ us hl => match us, hl with | [_, _], _ => rfl⟩
theorem tp_d_tile_pixels (X : K.In h) (G : h.Ns mainGlobals mg) (c : He.SaysD faL fnL K) : DefAt K mg "tile_pixels" s_tile_pixels ["frame", "tile"] := by
  obtain ⟨fd, F⟩ := c.def_ 28 (d := d_tile_pixels) rfl
  have F' := He5.fun_of (st := s_tile_pixels) F
  exact ⟨_, fd, F', He.glo_ok X G (c.fact 22 (f := .glo "tile_pixels") rfl), F'.binds (ps := ["frame", "tile"]) fun _ _ _ _ _ _ us hl => match us, hl with | [_, _], _ => rfl⟩
theorem tp_d_all_keys (X : K.In h) (G : h.Ns mainGlobals mg) (c : He.SaysD faL fnL K) : DefAt K mg "all_keys" s_all_keys ["frame"] := by
  obtain ⟨fd, F⟩ := c.def_ 29 (d := d_all_keys) rfl
  have F' := He5.fun_of (st := s_all_keys) F
  exact ⟨_, fd, F', He.glo_ok X G (c.fact 23 (f := .glo "all_keys") rfl), F'.binds (ps := ["frame"]) fun _ _ _ _ _ _ us hl => match us, hl with | [_], _ => rfl⟩
theorem tp_d_check_key (X : K.In h) (G : h.Ns mainGlobals mg) (c : He.SaysD faL fnL K) : DefAt K mg "check_key" s_check_key ["frame", "key"] := by
  obtain ⟨fd, F⟩ := c.def_ 30 (d := d_check_key) rfl
  have F' := He5.fun_of (st := s_check_key) F
  exact ⟨_, fd, F', He.glo_ok X G (c.fact 24 (f := .glo "check_key") rfl), F'.binds (ps := ["frame", "key"]) fun _ _ _ _ _ _ us hl => match us, hl with | [_, _], _ => rfl⟩
theorem tp_d_known_text (X : K.In h) (G : h.Ns mainGlobals mg) (c : He.SaysD faL fnL K) : DefAt K mg "known_text" s_known_text ["arrived", "key"] := by
  obtain ⟨fd, F⟩ := c.def_ 35 (d := d_known_text) rfl
  have F' := He5.fun_of (st := s_known_text) F
  exact ⟨_, fd, F', He.glo_ok X G (c.fact 25 (f := .glo "known_text") rfl), F'.binds (ps := ["arrived", "key"]) fun _ _ _ _ _ _ us hl => match us, hl with | [_, _], _ => rfl⟩
theorem tp_d_many_low (X : K.In h) (G : h.Ns mainGlobals mg) (c : He.SaysD faL fnL K) : DefAt K mg "_many_low" s_many_low ["width", "code", "bits", "more"] := by
  obtain ⟨fd, F⟩ := c.def_ 36 (d := d_many_low) rfl
  have F' := He5.fun_of (st := s_many_low) F
  exact ⟨_, fd, F', He.glo_ok X G (c.fact 26 (f := .glo "_many_low") rfl), F'.binds (ps := ["width", "code", "bits", "more"]) fun _ _ _ _ _ _ us hl => match us, hl with | [_, _, _, _], _ => rfl⟩
theorem tp_d_many_high (X : K.In h) (G : h.Ns mainGlobals mg) (c : He.SaysD faL fnL K) : DefAt K mg "_many_high" s_many_high ["width", "code", "bits", "more"] := by
  obtain ⟨fd, F⟩ := c.def_ 37 (d := d_many_high) rfl
  have F' := He5.fun_of (st := s_many_high) F
  exact ⟨_, fd, F', He.glo_ok X G (c.fact 27 (f := .glo "_many_high") rfl), F'.binds (ps := ["width", "code", "bits", "more"]) fun _ _ _ _ _ _ us hl => match us, hl with | [_, _, _, _], _ => rfl⟩
theorem tp_d_count_possible (X : K.In h) (G : h.Ns mainGlobals mg) (c : He.SaysD faL fnL K) : DefAt K mg "count_possible" s_count_possible ["width", "count", "code"] := by
  obtain ⟨fd, F⟩ := c.def_ 38 (d := d_count_possible) rfl
  have F' := He5.fun_of (st := s_count_possible) F
  exact ⟨_, fd, F', He.glo_ok X G (c.fact 28 (f := .glo "count_possible") rfl), F'.binds (ps := ["width", "count", "code"]) fun _ _ _ _ _ _ us hl => match us, hl with | [_, _, _], _ => rfl⟩
theorem tp_d_first_possible (X : K.In h) (G : h.Ns mainGlobals mg) (c : He.SaysD faL fnL K) : DefAt K mg "first_possible" s_first_possible ["width", "count", "code"] := by
  obtain ⟨fd, F⟩ := c.def_ 39 (d := d_first_possible) rfl
  have F' := He5.fun_of (st := s_first_possible) F
  exact ⟨_, fd, F', He.glo_ok X G (c.fact 29 (f := .glo "first_possible") rfl), F'.binds (ps := ["width", "count", "code"]) fun _ _ _ _ _ _ us hl => match us, hl with | [_, _, _], _ => rfl⟩
theorem tp_d_binary_value (X : K.In h) (G : h.Ns mainGlobals mg) (c : He.SaysD faL fnL K) : DefAt K mg "binary_value" s_binary_value ["bits"] := by
  obtain ⟨fd, F⟩ := c.def_ 40 (d := d_binary_value) rfl
  have F' := He5.fun_of (st := s_binary_value) F
  exact ⟨_, fd, F', He.glo_ok X G (c.fact 30 (f := .glo "binary_value") rfl), F'.binds (ps := ["bits"]) fun _ _ _ _ _ _ us hl => match us, hl with | [_], _ => rfl⟩
theorem tp_d_binary (X : K.In h) (G : h.Ns mainGlobals mg) (c : He.SaysD faL fnL K) : DefAt K mg "binary" s_binary ["value", "count"] := by
  obtain ⟨fd, F⟩ := c.def_ 41 (d := d_binary) rfl
  have F' := He5.fun_of (st := s_binary) F
  exact ⟨_, fd, F', He.glo_ok X G (c.fact 31 (f := .glo "binary") rfl), F'.binds (ps := ["value", "count"]) fun _ _ _ _ _ _ us hl => match us, hl with | [_, _], _ => rfl⟩
theorem tp_d_rank_among (X : K.In h) (G : h.Ns mainGlobals mg) (c : He.SaysD faL fnL K) : DefAt K mg "rank_among" s_rank_among ["width", "code", "bits"] := by
  obtain ⟨fd, F⟩ := c.def_ 42 (d := d_rank_among) rfl
  have F' := He5.fun_of (st := s_rank_among) F
  exact ⟨_, fd, F', He.glo_ok X G (c.fact 32 (f := .glo "rank_among") rfl), F'.binds (ps := ["width", "code", "bits"]) fun _ _ _ _ _ _ us hl => match us, hl with | [_, _, _], _ => rfl⟩
theorem tp_d_possible_at (X : K.In h) (G : h.Ns mainGlobals mg) (c : He.SaysD faL fnL K) : DefAt K mg "possible_at" s_possible_at ["width", "count", "code", "number"] := by
  obtain ⟨fd, F⟩ := c.def_ 43 (d := d_possible_at) rfl
  have F' := He5.fun_of (st := s_possible_at) F
  exact ⟨_, fd, F', He.glo_ok X G (c.fact 33 (f := .glo "possible_at") rfl), F'.binds (ps := ["width", "count", "code", "number"]) fun _ _ _ _ _ _ us hl => match us, hl with | [_, _, _, _], _ => rfl⟩
theorem tp_d_are_values (X : K.In h) (G : h.Ns mainGlobals mg) (c : He.SaysD faL fnL K) : DefAt K mg "_are_values" s_are_values ["pixels", "depth", "channels", "values"] := by
  obtain ⟨fd, F⟩ := c.def_ 44 (d := d_are_values) rfl
  have F' := He5.fun_of (st := s_are_values) F
  exact ⟨_, fd, F', He.glo_ok X G (c.fact 34 (f := .glo "_are_values") rfl), F'.binds (ps := ["pixels", "depth", "channels", "values"]) fun _ _ _ _ _ _ us hl => match us, hl with | [_, _, _, _], _ => rfl⟩
theorem tp_d_fits_frame (X : K.In h) (G : h.Ns mainGlobals mg) (c : He.SaysD faL fnL K) : DefAt K mg "fits_frame" s_fits_frame ["frame", "picture"] := by
  obtain ⟨fd, F⟩ := c.def_ 49 (d := d_fits_frame) rfl
  have F' := He5.fun_of (st := s_fits_frame) F
  exact ⟨_, fd, F', He.glo_ok X G (c.fact 35 (f := .glo "fits_frame") rfl), F'.binds (ps := ["frame", "picture"]) fun _ _ _ _ _ _ us hl => match us, hl with | [_, _], _ => rfl⟩
theorem tp_d_gray_bit (X : K.In h) (G : h.Ns mainGlobals mg) (c : He.SaysD faL fnL K) : DefAt K mg "gray_bit" s_gray_bit ["value", "plane"] := by
  obtain ⟨fd, F⟩ := c.def_ 50 (d := d_gray_bit) rfl
  have F' := He5.fun_of (st := s_gray_bit) F
  exact ⟨_, fd, F', He.glo_ok X G (c.fact 36 (f := .glo "gray_bit") rfl), F'.binds (ps := ["value", "plane"]) fun _ _ _ _ _ _ us hl => match us, hl with | [_, _], _ => rfl⟩
theorem tp_d_value_of (X : K.In h) (G : h.Ns mainGlobals mg) (c : He.SaysD faL fnL K) : DefAt K mg "value_of" s_value_of ["grays"] := by
  obtain ⟨fd, F⟩ := c.def_ 51 (d := d_value_of) rfl
  have F' := He5.fun_of (st := s_value_of) F
  exact ⟨_, fd, F', He.glo_ok X G (c.fact 37 (f := .glo "value_of") rfl), F'.binds (ps := ["grays"]) fun _ _ _ _ _ _ us hl => match us, hl with | [_], _ => rfl⟩
theorem tp_d_stored_bit (X : K.In h) (G : h.Ns mainGlobals mg) (c : He.SaysD faL fnL K) : DefAt K mg "stored_bit" s_stored_bit ["picture", "channel", "pixel", "plane"] := by
  obtain ⟨fd, F⟩ := c.def_ 52 (d := d_stored_bit) rfl
  have F' := He5.fun_of (st := s_stored_bit) F
  exact ⟨_, fd, F', He.glo_ok X G (c.fact 38 (f := .glo "stored_bit") rfl), F'.binds (ps := ["picture", "channel", "pixel", "plane"]) fun _ _ _ _ _ _ us hl => match us, hl with | [_, _, _, _], _ => rfl⟩
theorem tp_d_packet_bits (X : K.In h) (G : h.Ns mainGlobals mg) (c : He.SaysD faL fnL K) : DefAt K mg "packet_bits" s_packet_bits ["frame", "picture", "key"] := by
  obtain ⟨fd, F⟩ := c.def_ 53 (d := d_packet_bits) rfl
  have F' := He5.fun_of (st := s_packet_bits) F
  exact ⟨_, fd, F', He.glo_ok X G (c.fact 39 (f := .glo "packet_bits") rfl), F'.binds (ps := ["frame", "picture", "key"]) fun _ _ _ _ _ _ us hl => match us, hl with | [_, _, _], _ => rfl⟩
theorem tp_d_stored (X : K.In h) (G : h.Ns mainGlobals mg) (c : He.SaysD faL fnL K) : DefAt K mg "_stored" s_stored ["frame", "packets"] := by
  obtain ⟨fd, F⟩ := c.def_ 54 (d := d_stored) rfl
  have F' := He5.fun_of (st := s_stored) F
  exact ⟨_, fd, F', He.glo_ok X G (c.fact 40 (f := .glo "_stored") rfl), F'.binds (ps := ["frame", "packets"]) fun _ _ _ _ _ _ us hl => match us, hl with | [_, _], _ => rfl⟩
theorem tp_d_values (X : K.In h) (G : h.Ns mainGlobals mg) (c : He.SaysD faL fnL K) : DefAt K mg "_values" s_values ["frame", "table", "channel"] := by
  obtain ⟨fd, F⟩ := c.def_ 55 (d := d_values) rfl
  have F' := He5.fun_of (st := s_values) F
  exact ⟨_, fd, F', He.glo_ok X G (c.fact 41 (f := .glo "_values") rfl), F'.binds (ps := ["frame", "table", "channel"]) fun _ _ _ _ _ _ us hl => match us, hl with | [_, _, _], _ => rfl⟩
theorem tp_d_picture_of (X : K.In h) (G : h.Ns mainGlobals mg) (c : He.SaysD faL fnL K) : DefAt K mg "picture_of" s_picture_of ["frame", "packets"] := by
  obtain ⟨fd, F⟩ := c.def_ 56 (d := d_picture_of) rfl
  have F' := He5.fun_of (st := s_picture_of) F
  exact ⟨_, fd, F', He.glo_ok X G (c.fact 42 (f := .glo "picture_of") rfl), F'.binds (ps := ["frame", "packets"]) fun _ _ _ _ _ _ us hl => match us, hl with | [_, _], _ => rfl⟩
theorem tp_d_packet_code (X : K.In h) (G : h.Ns mainGlobals mg) (c : He.SaysD faL fnL K) : DefAt K mg "packet_code" s_packet_code ["frame", "picture", "key"] := by
  obtain ⟨fd, F⟩ := c.def_ 57 (d := d_packet_code) rfl
  have F' := He5.fun_of (st := s_packet_code) F
  exact ⟨_, fd, F', He.glo_ok X G (c.fact 43 (f := .glo "packet_code") rfl), F'.binds (ps := ["frame", "picture", "key"]) fun _ _ _ _ _ _ us hl => match us, hl with | [_, _, _], _ => rfl⟩
theorem tp_d_choices (X : K.In h) (G : h.Ns mainGlobals mg) (c : He.SaysD faL fnL K) : DefAt K mg "_choices" s_choices ["arrived", "key"] := by
  obtain ⟨fd, F⟩ := c.def_ 58 (d := d_choices) rfl
  have F' := He5.fun_of (st := s_choices) F
  exact ⟨_, fd, F', He.glo_ok X G (c.fact 44 (f := .glo "_choices") rfl), F'.binds (ps := ["arrived", "key"]) fun _ _ _ _ _ _ us hl => match us, hl with | [_, _], _ => rfl⟩
theorem tp_d_count_pictures (X : K.In h) (G : h.Ns mainGlobals mg) (c : He.SaysD faL fnL K) : DefAt K mg "count_pictures" s_count_pictures ["arrived"] := by
  obtain ⟨fd, F⟩ := c.def_ 59 (d := d_count_pictures) rfl
  have F' := He5.fun_of (st := s_count_pictures) F
  exact ⟨_, fd, F', He.glo_ok X G (c.fact 45 (f := .glo "count_pictures") rfl), F'.binds (ps := ["arrived"]) fun _ _ _ _ _ _ us hl => match us, hl with | [_], _ => rfl⟩
theorem tp_d_agrees (X : K.In h) (G : h.Ns mainGlobals mg) (c : He.SaysD faL fnL K) : DefAt K mg "agrees" s_agrees ["arrived", "picture"] := by
  obtain ⟨fd, F⟩ := c.def_ 60 (d := d_agrees) rfl
  have F' := He5.fun_of (st := s_agrees) F
  exact ⟨_, fd, F', He.glo_ok X G (c.fact 46 (f := .glo "agrees") rfl), F'.binds (ps := ["arrived", "picture"]) fun _ _ _ _ _ _ us hl => match us, hl with | [_, _], _ => rfl⟩
theorem tp_d_number_of (X : K.In h) (G : h.Ns mainGlobals mg) (c : He.SaysD faL fnL K) : DefAt K mg "number_of" s_number_of ["arrived", "picture"] := by
  obtain ⟨fd, F⟩ := c.def_ 61 (d := d_number_of) rfl
  have F' := He5.fun_of (st := s_number_of) F
  exact ⟨_, fd, F', He.glo_ok X G (c.fact 47 (f := .glo "number_of") rfl), F'.binds (ps := ["arrived", "picture"]) fun _ _ _ _ _ _ us hl => match us, hl with | [_, _], _ => rfl⟩
theorem tp_d_picture_at (X : K.In h) (G : h.Ns mainGlobals mg) (c : He.SaysD faL fnL K) : DefAt K mg "picture_at" s_picture_at ["arrived", "number"] := by
  obtain ⟨fd, F⟩ := c.def_ 62 (d := d_picture_at) rfl
  have F' := He5.fun_of (st := s_picture_at) F
  exact ⟨_, fd, F', He.glo_ok X G (c.fact 48 (f := .glo "picture_at") rfl), F'.binds (ps := ["arrived", "number"]) fun _ _ _ _ _ _ us hl => match us, hl with | [_, _], _ => rfl⟩
theorem tp_d_is_rectangle (X : K.In h) (G : h.Ns mainGlobals mg) (c : He.SaysD faL fnL K) : DefAt K mg "_is_rectangle" s_is_rectangle ["left", "top", "width", "height"] := by
  obtain ⟨fd, F⟩ := c.def_ 63 (d := d_is_rectangle) rfl
  have F' := He5.fun_of (st := s_is_rectangle) F
  exact ⟨_, fd, F', He.glo_ok X G (c.fact 49 (f := .glo "_is_rectangle") rfl), F'.binds (ps := ["left", "top", "width", "height"]) fun _ _ _ _ _ _ us hl => match us, hl with | [_, _, _, _], _ => rfl⟩
theorem tp_d_check_regions (X : K.In h) (G : h.Ns mainGlobals mg) (c : He.SaysD faL fnL K) : DefAt K mg "check_regions" s_check_regions ["regions"] := by
  obtain ⟨fd, F⟩ := c.def_ 64 (d := d_check_regions) rfl
  have F' := He5.fun_of (st := s_check_regions) F
  exact ⟨_, fd, F', He.glo_ok X G (c.fact 50 (f := .glo "check_regions") rfl), F'.binds (ps := ["regions"]) fun _ _ _ _ _ _ us hl => match us, hl with | [_], _ => rfl⟩
theorem tp_d_touches (X : K.In h) (G : h.Ns mainGlobals mg) (c : He.SaysD faL fnL K) : DefAt K mg "touches" s_touches ["frame", "rectangle", "tile"] := by
  obtain ⟨fd, F⟩ := c.def_ 65 (d := d_touches) rfl
  have F' := He5.fun_of (st := s_touches) F
  exact ⟨_, fd, F', He.glo_ok X G (c.fact 51 (f := .glo "touches") rfl), F'.binds (ps := ["frame", "rectangle", "tile"]) fun _ _ _ _ _ _ us hl => match us, hl with | [_, _, _], _ => rfl⟩
theorem tp_d_boost (X : K.In h) (G : h.Ns mainGlobals mg) (c : He.SaysD faL fnL K) : DefAt K mg "boost" s_boost ["frame", "regions", "tile"] := by
  obtain ⟨fd, F⟩ := c.def_ 66 (d := d_boost) rfl
  have F' := He5.fun_of (st := s_boost) F
  exact ⟨_, fd, F', He.glo_ok X G (c.fact 52 (f := .glo "boost") rfl), F'.binds (ps := ["frame", "regions", "tile"]) fun _ _ _ _ _ _ us hl => match us, hl with | [_, _, _], _ => rfl⟩
theorem tp_d_plan (X : K.In h) (G : h.Ns mainGlobals mg) (c : He.SaysD faL fnL K) : DefAt K mg "plan" s_plan ["frame", "regions"] := by
  obtain ⟨fd, F⟩ := c.def_ 67 (d := d_plan) rfl
  have F' := He5.fun_of (st := s_plan) F
  exact ⟨_, fd, F', He.glo_ok X G (c.fact 53 (f := .glo "plan") rfl), F'.binds (ps := ["frame", "regions"]) fun _ _ _ _ _ _ us hl => match us, hl with | [_, _], _ => rfl⟩
theorem tp_d_is_open (X : K.In h) (G : h.Ns mainGlobals mg) (c : He.SaysD faL fnL K) : DefAt K mg "is_open" s_is_open ["arrived", "key"] := by
  obtain ⟨fd, F⟩ := c.def_ 68 (d := d_is_open) rfl
  have F' := He5.fun_of (st := s_is_open) F
  exact ⟨_, fd, F', He.glo_ok X G (c.fact 54 (f := .glo "is_open") rfl), F'.binds (ps := ["arrived", "key"]) fun _ _ _ _ _ _ us hl => match us, hl with | [_, _], _ => rfl⟩
theorem tp_d_request (X : K.In h) (G : h.Ns mainGlobals mg) (c : He.SaysD faL fnL K) : DefAt K mg "request" s_request ["arrived", "regions"] := by
  obtain ⟨fd, F⟩ := c.def_ 69 (d := d_request) rfl
  have F' := He5.fun_of (st := s_request) F
  exact ⟨_, fd, F', He.glo_ok X G (c.fact 55 (f := .glo "request") rfl), F'.binds (ps := ["arrived", "regions"]) fun _ _ _ _ _ _ us hl => match us, hl with | [_, _], _ => rfl⟩
theorem tp_d_check_requests (X : K.In h) (G : h.Ns mainGlobals mg) (c : He.SaysD faL fnL K) : DefAt K mg "check_requests" s_check_requests ["frame", "requests"] := by
  obtain ⟨fd, F⟩ := c.def_ 70 (d := d_check_requests) rfl
  have F' := He5.fun_of (st := s_check_requests) F
  exact ⟨_, fd, F', He.glo_ok X G (c.fact 56 (f := .glo "check_requests") rfl), F'.binds (ps := ["frame", "requests"]) fun _ _ _ _ _ _ us hl => match us, hl with | [_, _], _ => rfl⟩
theorem tp_d_check_asked (X : K.In h) (G : h.Ns mainGlobals mg) (c : He.SaysD faL fnL K) : DefAt K mg "check_asked" s_check_asked ["frame", "picture", "requests"] := by
  obtain ⟨fd, F⟩ := c.def_ 71 (d := d_check_asked) rfl
  have F' := He5.fun_of (st := s_check_asked) F
  exact ⟨_, fd, F', He.glo_ok X G (c.fact 57 (f := .glo "check_asked") rfl), F'.binds (ps := ["frame", "picture", "requests"]) fun _ _ _ _ _ _ us hl => match us, hl with | [_, _, _], _ => rfl⟩
theorem tp_d_bits_needed (X : K.In h) (G : h.Ns mainGlobals mg) (c : He.SaysD faL fnL K) : DefAt K mg "bits_needed" s_bits_needed ["number"] := by
  obtain ⟨fd, F⟩ := c.def_ 72 (d := d_bits_needed) rfl
  have F' := He5.fun_of (st := s_bits_needed) F
  exact ⟨_, fd, F', He.glo_ok X G (c.fact 58 (f := .glo "bits_needed") rfl), F'.binds (ps := ["number"]) fun _ _ _ _ _ _ us hl => match us, hl with | [_], _ => rfl⟩
theorem tp_d_remainder_length (X : K.In h) (G : h.Ns mainGlobals mg) (c : He.SaysD faL fnL K) : DefAt K mg "remainder_length" s_remainder_length ["arrived"] := by
  obtain ⟨fd, F⟩ := c.def_ 73 (d := d_remainder_length) rfl
  have F' := He5.fun_of (st := s_remainder_length) F
  exact ⟨_, fd, F', He.glo_ok X G (c.fact 59 (f := .glo "remainder_length") rfl), F'.binds (ps := ["arrived"]) fun _ _ _ _ _ _ us hl => match us, hl with | [_], _ => rfl⟩
theorem tp_d_concluded (X : K.In h) (G : h.Ns mainGlobals mg) (c : He.SaysD faL fnL K) : DefAt K mg "_concluded" s_concluded ["frame", "picture", "requests"] := by
  obtain ⟨fd, F⟩ := c.def_ 74 (d := d_concluded) rfl
  have F' := He5.fun_of (st := s_concluded) F
  exact ⟨_, fd, F', He.glo_ok X G (c.fact 60 (f := .glo "_concluded") rfl), F'.binds (ps := ["frame", "picture", "requests"]) fun _ _ _ _ _ _ us hl => match us, hl with | [_, _, _], _ => rfl⟩
theorem tp_d_remainder (X : K.In h) (G : h.Ns mainGlobals mg) (c : He.SaysD faL fnL K) : DefAt K mg "remainder" s_remainder ["frame", "picture", "requests"] := by
  obtain ⟨fd, F⟩ := c.def_ 75 (d := d_remainder) rfl
  have F' := He5.fun_of (st := s_remainder) F
  exact ⟨_, fd, F', He.glo_ok X G (c.fact 61 (f := .glo "remainder") rfl), F'.binds (ps := ["frame", "picture", "requests"]) fun _ _ _ _ _ _ us hl => match us, hl with | [_, _, _], _ => rfl⟩
theorem tp_d_finish (X : K.In h) (G : h.Ns mainGlobals mg) (c : He.SaysD faL fnL K) : DefAt K mg "finish" s_finish ["arrived", "digits"] := by
  obtain ⟨fd, F⟩ := c.def_ 76 (d := d_finish) rfl
  have F' := He5.fun_of (st := s_finish) F
  exact ⟨_, fd, F', He.glo_ok X G (c.fact 62 (f := .glo "finish") rfl), F'.binds (ps := ["arrived", "digits"]) fun _ _ _ _ _ _ us hl => match us, hl with | [_, _], _ => rfl⟩
theorem tp_d_l_cell (X : K.In h) (G : h.Ns mainGlobals mg) (c : He.SaysD faL fnL K) : DefAt K mg "_law_cell" s_l_cell ["_law_script", "_law_k"] := by
  obtain ⟨fd, F⟩ := c.def_ 77 (d := d_l_cell) rfl
  have F' := He5.fun_of (st := s_l_cell) F
  exact ⟨_, fd, F', He.glo_ok X G (c.fact 63 (f := .glo "_law_cell") rfl), F'.binds (ps := ["_law_script", "_law_k"]) fun _ _ _ _ _ _ us hl => match us, hl with | [_, _], _ => rfl⟩
theorem tp_d_l_mixed (X : K.In h) (G : h.Ns mainGlobals mg) (c : He.SaysD faL fnL K) : DefAt K mg "_law_mixed" s_l_mixed ["_law_number", "_law_k", "_law_limit"] := by
  obtain ⟨fd, F⟩ := c.def_ 78 (d := d_l_mixed) rfl
  have F' := He5.fun_of (st := s_l_mixed) F
  exact ⟨_, fd, F', He.glo_ok X G (c.fact 64 (f := .glo "_law_mixed") rfl), F'.binds (ps := ["_law_number", "_law_k", "_law_limit"]) fun _ _ _ _ _ _ us hl => match us, hl with | [_, _, _], _ => rfl⟩
theorem tp_d_l_numbers (X : K.In h) (G : h.Ns mainGlobals mg) (c : He.SaysD faL fnL K) : DefAt K mg "_law_numbers" s_l_numbers ["_law_cell_here", "_law_count", "_law_limit"] := by
  obtain ⟨fd, F⟩ := c.def_ 79 (d := d_l_numbers) rfl
  have F' := He5.fun_of (st := s_l_numbers) F
  exact ⟨_, fd, F', He.glo_ok X G (c.fact 65 (f := .glo "_law_numbers") rfl), F'.binds (ps := ["_law_cell_here", "_law_count", "_law_limit"]) fun _ _ _ _ _ _ us hl => match us, hl with | [_, _, _], _ => rfl⟩
theorem tp_d_l_tiny (X : K.In h) (G : h.Ns mainGlobals mg) (c : He.SaysD faL fnL K) : DefAt K mg "_law_tiny" s_l_tiny ["_law_cell_here"] := by
  obtain ⟨fd, F⟩ := c.def_ 80 (d := d_l_tiny) rfl
  have F' := He5.fun_of (st := s_l_tiny) F
  exact ⟨_, fd, F', He.glo_ok X G (c.fact 66 (f := .glo "_law_tiny") rfl), F'.binds (ps := ["_law_cell_here"]) fun _ _ _ _ _ _ us hl => match us, hl with | [_], _ => rfl⟩
theorem tp_d_l_values (X : K.In h) (G : h.Ns mainGlobals mg) (c : He.SaysD faL fnL K) : DefAt K mg "_law_values" s_l_values ["_law_cell_here", "_law_sizes"] := by
  obtain ⟨fd, F⟩ := c.def_ 81 (d := d_l_values) rfl
  have F' := He5.fun_of (st := s_l_values) F
  exact ⟨_, fd, F', He.glo_ok X G (c.fact 67 (f := .glo "_law_values") rfl), F'.binds (ps := ["_law_cell_here", "_law_sizes"]) fun _ _ _ _ _ _ us hl => match us, hl with | [_, _], _ => rfl⟩
theorem tp_d_l_tiles (X : K.In h) (G : h.Ns mainGlobals mg) (c : He.SaysD faL fnL K) : DefAt K mg "_law_tiles" s_l_tiles ["_law_sizes"] := by
  obtain ⟨fd, F⟩ := c.def_ 82 (d := d_l_tiles) rfl
  have F' := He5.fun_of (st := s_l_tiles) F
  exact ⟨_, fd, F', He.glo_ok X G (c.fact 68 (f := .glo "_law_tiles") rfl), F'.binds (ps := ["_law_sizes"]) fun _ _ _ _ _ _ us hl => match us, hl with | [_], _ => rfl⟩
theorem tp_d_l_order (X : K.In h) (G : h.Ns mainGlobals mg) (c : He.SaysD faL fnL K) : DefAt K mg "_law_order" s_l_order ["_law_sizes", "_law_tiles_here"] := by
  obtain ⟨fd, F⟩ := c.def_ 83 (d := d_l_order) rfl
  have F' := He5.fun_of (st := s_l_order) F
  exact ⟨_, fd, F', He.glo_ok X G (c.fact 69 (f := .glo "_law_order") rfl), F'.binds (ps := ["_law_sizes", "_law_tiles_here"]) fun _ _ _ _ _ _ us hl => match us, hl with | [_, _], _ => rfl⟩
theorem tp_d_l_regions (X : K.In h) (G : h.Ns mainGlobals mg) (c : He.SaysD faL fnL K) : DefAt K mg "_law_regions" s_l_regions ["_law_cell_here", "_law_sizes"] := by
  obtain ⟨fd, F⟩ := c.def_ 84 (d := d_l_regions) rfl
  have F' := He5.fun_of (st := s_l_regions) F
  exact ⟨_, fd, F', He.glo_ok X G (c.fact 70 (f := .glo "_law_regions") rfl), F'.binds (ps := ["_law_cell_here", "_law_sizes"]) fun _ _ _ _ _ _ us hl => match us, hl with | [_, _], _ => rfl⟩
theorem tp_d_l_picture (X : K.In h) (G : h.Ns mainGlobals mg) (c : He.SaysD faL fnL K) : DefAt K mg "_law_picture" s_l_picture ["_law_sizes", "_law_values_here"] := by
  obtain ⟨fd, F⟩ := c.def_ 85 (d := d_l_picture) rfl
  have F' := He5.fun_of (st := s_l_picture) F
  exact ⟨_, fd, F', He.glo_ok X G (c.fact 71 (f := .glo "_law_picture") rfl), F'.binds (ps := ["_law_sizes", "_law_values_here"]) fun _ _ _ _ _ _ us hl => match us, hl with | [_, _], _ => rfl⟩
theorem tp_d_l_frame (X : K.In h) (G : h.Ns mainGlobals mg) (c : He.SaysD faL fnL K) : DefAt K mg "_law_frame" s_l_frame ["_law_sizes"] := by
  obtain ⟨fd, F⟩ := c.def_ 86 (d := d_l_frame) rfl
  have F' := He5.fun_of (st := s_l_frame) F
  exact ⟨_, fd, F', He.glo_ok X G (c.fact 72 (f := .glo "_law_frame") rfl), F'.binds (ps := ["_law_sizes"]) fun _ _ _ _ _ _ us hl => match us, hl with | [_], _ => rfl⟩
theorem tp_d_l_cut (X : K.In h) (G : h.Ns mainGlobals mg) (c : He.SaysD faL fnL K) : DefAt K mg "_law_cut" s_l_cut ["_law_frame_here", "_law_picture_here", "_law_keys", "_law_picks"] := by
  obtain ⟨fd, F⟩ := c.def_ 87 (d := d_l_cut) rfl
  have F' := He5.fun_of (st := s_l_cut) F
  exact ⟨_, fd, F', He.glo_ok X G (c.fact 73 (f := .glo "_law_cut") rfl), F'.binds (ps := ["_law_frame_here", "_law_picture_here", "_law_keys", "_law_picks"]) fun _ _ _ _ _ _ us hl => match us, hl with | [_, _, _, _], _ => rfl⟩
theorem tp_d_l_refused (X : K.In h) (G : h.Ns mainGlobals mg) (c : He.SaysD faL fnL K) : DefAt K mg "_law_refused" s_l_refused ["_law_frame_here", "_law_picture_here", "_law_entries"] := by
  obtain ⟨fd, F⟩ := c.def_ 88 (d := d_l_refused) rfl
  have F' := He5.fun_of (st := s_l_refused) F
  exact ⟨_, fd, F', He.glo_ok X G (c.fact 74 (f := .glo "_law_refused") rfl), F'.binds (ps := ["_law_frame_here", "_law_picture_here", "_law_entries"]) fun _ _ _ _ _ _ us hl => match us, hl with | [_, _, _], _ => rfl⟩
theorem tp_d_law (X : K.In h) (G : h.Ns mainGlobals mg) (c : He.SaysD faL fnL K) : DefAt K mg "law" s_law ["_law_script"] := by
  obtain ⟨fd, F⟩ := c.def_ 89 (d := d_law) rfl
  have F' := He5.fun_of (st := s_law) F
  exact ⟨_, fd, F', He.glo_ok X G (c.fact 75 (f := .glo "law") rfl), F'.binds (ps := ["_law_script"]) fun _ _ _ _ _ _ us hl => match us, hl with | [_], _ => rfl⟩
theorem tp_c_BITS_MOST (X : K.In h) (G : h.Ns mainGlobals mg) (c : He.SaysD faL fnL K) : ∃ t, mg "BITS_MOST" = some (.int 256 t) := by
  exact He.int_ok X G (c.fact 81 (f := .int "BITS_MOST" 256) rfl)
theorem tp_c_WIDTH_MOST (X : K.In h) (G : h.Ns mainGlobals mg) (c : He.SaysD faL fnL K) : ∃ t, mg "WIDTH_MOST" = some (.int 16 t) := by
  exact He.int_ok X G (c.fact 82 (f := .int "WIDTH_MOST" 16) rfl)
theorem tp_c_CODE_MOST (X : K.In h) (G : h.Ns mainGlobals mg) (c : He.SaysD faL fnL K) : ∃ t, mg "CODE_MOST" = some (.int 400 t) := by
  exact He.int_ok X G (c.fact 83 (f := .int "CODE_MOST" 400) rfl)
theorem tp_c_SIDE_MOST (X : K.In h) (G : h.Ns mainGlobals mg) (c : He.SaysD faL fnL K) : ∃ t, mg "SIDE_MOST" = some (.int 64 t) := by
  exact He.int_ok X G (c.fact 84 (f := .int "SIDE_MOST" 64) rfl)
theorem tp_c_VALUES_MOST (X : K.In h) (G : h.Ns mainGlobals mg) (c : He.SaysD faL fnL K) : ∃ t, mg "VALUES_MOST" = some (.int 3072 t) := by
  exact He.int_ok X G (c.fact 85 (f := .int "VALUES_MOST" 3072) rfl)
theorem tp_c_DEPTH_MOST (X : K.In h) (G : h.Ns mainGlobals mg) (c : He.SaysD faL fnL K) : ∃ t, mg "DEPTH_MOST" = some (.int 8 t) := by
  exact He.int_ok X G (c.fact 86 (f := .int "DEPTH_MOST" 8) rfl)
theorem tp_c_TILE_MOST (X : K.In h) (G : h.Ns mainGlobals mg) (c : He.SaysD faL fnL K) : ∃ t, mg "TILE_MOST" = some (.int 16 t) := by
  exact He.int_ok X G (c.fact 87 (f := .int "TILE_MOST" 16) rfl)
theorem tp_c_START_MOST (X : K.In h) (G : h.Ns mainGlobals mg) (c : He.SaysD faL fnL K) : ∃ t, mg "START_MOST" = some (.int 65535 t) := by
  exact He.int_ok X G (c.fact 88 (f := .int "START_MOST" 65535) rfl)
theorem tp_c_DIGITS_MOST (X : K.In h) (G : h.Ns mainGlobals mg) (c : He.SaysD faL fnL K) : ∃ t, mg "DIGITS_MOST" = some (.int 65535 t) := by
  exact He.int_ok X G (c.fact 89 (f := .int "DIGITS_MOST" 65535) rfl)
theorem tp_c_REGIONS_MOST (X : K.In h) (G : h.Ns mainGlobals mg) (c : He.SaysD faL fnL K) : ∃ t, mg "REGIONS_MOST" = some (.int 16 t) := by
  exact He.int_ok X G (c.fact 90 (f := .int "REGIONS_MOST" 16) rfl)
theorem tp_c_BOOST_MOST (X : K.In h) (G : h.Ns mainGlobals mg) (c : He.SaysD faL fnL K) : ∃ t, mg "BOOST_MOST" = some (.int 16 t) := by
  exact He.int_ok X G (c.fact 91 (f := .int "BOOST_MOST" 16) rfl)
theorem tp_n_range (X : K.In h) (G : h.Ns mainGlobals mg) (c : He.SaysD faL fnL K) : mg "range" = none := by
  exact He.free_ok X G (c.fact 92 (f := .free "range") rfl)
theorem tp_n_reversed (X : K.In h) (G : h.Ns mainGlobals mg) (c : He.SaysD faL fnL K) : mg "reversed" = none := by
  exact He.free_ok X G (c.fact 93 (f := .free "reversed") rfl)
theorem tp_n_len (X : K.In h) (G : h.Ns mainGlobals mg) (c : He.SaysD faL fnL K) : mg "len" = none := by
  exact He.free_ok X G (c.fact 94 (f := .free "len") rfl)
theorem tp_n_min (X : K.In h) (G : h.Ns mainGlobals mg) (c : He.SaysD faL fnL K) : mg "min" = none := by
  exact He.free_ok X G (c.fact 95 (f := .free "min") rfl)
theorem tp_n_max (X : K.In h) (G : h.Ns mainGlobals mg) (c : He.SaysD faL fnL K) : mg "max" = none := by
  exact He.free_ok X G (c.fact 96 (f := .free "max") rfl)
theorem tp_n_list (X : K.In h) (G : h.Ns mainGlobals mg) (c : He.SaysD faL fnL K) : mg "list" = none := by
  exact He.free_ok X G (c.fact 97 (f := .free "list") rfl)
theorem tp_n_divmod (X : K.In h) (G : h.Ns mainGlobals mg) (c : He.SaysD faL fnL K) : mg "divmod" = none := by
  exact He.free_ok X G (c.fact 98 (f := .free "divmod") rfl)
theorem tp_n_sorted (X : K.In h) (G : h.Ns mainGlobals mg) (c : He.SaysD faL fnL K) : mg "sorted" = none := by
  exact He.free_ok X G (c.fact 99 (f := .free "sorted") rfl)
theorem tp_n_zip (X : K.In h) (G : h.Ns mainGlobals mg) (c : He.SaysD faL fnL K) : mg "zip" = none := by
  exact He.free_ok X G (c.fact 100 (f := .free "zip") rfl)
theorem tp_n_enumerate (X : K.In h) (G : h.Ns mainGlobals mg) (c : He.SaysD faL fnL K) : mg "enumerate" = none := by
  exact He.free_ok X G (c.fact 101 (f := .free "enumerate") rfl)
theorem tp_n_abs (X : K.In h) (G : h.Ns mainGlobals mg) (c : He.SaysD faL fnL K) : mg "abs" = none := by
  exact He.free_ok X G (c.fact 102 (f := .free "abs") rfl)
theorem tp_n_int (X : K.In h) (G : h.Ns mainGlobals mg) (c : He.SaysD faL fnL K) : mg "int" = none := by
  exact He.free_ok X G (c.fact 103 (f := .free "int") rfl)
theorem tp_n_isinstance (X : K.In h) (G : h.Ns mainGlobals mg) (c : He.SaysD faL fnL K) : mg "isinstance" = none := by
  exact He.free_ok X G (c.fact 104 (f := .free "isinstance") rfl)
theorem tp_n_str (X : K.In h) (G : h.Ns mainGlobals mg) (c : He.SaysD faL fnL K) : mg "str" = none := by
  exact He.free_ok X G (c.fact 105 (f := .free "str") rfl)
theorem tp_clF (X : K.In h) (G : h.Ns mainGlobals mg) (c : He.SaysD faL fnL K) : Cls K (He.ga K "Frame") := by
  exact He.cls_ok (c.fact 106 (f := .cls "Frame") rfl)
theorem tp_gF (X : K.In h) (G : h.Ns mainGlobals mg) (c : He.SaysD faL fnL K) : mg "Frame" = some (.ref (He.ga K "Frame")) := by
  exact He.glo_ok X G (c.fact 76 (f := .glo "Frame") rfl)
theorem tp_aF_width (X : K.In h) (G : h.Ns mainGlobals mg) (c : He.SaysD faL fnL K) : NoAttr K (He.ga K "Frame") "width" := by
  exact He.noat_ok (c.fact 107 (f := .noat "Frame" "width") rfl)
theorem tp_aF_height (X : K.In h) (G : h.Ns mainGlobals mg) (c : He.SaysD faL fnL K) : NoAttr K (He.ga K "Frame") "height" := by
  exact He.noat_ok (c.fact 108 (f := .noat "Frame" "height") rfl)
theorem tp_aF_depth (X : K.In h) (G : h.Ns mainGlobals mg) (c : He.SaysD faL fnL K) : NoAttr K (He.ga K "Frame") "depth" := by
  exact He.noat_ok (c.fact 109 (f := .noat "Frame" "depth") rfl)
theorem tp_aF_channels (X : K.In h) (G : h.Ns mainGlobals mg) (c : He.SaysD faL fnL K) : NoAttr K (He.ga K "Frame") "channels" := by
  exact He.noat_ok (c.fact 110 (f := .noat "Frame" "channels") rfl)
theorem tp_aF_tile (X : K.In h) (G : h.Ns mainGlobals mg) (c : He.SaysD faL fnL K) : NoAttr K (He.ga K "Frame") "tile" := by
  exact He.noat_ok (c.fact 111 (f := .noat "Frame" "tile") rfl)
theorem tp_iF (X : K.In h) (G : h.Ns mainGlobals mg) (c : He.SaysD faL fnL K) : InitAt K (He.ga K "Frame") "Frame.__init__" s_Frame_init ["self", "width", "height", "depth", "channels", "tile"] := by
  obtain ⟨fd, F⟩ := c.def_ 21 (d := d_Frame_init) rfl
  have F' := He5.fun_of (st := s_Frame_init) F
  exact ⟨_, fd, F', He.mkr_ok (c.fact 116 (f := .mkr "Frame") rfl), F'.binds (ps := ["self", "width", "height", "depth", "channels", "tile"]) fun _ _ _ _ _ _ us hl => match us, hl with | [_, _, _, _, _, _], _ => rfl⟩
theorem tp_m_Frame_across (X : K.In h) (G : h.Ns mainGlobals mg) (c : He.SaysD faL fnL K) : MethAt K (He.ga K "Frame") "across" "Frame.across" s_Frame_across ["self"] := by
  obtain ⟨fd, F⟩ := c.def_ 22 (d := d_Frame_across) rfl
  have F' := He5.fun_of (st := s_Frame_across) F
  exact ⟨_, fd, F', He.meth_ok (c.fact 112 (f := .meth "Frame" "across") rfl), F'.binds (ps := ["self"]) fun _ _ _ _ _ _ us hl => match us, hl with | [_], _ => rfl⟩
theorem tp_m_Frame_down (X : K.In h) (G : h.Ns mainGlobals mg) (c : He.SaysD faL fnL K) : MethAt K (He.ga K "Frame") "down" "Frame.down" s_Frame_down ["self"] := by
  obtain ⟨fd, F⟩ := c.def_ 23 (d := d_Frame_down) rfl
  have F' := He5.fun_of (st := s_Frame_down) F
  exact ⟨_, fd, F', He.meth_ok (c.fact 113 (f := .meth "Frame" "down") rfl), F'.binds (ps := ["self"]) fun _ _ _ _ _ _ us hl => match us, hl with | [_], _ => rfl⟩
theorem tp_m_Frame_tiles (X : K.In h) (G : h.Ns mainGlobals mg) (c : He.SaysD faL fnL K) : MethAt K (He.ga K "Frame") "tiles" "Frame.tiles" s_Frame_tiles ["self"] := by
  obtain ⟨fd, F⟩ := c.def_ 24 (d := d_Frame_tiles) rfl
  have F' := He5.fun_of (st := s_Frame_tiles) F
  exact ⟨_, fd, F', He.meth_ok (c.fact 114 (f := .meth "Frame" "tiles") rfl), F'.binds (ps := ["self"]) fun _ _ _ _ _ _ us hl => match us, hl with | [_], _ => rfl⟩
theorem tp_m_Frame_pixels (X : K.In h) (G : h.Ns mainGlobals mg) (c : He.SaysD faL fnL K) : MethAt K (He.ga K "Frame") "pixels" "Frame.pixels" s_Frame_pixels ["self"] := by
  obtain ⟨fd, F⟩ := c.def_ 25 (d := d_Frame_pixels) rfl
  have F' := He5.fun_of (st := s_Frame_pixels) F
  exact ⟨_, fd, F', He.meth_ok (c.fact 115 (f := .meth "Frame" "pixels") rfl), F'.binds (ps := ["self"]) fun _ _ _ _ _ _ us hl => match us, hl with | [_], _ => rfl⟩
theorem tp_clP (X : K.In h) (G : h.Ns mainGlobals mg) (c : He.SaysD faL fnL K) : Cls K (He.ga K "Picture") := by
  exact He.cls_ok (c.fact 117 (f := .cls "Picture") rfl)
theorem tp_gP (X : K.In h) (G : h.Ns mainGlobals mg) (c : He.SaysD faL fnL K) : mg "Picture" = some (.ref (He.ga K "Picture")) := by
  exact He.glo_ok X G (c.fact 77 (f := .glo "Picture") rfl)
theorem tp_aP_width (X : K.In h) (G : h.Ns mainGlobals mg) (c : He.SaysD faL fnL K) : NoAttr K (He.ga K "Picture") "width" := by
  exact He.noat_ok (c.fact 118 (f := .noat "Picture" "width") rfl)
theorem tp_aP_height (X : K.In h) (G : h.Ns mainGlobals mg) (c : He.SaysD faL fnL K) : NoAttr K (He.ga K "Picture") "height" := by
  exact He.noat_ok (c.fact 119 (f := .noat "Picture" "height") rfl)
theorem tp_aP_depth (X : K.In h) (G : h.Ns mainGlobals mg) (c : He.SaysD faL fnL K) : NoAttr K (He.ga K "Picture") "depth" := by
  exact He.noat_ok (c.fact 120 (f := .noat "Picture" "depth") rfl)
theorem tp_aP_channels (X : K.In h) (G : h.Ns mainGlobals mg) (c : He.SaysD faL fnL K) : NoAttr K (He.ga K "Picture") "channels" := by
  exact He.noat_ok (c.fact 121 (f := .noat "Picture" "channels") rfl)
theorem tp_aP_rows (X : K.In h) (G : h.Ns mainGlobals mg) (c : He.SaysD faL fnL K) : NoAttr K (He.ga K "Picture") "_rows" := by
  exact He.noat_ok (c.fact 122 (f := .noat "Picture" "_rows") rfl)
theorem tp_iP (X : K.In h) (G : h.Ns mainGlobals mg) (c : He.SaysD faL fnL K) : InitAt K (He.ga K "Picture") "Picture.__init__" s_Picture_init ["self", "width", "height", "depth", "channels", "values"] := by
  obtain ⟨fd, F⟩ := c.def_ 45 (d := d_Picture_init) rfl
  have F' := He5.fun_of (st := s_Picture_init) F
  exact ⟨_, fd, F', He.mkr_ok (c.fact 126 (f := .mkr "Picture") rfl), F'.binds (ps := ["self", "width", "height", "depth", "channels", "values"]) fun _ _ _ _ _ _ us hl => match us, hl with | [_, _, _, _, _, _], _ => rfl⟩
theorem tp_m_Picture_value (X : K.In h) (G : h.Ns mainGlobals mg) (c : He.SaysD faL fnL K) : MethAt K (He.ga K "Picture") "value" "Picture.value" s_Picture_value ["self", "channel", "pixel"] := by
  obtain ⟨fd, F⟩ := c.def_ 46 (d := d_Picture_value) rfl
  have F' := He5.fun_of (st := s_Picture_value) F
  exact ⟨_, fd, F', He.meth_ok (c.fact 123 (f := .meth "Picture" "value") rfl), F'.binds (ps := ["self", "channel", "pixel"]) fun _ _ _ _ _ _ us hl => match us, hl with | [_, _, _], _ => rfl⟩
theorem tp_m_Picture_rows (X : K.In h) (G : h.Ns mainGlobals mg) (c : He.SaysD faL fnL K) : MethAt K (He.ga K "Picture") "rows" "Picture.rows" s_Picture_rows ["self"] := by
  obtain ⟨fd, F⟩ := c.def_ 47 (d := d_Picture_rows) rfl
  have F' := He5.fun_of (st := s_Picture_rows) F
  exact ⟨_, fd, F', He.meth_ok (c.fact 124 (f := .meth "Picture" "rows") rfl), F'.binds (ps := ["self"]) fun _ _ _ _ _ _ us hl => match us, hl with | [_], _ => rfl⟩
theorem tp_m_Picture_same (X : K.In h) (G : h.Ns mainGlobals mg) (c : He.SaysD faL fnL K) : MethAt K (He.ga K "Picture") "same" "Picture.same" s_Picture_same ["self", "other"] := by
  obtain ⟨fd, F⟩ := c.def_ 48 (d := d_Picture_same) rfl
  have F' := He5.fun_of (st := s_Picture_same) F
  exact ⟨_, fd, F', He.meth_ok (c.fact 125 (f := .meth "Picture" "same") rfl), F'.binds (ps := ["self", "other"]) fun _ _ _ _ _ _ us hl => match us, hl with | [_, _], _ => rfl⟩
theorem tp_clA (X : K.In h) (G : h.Ns mainGlobals mg) (c : He.SaysD faL fnL K) : Cls K (He.ga K "Arrived") := by
  exact He.cls_ok (c.fact 127 (f := .cls "Arrived") rfl)
theorem tp_gA (X : K.In h) (G : h.Ns mainGlobals mg) (c : He.SaysD faL fnL K) : mg "Arrived" = some (.ref (He.ga K "Arrived")) := by
  exact He.glo_ok X G (c.fact 78 (f := .glo "Arrived") rfl)
theorem tp_aA_frame (X : K.In h) (G : h.Ns mainGlobals mg) (c : He.SaysD faL fnL K) : NoAttr K (He.ga K "Arrived") "frame" := by
  exact He.noat_ok (c.fact 128 (f := .noat "Arrived" "frame") rfl)
theorem tp_aA_texts (X : K.In h) (G : h.Ns mainGlobals mg) (c : He.SaysD faL fnL K) : NoAttr K (He.ga K "Arrived") "_texts" := by
  exact He.noat_ok (c.fact 129 (f := .noat "Arrived" "_texts") rfl)
theorem tp_iA (X : K.In h) (G : h.Ns mainGlobals mg) (c : He.SaysD faL fnL K) : InitAt K (He.ga K "Arrived") "Arrived.__init__" s_Arrived_init ["self", "frame"] := by
  obtain ⟨fd, F⟩ := c.def_ 31 (d := d_Arrived_init) rfl
  have F' := He5.fun_of (st := s_Arrived_init) F
  exact ⟨_, fd, F', He.mkr_ok (c.fact 133 (f := .mkr "Arrived") rfl), F'.binds (ps := ["self", "frame"]) fun _ _ _ _ _ _ us hl => match us, hl with | [_, _], _ => rfl⟩
theorem tp_m_Arrived_digits (X : K.In h) (G : h.Ns mainGlobals mg) (c : He.SaysD faL fnL K) : MethAt K (He.ga K "Arrived") "digits" "Arrived.digits" s_Arrived_digits ["self", "key"] := by
  obtain ⟨fd, F⟩ := c.def_ 32 (d := d_Arrived_digits) rfl
  have F' := He5.fun_of (st := s_Arrived_digits) F
  exact ⟨_, fd, F', He.meth_ok (c.fact 130 (f := .meth "Arrived" "digits") rfl), F'.binds (ps := ["self", "key"]) fun _ _ _ _ _ _ us hl => match us, hl with | [_, _], _ => rfl⟩
theorem tp_m_Arrived_accept (X : K.In h) (G : h.Ns mainGlobals mg) (c : He.SaysD faL fnL K) : MethAt K (He.ga K "Arrived") "accept" "Arrived.accept" s_Arrived_accept ["self", "key", "start", "bits"] := by
  obtain ⟨fd, F⟩ := c.def_ 33 (d := d_Arrived_accept) rfl
  have F' := He5.fun_of (st := s_Arrived_accept) F
  exact ⟨_, fd, F', He.meth_ok (c.fact 131 (f := .meth "Arrived" "accept") rfl), F'.binds (ps := ["self", "key", "start", "bits"]) fun _ _ _ _ _ _ us hl => match us, hl with | [_, _, _, _], _ => rfl⟩
theorem tp_m_Arrived_packets (X : K.In h) (G : h.Ns mainGlobals mg) (c : He.SaysD faL fnL K) : MethAt K (He.ga K "Arrived") "packets" "Arrived.packets" s_Arrived_packets ["self"] := by
  obtain ⟨fd, F⟩ := c.def_ 34 (d := d_Arrived_packets) rfl
  have F' := He5.fun_of (st := s_Arrived_packets) F
  exact ⟨_, fd, F', He.meth_ok (c.fact 132 (f := .meth "Arrived" "packets") rfl), F'.binds (ps := ["self"]) fun _ _ _ _ _ _ us hl => match us, hl with | [_], _ => rfl⟩
theorem top_of (X : K.In h) (G : h.Ns mainGlobals mg) (c : He.SaysD faL fnL K) : Top K mg (He.ga K "Frame") (He.ga K "Picture") (He.ga K "Arrived") :=
  { d_check_width := tp_d_check_width X G c,
    d_check_bits := tp_d_check_bits X G c,
    d_check_code := tp_d_check_code X G c,
    d_context := tp_d_context X G c,
    d_shares := tp_d_shares X G c,
    d_interval := tp_d_interval X G c,
    d_check_count := tp_d_check_count X G c,
    d_digits_value := tp_d_digits_value X G c,
    d_digits_text := tp_d_digits_text X G c,
    d_code := tp_d_code X G c,
    d_encode := tp_d_encode X G c,
    d_opens := tp_d_opens X G c,
    d_last_with_zero := tp_d_last_with_zero X G c,
    d_first_with_one := tp_d_first_with_one X G c,
    d_next_bit := tp_d_next_bit X G c,
    d_find_prefix := tp_d_find_prefix X G c,
    d_known_prefix := tp_d_known_prefix X G c,
    d_known := tp_d_known X G c,
    d_check_shape := tp_d_check_shape X G c,
    d_check_size := tp_d_check_size X G c,
    d_tile_corner := tp_d_tile_corner X G c,
    d_tile_size := tp_d_tile_size X G c,
    d_tile_pixels := tp_d_tile_pixels X G c,
    d_all_keys := tp_d_all_keys X G c,
    d_check_key := tp_d_check_key X G c,
    d_known_text := tp_d_known_text X G c,
    d_many_low := tp_d_many_low X G c,
    d_many_high := tp_d_many_high X G c,
    d_count_possible := tp_d_count_possible X G c,
    d_first_possible := tp_d_first_possible X G c,
    d_binary_value := tp_d_binary_value X G c,
    d_binary := tp_d_binary X G c,
    d_rank_among := tp_d_rank_among X G c,
    d_possible_at := tp_d_possible_at X G c,
    d_are_values := tp_d_are_values X G c,
    d_fits_frame := tp_d_fits_frame X G c,
    d_gray_bit := tp_d_gray_bit X G c,
    d_value_of := tp_d_value_of X G c,
    d_stored_bit := tp_d_stored_bit X G c,
    d_packet_bits := tp_d_packet_bits X G c,
    d_stored := tp_d_stored X G c,
    d_values := tp_d_values X G c,
    d_picture_of := tp_d_picture_of X G c,
    d_packet_code := tp_d_packet_code X G c,
    d_choices := tp_d_choices X G c,
    d_count_pictures := tp_d_count_pictures X G c,
    d_agrees := tp_d_agrees X G c,
    d_number_of := tp_d_number_of X G c,
    d_picture_at := tp_d_picture_at X G c,
    d_is_rectangle := tp_d_is_rectangle X G c,
    d_check_regions := tp_d_check_regions X G c,
    d_touches := tp_d_touches X G c,
    d_boost := tp_d_boost X G c,
    d_plan := tp_d_plan X G c,
    d_is_open := tp_d_is_open X G c,
    d_request := tp_d_request X G c,
    d_check_requests := tp_d_check_requests X G c,
    d_check_asked := tp_d_check_asked X G c,
    d_bits_needed := tp_d_bits_needed X G c,
    d_remainder_length := tp_d_remainder_length X G c,
    d_concluded := tp_d_concluded X G c,
    d_remainder := tp_d_remainder X G c,
    d_finish := tp_d_finish X G c,
    d_l_cell := tp_d_l_cell X G c,
    d_l_mixed := tp_d_l_mixed X G c,
    d_l_numbers := tp_d_l_numbers X G c,
    d_l_tiny := tp_d_l_tiny X G c,
    d_l_values := tp_d_l_values X G c,
    d_l_tiles := tp_d_l_tiles X G c,
    d_l_order := tp_d_l_order X G c,
    d_l_regions := tp_d_l_regions X G c,
    d_l_picture := tp_d_l_picture X G c,
    d_l_frame := tp_d_l_frame X G c,
    d_l_cut := tp_d_l_cut X G c,
    d_l_refused := tp_d_l_refused X G c,
    d_law := tp_d_law X G c,
    c_BITS_MOST := tp_c_BITS_MOST X G c,
    c_WIDTH_MOST := tp_c_WIDTH_MOST X G c,
    c_CODE_MOST := tp_c_CODE_MOST X G c,
    c_SIDE_MOST := tp_c_SIDE_MOST X G c,
    c_VALUES_MOST := tp_c_VALUES_MOST X G c,
    c_DEPTH_MOST := tp_c_DEPTH_MOST X G c,
    c_TILE_MOST := tp_c_TILE_MOST X G c,
    c_START_MOST := tp_c_START_MOST X G c,
    c_DIGITS_MOST := tp_c_DIGITS_MOST X G c,
    c_REGIONS_MOST := tp_c_REGIONS_MOST X G c,
    c_BOOST_MOST := tp_c_BOOST_MOST X G c,
    n_range := tp_n_range X G c,
    n_reversed := tp_n_reversed X G c,
    n_len := tp_n_len X G c,
    n_min := tp_n_min X G c,
    n_max := tp_n_max X G c,
    n_list := tp_n_list X G c,
    n_divmod := tp_n_divmod X G c,
    n_sorted := tp_n_sorted X G c,
    n_zip := tp_n_zip X G c,
    n_enumerate := tp_n_enumerate X G c,
    n_abs := tp_n_abs X G c,
    n_int := tp_n_int X G c,
    n_isinstance := tp_n_isinstance X G c,
    n_str := tp_n_str X G c,
    clF := tp_clF X G c,
    gF := tp_gF X G c,
    aF_width := tp_aF_width X G c,
    aF_height := tp_aF_height X G c,
    aF_depth := tp_aF_depth X G c,
    aF_channels := tp_aF_channels X G c,
    aF_tile := tp_aF_tile X G c,
    iF := tp_iF X G c,
    m_Frame_across := tp_m_Frame_across X G c,
    m_Frame_down := tp_m_Frame_down X G c,
    m_Frame_tiles := tp_m_Frame_tiles X G c,
    m_Frame_pixels := tp_m_Frame_pixels X G c,
    clP := tp_clP X G c,
    gP := tp_gP X G c,
    aP_width := tp_aP_width X G c,
    aP_height := tp_aP_height X G c,
    aP_depth := tp_aP_depth X G c,
    aP_channels := tp_aP_channels X G c,
    aP_rows := tp_aP_rows X G c,
    iP := tp_iP X G c,
    m_Picture_value := tp_m_Picture_value X G c,
    m_Picture_rows := tp_m_Picture_rows X G c,
    m_Picture_same := tp_m_Picture_same X G c,
    clA := tp_clA X G c,
    gA := tp_gA X G c,
    aA_frame := tp_aA_frame X G c,
    aA_texts := tp_aA_texts X G c,
    iA := tp_iA X G c,
    m_Arrived_digits := tp_m_Arrived_digits X G c,
    m_Arrived_accept := tp_m_Arrived_accept X G c,
    m_Arrived_packets := tp_m_Arrived_packets X G c }
theorem topx_of (X : K.In h) (G : h.Ns mainGlobals mg) (c : He.SaysD faL fnL K) (ex : exB K = true) : TopX K mg (He.ga K "OutOfRange") (He.ga K "OtherKind") (He.ma K (He.ga K "OutOfRange") "__init__") := by
  obtain ⟨fd, F⟩ := c.def_ 0 (d := d_OutOfRange_init) rfl
  have F' := He5.fun_of (st := s_OutOfRange_init) F
  obtain ⟨k1, k2, k3, k4⟩ := He.exc_ok (c.fact 134 (f := .exc "OtherKind") rfl)
  unfold exB at ex
  simp only [Bool.and_eq_true, decide_eq_true_eq] at ex
  obtain ⟨⟨⟨⟨⟨⟨⟨⟨q0, q1⟩, q2⟩, q3⟩, q4⟩, q5⟩, q6⟩, q7⟩, q8⟩ := ex
  have cls : ∃ nm q N bs bm sn sub ab col dd k0 k1 k2 k3 k5, K.lookup (He.ga K "OutOfRange") = some (excClassObj nm q (He.ga K "OutOfRange") N bs bm true sn sub ab col dd k0 k1 k2 k3 k5 "ValueError.__new__") ∧ PySem.HandSPX.refsVE bm = true := by
    split at q0
    · rename_i dict cd slots look
      split at q0
      · rename_i C1 tail s0 s1 s2 s3 new s5 hmro hslots
        simp only [Bool.and_eq_true, beq_iff_eq, Bool.not_eq_true'] at q0
        obtain ⟨⟨⟨⟨rfl, rfl⟩, nodel⟩, hasd⟩, refs⟩ := q0
        obtain ⟨a1, a2, a3, a4, a5, a6, a7, a8, a9, a10, a11⟩ := cd
        dsimp only at hmro nodel hasd
        subst hmro nodel hasd
        have hs : slots = #[s0, s1, s2, s3, some (.builtin "ValueError.__new__"), s5] := by
          obtain ⟨sl⟩ := slots
          simp only at hslots
          rw [hslots]
        subst hs
        exact ⟨_, _, _, _, _, _, _, _, _, _, _, _, _, _, _, look, refs⟩
      · cases q0
    · cases q0
  exact
    { gO := He.glo_ok X G (c.fact 79 (f := .glo "OutOfRange") rfl),
      oex := ⟨cls, q1, q2, q3, He.keep_ok (c.fact 139 (f := .keep "OutOfRange") rfl)⟩,
      iO := q4, tO := q5,
      fO := ⟨fd, F', F'.binds (ps := ["self", "name"]) fun _ _ _ _ _ _ us hl => match us, hl with | [_, _], _ => rfl⟩,
      noN := He.noat_ok (c.fact 138 (f := .noat "OutOfRange" "name") rfl),
      xf := ⟨q6, q7, q2, q8⟩,
      gK := He.glo_ok X G (c.fact 80 (f := .glo "OtherKind") rfl),
      xK := k1, kK := k2, bK := k3, tK := k4,
      eKK := He.exm_ok (c.fact 137 (f := .exm "OtherKind" "OtherKind" true) rfl),
      eOO := He.exm_ok (c.fact 135 (f := .exm "OutOfRange" "OutOfRange" true) rfl),
      eOK := He.exm_ok (c.fact 136 (f := .exm "OutOfRange" "OtherKind" false) rfl) }
end
end PK

set_option maxHeartbeats 0
namespace PK
open PySem PySem.Spec PyProof.Rows L2 Evl
theorem facts {P : Program} {w : World} {K : PySem.W.Frag} {h : Heap} {mg : Str → Option Value} {f : Addr} (X : K.In h) (G : h.Ns mainGlobals mg) (hfa : mg ("law" : Str) = some (.ref f)) (c : He.SaysD faL fnL K) (ex : exB K = true) :
    ∃ fd : FuncData, (∀ (s : Shared) (v : Value), BindsTo s fd ⟨[v], []⟩ [("_law_script", v)]) ∧ ∀ base : Heap, K.In base → base.Ns mainGlobals mg → FnOk P w K mg base CX0 22 f fd ["_law_script"] (spLaw K) := by
  obtain ⟨f', fd, F, m, ok⟩ := has_law (P := P) (w := w) (top_of X G c) (topx_of X G c ex)
  have e := hfa.symm.trans m
  cases e
  obtain ⟨oc, od, kV, doc, pm, an, cdv, ct, osl, rfl, _, _⟩ := F.ex
  exact ⟨_, fun s v => .of_eq (by rfl), fun base _ _ => ok base⟩
end PK
open PySem PySem.W PySem.Calls PyProof.Rows
theorem PySem.Challenge.cw_packetpicture_k65_whole_remainder_finish_holds : PySem.Challenge.rw_packetpicture_k65_whole_remainder_finish.Holds := by
  w_on; o_law
  refine HandSHeadRun.head_any (r := PK.RW) (q := view PK.RW.prog [111]) (H := PK.hkM) (ob := PK.obT) (M := 20000) (loose := PK.looseL) (d := HandSHeadRun.topDef PK.RW.prog 111) (kwd := []) PK.obT_eq
    (by kernel_rfl) (fun s => by kernel_rfl) PK.run (by kernel_rfl) (by kernel_rfl) (by kernel_rfl) (by rfl) (by first | assumption | decide +kernel) (by decide +kernel) ⟨rfl, rfl, rfl, rfl, rfl, by decide +kernel⟩ ?hw ?hc
  case hw => w_witness2
  case hc =>
    refine L2.walk_ofE (l := PySem.Challenge.rw_packetpicture_k65_whole_remainder_finish) (n := 63) (k := 22) (x := "_law_script") (CX := L2.CX0) rfl (by decide) (by kernel_rfl) ⟨rfl, by decide, by decide⟩ ?F (fun _ _ _ _ z => z)
    intro w mg fa h Y G hmg0
    obtain ⟨K, KX, c, ex⟩ := Y
    have hmg : mg ("law" : PySem.Str) = some (.ref fa) := by
      have e : (HandSHeadRun.topDef PK.RW.prog 111).name = ("law" : PySem.Str) := by kernel_rfl
      rw [← e]
      exact hmg0
    obtain ⟨fd, hb, hF⟩ := PK.facts (P := (PySem.Challenge.rw_packetpicture_k65_whole_remainder_finish).prog) (w := w) KX G hmg c ex
    exact ⟨K, fd, PK.spLaw K, KX, hb, fun H a ns hl _ hS => ⟨a, ns.map L2.V.int, rfl, hS, fun x hx => by
      obtain ⟨i, _, rfl⟩ := List.mem_map.mp hx
      exact ⟨i, rfl⟩, fun _ => rfl⟩, hF⟩
